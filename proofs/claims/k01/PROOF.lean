import PyProof.Rows.All
import Wide.All
import OpenK.AllK
import Wide.FinOn
import PyProof.EqAt
import PyProof.EqKinds
import PyProof.TupleCall
import HandS.ForMost
import HandS.Exc
import HandS.WordsExc
import HandS.Defaults
import HandS.Lambda
import HandS.Deep
import HandS.TupAny
import HandS.TupLe
import HandS.IsInst
import HandS.FStr
import HandS.Flow
import HandS.StrMore
import HandS.More
import KE.GoesMore
import KE.GoesEnum
import KE.GoesZip
import HandS.CallSlots
import HandS.Steps
import PyProof.Rows.StrMul
import HandS.Text
import HandS.List
import HandS.Ends
import HandS.HeadEnd
import HandS.Head0
import HandS.Head1
import HandS.Head2
import HandS.HeadHook1
import HandS.HeadHook2
import HandS.HeadHook3
import HandS.HeadHook4
import HandS.Property
import HandS.MakeKw
import HandS.MakeKwOnly
import KE.KFmtOwn
import OpenK.KOps
import OpenK.KMeth
import HandS.TupSets
import HandS.SortRule
import PyProof.WalksMore
import KE.KExcInit
import KE.KExcSuper
import KE.KSuper
import HandS.ExcInit
import HandS.Nested
import HandS.ExcSuper
import HandS.ExcIs
import KE.KExcIs
import HandS.ExcField
import HandS.ClsMeth
import PyProof.InstNe
import HandS.Star
import HandS.ExcCtx
import HandS.HotCalls
import HandS.EndTab
import KE.KOpsOwn
import HandS.Style
import KE.SortData
import KE.KSetDisp
import HandS.Strs
import HandS.Conv
import KE.KDictPairs
import HandS.Dict
import KE.KStateDown
import KE.KNestM
import PySem.Challenge.RW_hushaccord_k01_rows_and_signs
set_option Elab.async false
set_option linter.all false
section part_Mi0
set_option maxRecDepth 100000
set_option maxHeartbeats 2000000
/-! Mi, part 0: values as trees (T), the mirror's heap, how they lie in the abstract heap (Rep), what a step leaves (Ext), the readings of mirrors (tM, tSM). -/
namespace Mi
open PySem PySem.Spec PyProof.Rows L2

/-- a lambda's words: the qualified name, the parameters, the body, the scope; whether its one parameter has the default 0 -/
structure LamI where
  q : Str
  params : Arguments
  body : Expr
  scope : Scope
  dflt : Bool
/-- a value as a tree; ref: the i-th changeable object; fn: a lambda (its number in the law's text, its words, the maker's cells); fnc: .. lent to a call, the cells are the changeable objects from the n-th on; tpl: a tuple of which only its items are known (an item of enumerate, of zip) -/
inductive T where
  | non | bl (b : Bool) | int (i : Int) | str (s : Str)
  | tup (xs : List T) | lst (xs : List T) | frl (xs : List T)
  | dct (ks vs : List T)
  | obj (c : Str) (ns : List Str) (vs : List T)
  | ref (i : Nat)
  | exn (c : Str) (ns : List Str) (vs : List T)
  | cls (c : Str)
  | fn (k : Nat) (I : LamI) (C : List (Str × Addr))
  | fnc (k : Nat) (I : LamI) (C : List (Str × Addr)) (n : Nat)
  | tpl (xs : List T)
  deriving Inhabited
/-- a changeable object -/
inductive MO where
  | dead
  | lst (xs : List T)
  | dct (ks vs : List T)
  | ins (c : Str) (ns : List Str) (vs : List T)
  | tab (q : Str) (P : Addr)
  | cel (t : Option T)
  deriving Inhabited
abbrev MH := List MO
/-- an exception: its class, its fields -/
structure Exc where
  c : Str
  ns : List Str
  vs : List T
inductive R where
  | ok (t : T) (h : MH) | ex (x : Exc) (h : MH) | stuck
abbrev SM := List (Option T)
inductive SR where
  | nx (s : SM) (h : MH) | rt (t : T) (h : MH) | bk (s : SM) (h : MH) | ct (s : SM) (h : MH) | ex (x : Exc) (s : SM) (h : MH) | stuck
abbrev ME := SM → MH → R
abbrev MS := SM → MH → SR
def R.bind (r : R) (f : T → MH → R) : R := match r with
  | .ok t h => f t h
  | .ex x h => .ex x h
  | .stuck => .stuck

/-- trees by induction -/
theorem T.ind {P : T → Prop} (non : P .non) (bl : ∀ b, P (.bl b)) (int : ∀ i, P (.int i)) (str : ∀ s, P (.str s))
    (tup : ∀ xs, (∀ x ∈ xs, P x) → P (.tup xs)) (lst : ∀ xs, (∀ x ∈ xs, P x) → P (.lst xs)) (frl : ∀ xs, (∀ x ∈ xs, P x) → P (.frl xs))
    (dct : ∀ ks vs, (∀ x ∈ ks, P x) → (∀ x ∈ vs, P x) → P (.dct ks vs)) (obj : ∀ c ns vs, (∀ x ∈ vs, P x) → P (.obj c ns vs)) (ref : ∀ i, P (.ref i)) (exn : ∀ c ns vs, (∀ x ∈ vs, P x) → P (.exn c ns vs)) (cls : ∀ c, P (.cls c)) (fn : ∀ k I C, P (.fn k I C)) (fnc : ∀ k I C n, P (.fnc k I C n)) (tpl : ∀ xs, (∀ x ∈ xs, P x) → P (.tpl xs)) : ∀ t, P t := fun t =>
  T.rec (motive_1 := P) (motive_2 := fun xs => ∀ x ∈ xs, P x) non bl int str (fun xs h => tup xs h) (fun xs h => lst xs h) (fun xs h => frl xs h) (fun ks vs h1 h2 => dct ks vs h1 h2) (fun c ns vs h => obj c ns vs h) ref (fun c ns vs h => exn c ns vs h) cls fn fnc (fun xs h => tpl xs h)
    (fun x h => by cases h) (fun a l ha hl x hx => by
      rcases List.mem_cons.mp hx with e | e
      · exact e ▸ ha
      · exact hl x e) t

/-- the ghost: the changeable objects' places, the mirror's heap, places kept apart, the abstract heap -/
structure G where
  rho : List Addr
  h : MH
  pv : List Addr
  H : Hp
def G.hid (g : G) (a : Addr) : Prop := a ∈ g.pv ∨ ∃ (i : Nat) (o : MO), g.rho[i]? = some a ∧ g.h[i]? = some o ∧ o ≠ MO.dead
/-- the i-th changeable object stands at a and is not dead -/
def G.live (g : G) (i : Nat) (a : Addr) : Prop := g.rho[i]? = some a ∧ ∃ o : MO, g.h[i]? = some o ∧ o ≠ MO.dead
def KTup (K : PySem.W.Frag) (a : Addr) (xs : List V) : Prop := ∃ (o : Obj) (its : Array Value) (n : Nat), K.lookup a = some o ∧ o.cls = .type "tuple" ∧ o.data = .seq its n ∧ its.size ≤ sizeLine ∧ Vals xs its.toList
def KTx (K : PySem.W.Frag) (a : Addr) (xs : List V) : Prop := ∃ (o : Obj) (its : Array Value) (n : Nat), K.lookup a = some o ∧ o.cls = .type "tuple" ∧ o.dict = none ∧ o.data = .seq its n ∧ its.size ≤ sizeLine ∧ Vals xs its.toList
theorem KTx.tup {K : PySem.W.Frag} {a : Addr} {xs : List V} (h : KTx K a xs) : KTup K a xs := let ⟨o, its, n, h1, h2, _, h3, h4, h5⟩ := h; ⟨o, its, n, h1, h2, h3, h4, h5⟩
def KLst (K : PySem.W.Frag) (a : Addr) (xs : List V) : Prop := ∃ (o : Obj) (its : Array Value) (n : Nat), K.lookup a = some o ∧ o.cls = .type "list" ∧ o.dict = none ∧ o.data = .seq its n ∧ its.size ≤ sizeLine ∧ Vals xs its.toList
def keyT : Key → T
  | .inl i => .int i
  | .inr x => .str x
/-- the function data of a lambda -/
def lamFd (I : LamI) (C : List (Str × Addr)) (c' : Addr) (dv pm ctv : Value) : FuncData := { PySem.W.kla_fn "<lambda>" I.q I.params I.body I.scope (cloFrom C I.scope.names []) pm (.ref c') ctv with defaults := dv }
/-- a lambda's object at f -/
def DfO (dt : Addr) : HO := .ext fun h => ∃ tk : Tok, h.get? dt = some ({ cls := .type "tuple", data := .seq #[Value.int 0 tk] } : Obj)
def LamO (f : Addr) (I : LamI) (C : List (Str × Addr)) (c' : Addr) (dv : Value) : HO := .ext fun h => ∃ (od : Option Addr) (sl : Array (Option Value)) (pm ctv : Value), h.get? f = some (⟨.type "function", od, .func (lamFd I C c' dv pm ctv), sl⟩ : Obj)
/-- an exception of the class at C at a, its fields at d -/
def XO (C a d : Addr) : HO := .ext fun h => ∃ (oe : Obj) (vs : Array Value), h.get? a = some oe ∧ Zc (.ref C) (some d) oe ∧ oe.data = .fields vs
def FnR (g : G) (I : LamI) (C : List (Str × Addr)) (v : V) : Prop := ∃ f c' dv, v = .ref f ∧ (g.H f = some (LamO f I C c' dv) ∧ ¬ g.hid f) ∧ (g.H c' = some (LamX.CodeO c' I.q) ∧ ¬ g.hid c') ∧
  ((I.dflt = false ∧ dv = .none) ∨ (I.dflt = true ∧ ∃ dt, dv = .ref dt ∧ g.H dt = some (DfO dt) ∧ ¬ g.hid dt)) ∧
  ∀ y ∈ I.scope.names, y.2 = .free → ∃ c, C.lookup y.1 = some c
theorem FnR.subH {g g' : G} {I : LamI} {C : List (Str × Addr)} {v : V} (k : ∀ a o, g.H a = some o → ¬ g.hid a → (∃ φ, o = .ext φ) → g'.H a = some o ∧ ¬ g'.hid a) (h : FnR g I C v) : FnR g' I C v := by
  obtain ⟨f, c', dv, e1, ⟨h1, n1⟩, ⟨h2, n2⟩, h3, h4⟩ := h
  exact ⟨f, c', dv, e1, k _ _ h1 n1 ⟨_, rfl⟩, k _ _ h2 n2 ⟨_, rfl⟩, h3.imp id fun ⟨z, dt, z1, z2, z3⟩ => ⟨z, dt, z1, k _ _ z2 z3 ⟨_, rfl⟩⟩, h4⟩
section
variable (K : PySem.W.Frag) (mg : Str → Option Value)
mutual
def Rep (g : G) : T → V → Prop
  | .non, v => v = .non
  | .bl b, v => v = .bl b
  | .int i, v => v = .int i
  | .str s, v => v = .str s
  | .tup xs, v => ∃ p vs, v = .ref p ∧ (((∃ o : Obj, g.H p = some (.frz o (.tup vs)) ∧ o.dict = none) ∧ ¬ g.hid p) ∨ KTx K p vs) ∧ RepL g xs vs
  | .lst xs, v => ∃ p vs, v = .ref p ∧ (g.H p = some (.lst vs) ∧ ¬ g.hid p) ∧ RepL g xs vs
  | .frl xs, v => ∃ p vs, v = .ref p ∧ (((∃ o, g.H p = some (.frz o (.lst vs))) ∧ ¬ g.hid p) ∨ KLst K p vs) ∧ RepL g xs vs
  | .dct ks vs, v => ∃ p kvs, v = .ref p ∧ (g.H p = some (.dK kvs) ∧ ¬ g.hid p) ∧ ks = kvs.map (fun q => keyT q.1) ∧ RepL g vs (kvs.map (·.2))
  | .obj c ns ts, v => ∃ p C dx fs, v = .ref p ∧ (g.H p = some (.ins C dx fs) ∧ ¬ g.hid p) ∧ mg c = some (.ref C) ∧ fs.map (·.1) = ns ∧ RepL g ts (fs.map (·.2))
  | .ref i, v => ∃ p, v = .ref p ∧ g.rho[i]? = some p
  | .exn c ns ts, v => ∃ p C d fs, v = .ref p ∧ (g.H p = some (XO C p d) ∧ ¬ g.hid p) ∧ (g.H d = some (.xd fs) ∧ ¬ g.hid d) ∧ mg c = some (.ref C) ∧ fs.map (·.1) = ns ∧ RepL g ts (fs.map (·.2))
  | .cls c, v => ∃ C, v = .ref C ∧ mg c = some (.ref C)
  | .fn _ I C, v => FnR g I C v
  | .tpl xs, v => ∃ p vs, v = .ref p ∧ (Rd g.H p (.tup vs) ∧ ¬ g.hid p) ∧ RepL g xs vs
  | .fnc _ I C n, v => FnR g I C v ∧ ∀ (i : Nat) y c, C[i]? = some (y, c) → g.rho[n + i]? = some c
def RepL (g : G) : List T → List V → Prop
  | [], vs => vs = []
  | t :: ts, vs => ∃ v r, vs = v :: r ∧ Rep g t v ∧ RepL g ts r
end
def RepO (g : G) (a : Addr) : MO → Prop
  | .dead => True
  | .lst xs => ∃ vs, g.H a = some (.lst vs) ∧ RepL K mg g xs vs
  | .dct ks ts => ∃ kvs, g.H a = some (.dK kvs) ∧ ks = kvs.map (fun q => keyT q.1) ∧ RepL K mg g ts (kvs.map (·.2))
  | .ins c ns ts => ∃ C dx fs, g.H a = some (.ins C dx fs) ∧ mg c = some (.ref C) ∧ fs.map (·.1) = ns ∧ RepL K mg g ts (fs.map (·.2))
  | .cel ot => ∃ o u, g.H a = some (.frz o (.own 0)) ∧ o.data = .cell u ∧ ∀ t, ot = some t → ∃ v u', u = some u' ∧ RelV v u' ∧ Rep K mg g t v
  | .tab q P => a = P ∧ ∃ ps : Array Value, g.H a = some (.tbl ps) ∧ TriplesOk ps.toList ∧ ∀ (pos : Pos) (cv : Value), codeAmong pos ps.toList = some cv → ∃ c, cv = .ref c ∧ g.H c = some (LamX.CodeO c q) ∧ ¬ g.hid c
def RepX (g : G) (x : Exc) (cls : Value) (d : Option Addr) : Prop :=
  ∃ C da fs, cls = .ref C ∧ mg x.c = some (.ref C) ∧ d = some da ∧ (g.H da = some (.xd fs) ∧ ¬ g.hid da) ∧ fs.map (·.1) = x.ns ∧ RepL K mg g x.vs (fs.map (·.2))
structure Rel (g : G) : Prop where
  len : g.rho.length = g.h.length
  inj : ∀ (i j : Nat) a, g.live i a → g.live j a → i = j
  npv : ∀ a ∈ g.pv, ∀ i : Nat, ¬ g.live i a
  pvt : ∀ a ∈ g.pv, ∃ o, g.H a = some o
  tr : ∀ (i : Nat) a, g.live i a → ∃ o, g.H a = some o
  obj : ∀ (i : Nat) a o, g.rho[i]? = some a → g.h[i]? = some o → RepO K mg g a o
def RepS (g : G) (s : SM) (σ : L2.St) : Prop := s.length = σ.length ∧ ∀ (i : Nat) t, s[i]? = some (some t) → ∃ v, σ[i]? = some (some v) ∧ Rep K mg g t v
end
structure Ext (g g' : G) : Prop where
  rho : ∀ (i : Nat) a, g.rho[i]? = some a → g'.rho[i]? = some a
  pv : g'.pv = g.pv
  pvk : ∀ a ∈ g.pv, g'.H a = g.H a
  keep : ∀ a o, g.H a = some o → ¬ g.hid a → g'.H a = some o ∧ ¬ g'.hid a
theorem Ext.refl (g : G) : Ext g g := ⟨fun _ _ h => h, rfl, fun _ _ => rfl, fun _ _ h n => ⟨h, n⟩⟩
theorem Ext.trans {a b c : G} (x : Ext a b) (y : Ext b c) : Ext a c :=
  ⟨fun i p h => y.rho i p (x.rho i p h), y.pv.trans x.pv, fun p h => (y.pvk p (by rw [x.pv]; exact h)).trans (x.pvk p h), fun p o h n => let ⟨h1, n1⟩ := x.keep p o h n; y.keep p o h1 n1⟩
section
variable {K : PySem.W.Frag} {mg : Str → Option Value} {g g' : G}
/-- what a representation leans on -/
structure Sub (g g' : G) : Prop where
  rho : ∀ (i : Nat) a, g.rho[i]? = some a → g'.rho[i]? = some a
  keep : ∀ a o, g.H a = some o → ¬ g.hid a → g'.H a = some o ∧ ¬ g'.hid a
theorem Ext.sub (e : Ext g g') : Sub g g' := ⟨e.rho, e.keep⟩
theorem RepL.monoOf : ∀ {ts : List T} {vs : List V}, (∀ t ∈ ts, ∀ v, Rep K mg g t v → Rep K mg g' t v) → RepL K mg g ts vs → RepL K mg g' ts vs
  | [], vs, _, h => by simpa only [RepL] using h
  | t :: ts, vs, f, h => by
    simp only [RepL] at h ⊢
    obtain ⟨v, r, e, h1, h2⟩ := h
    exact ⟨v, r, e, f t List.mem_cons_self v h1, RepL.monoOf (fun t ht => f t (List.mem_cons_of_mem _ ht)) h2⟩
theorem Rep.sub (e : Sub g g') : ∀ t v, Rep K mg g t v → Rep K mg g' t v := by
  intro t
  induction t using T.ind with
  | non => intro v h; simpa only [Rep] using h
  | bl b => intro v h; simpa only [Rep] using h
  | int i => intro v h; simpa only [Rep] using h
  | str s => intro v h; simpa only [Rep] using h
  | tup xs ih =>
    intro v h; simp only [Rep] at h ⊢
    obtain ⟨p, vs, e1, h1, h2⟩ := h
    refine ⟨p, vs, e1, ?_, RepL.monoOf ih h2⟩
    rcases h1 with ⟨⟨o, h1, hd⟩, n⟩ | h1
    · exact .inl ⟨⟨o, (e.keep _ _ h1 n).1, hd⟩, (e.keep _ _ h1 n).2⟩
    · exact .inr h1
  | tpl xs ih =>
    intro v h; simp only [Rep] at h ⊢
    obtain ⟨p, vs, e1, ⟨h1, n⟩, h2⟩ := h
    refine ⟨p, vs, e1, ?_, RepL.monoOf ih h2⟩
    rcases h1 with h1 | ⟨o, h1⟩
    · exact ⟨.inl (e.keep _ _ h1 n).1, (e.keep _ _ h1 n).2⟩
    · exact ⟨.inr ⟨o, (e.keep _ _ h1 n).1⟩, (e.keep _ _ h1 n).2⟩
  | lst xs ih =>
    intro v h; simp only [Rep] at h ⊢
    obtain ⟨p, vs, e1, ⟨h1, n⟩, h2⟩ := h
    exact ⟨p, vs, e1, e.keep _ _ h1 n, RepL.monoOf ih h2⟩
  | frl xs ih =>
    intro v h; simp only [Rep] at h ⊢
    obtain ⟨p, vs, e1, h1, h2⟩ := h
    refine ⟨p, vs, e1, ?_, RepL.monoOf ih h2⟩
    rcases h1 with ⟨⟨o, h1⟩, n⟩ | h1
    · exact .inl ⟨⟨o, (e.keep _ _ h1 n).1⟩, (e.keep _ _ h1 n).2⟩
    · exact .inr h1
  | dct ks vs ih1 ih2 =>
    intro v h; simp only [Rep] at h ⊢
    obtain ⟨p, kvs, e1, ⟨h1, n⟩, e2, h2⟩ := h
    exact ⟨p, kvs, e1, e.keep _ _ h1 n, e2, RepL.monoOf ih2 h2⟩
  | obj c ns vs ih =>
    intro v h; simp only [Rep] at h ⊢
    obtain ⟨p, C, dx, fs, e1, ⟨h1, n⟩, e2, e3, h2⟩ := h
    exact ⟨p, C, dx, fs, e1, e.keep _ _ h1 n, e2, e3, RepL.monoOf ih h2⟩
  | ref i =>
    intro v h; simp only [Rep] at h ⊢
    obtain ⟨p, e1, h1⟩ := h
    exact ⟨p, e1, e.rho _ _ h1⟩
  | cls c => intro v h; simpa only [Rep] using h
  | fn k I C =>
    intro v h; simp only [Rep] at h ⊢
    exact h.subH fun a o z1 z2 _ => e.keep a o z1 z2
  | fnc k I C n =>
    intro v h; simp only [Rep] at h ⊢
    exact ⟨h.1.subH fun a o z1 z2 _ => e.keep a o z1 z2, fun i y c hc => e.rho _ _ (h.2 i y c hc)⟩
  | exn c ns ts ih =>
    intro v h; simp only [Rep] at h ⊢
    obtain ⟨p, C, d, fs, e1, ⟨h1, n⟩, ⟨h2, n2⟩, e2, e3, h3⟩ := h
    exact ⟨p, C, d, fs, e1, e.keep _ _ h1 n, e.keep _ _ h2 n2, e2, e3, RepL.monoOf ih h3⟩
theorem RepL.sub (e : Sub g g') {ts : List T} {vs : List V} (h : RepL K mg g ts vs) : RepL K mg g' ts vs := RepL.monoOf (fun t _ v => Rep.sub e t v) h
theorem Rep.mono {t : T} {v : V} (h : Rep K mg g t v) (e : Ext g g') : Rep K mg g' t v := Rep.sub e.sub t v h
theorem RepL.mono {ts : List T} {vs : List V} (h : RepL K mg g ts vs) (e : Ext g g') : RepL K mg g' ts vs := RepL.sub e.sub h
theorem RepS.sub {s : SM} {σ : L2.St} (e : Sub g g') (h : RepS K mg g s σ) : RepS K mg g' s σ := ⟨h.1, fun i t q => let ⟨v, a, b⟩ := h.2 i t q; ⟨v, a, Rep.sub e t v b⟩⟩
theorem RepS.mono {s : SM} {σ : L2.St} (h : RepS K mg g s σ) (e : Ext g g') : RepS K mg g' s σ := h.sub e.sub
theorem RepX.mono {x : Exc} {cls : Value} {d : Option Addr} (h : RepX K mg g x cls d) (e : Ext g g') : RepX K mg g' x cls d := by
  obtain ⟨C, da, fs, e1, e2, e3, ⟨h1, n⟩, e4, h2⟩ := h
  exact ⟨C, da, fs, e1, e2, e3, e.keep _ _ h1 n, e4, h2.mono e⟩
theorem RepS.set {s : SM} {σ : L2.St} (h : RepS K mg g s σ) {t : T} {v : V} (r : Rep K mg g t v) (i : Nat) : RepS K mg g (s.set i (some t)) (σ.set i (some v)) := by
  refine ⟨by rw [List.length_set, List.length_set, h.1], fun j u q => ?_⟩
  by_cases e : i = j
  · subst e
    rw [List.getElem?_set] at q
    rw [List.getElem?_set]
    by_cases l : i < s.length
    · simp only [l, if_true, Option.some.injEq] at q
      subst q
      simp only [← h.1, l, if_true]
      exact ⟨v, rfl, r⟩
    · simp only [if_true, l, if_false] at q
      cases q
  · rw [List.getElem?_set_ne e] at q ⊢
    exact h.2 j u q
theorem RepL.length : ∀ {ts : List T} {vs : List V}, RepL K mg g ts vs → ts.length = vs.length
  | [], vs, h => by
    simp only [RepL] at h
    rw [h]
    all_goals rfl
  | t :: ts, vs, h => by
    simp only [RepL] at h
    obtain ⟨v, r, e, _, h2⟩ := h
    rw [e, List.length_cons, List.length_cons, h2.length]
theorem RepL.get : ∀ {ts : List T} {vs : List V} {i : Nat} {t : T}, RepL K mg g ts vs → ts[i]? = some t → ∃ v, vs[i]? = some v ∧ Rep K mg g t v
  | [], _, i, t, _, e => by simp at e
  | u :: ts, vs, 0, t, h, e => by
    simp only [RepL] at h
    obtain ⟨v, r, q, h1, h2⟩ := h
    simp at e; subst e; subst q
    exact ⟨v, rfl, h1⟩
  | u :: ts, vs, i + 1, t, h, e => by
    simp only [RepL] at h
    obtain ⟨v, r, q, h1, h2⟩ := h
    subst q
    have z := RepL.get (i := i) (t := t) h2 (by simpa using e)
    simpa using z
theorem RepL.get' {ts : List T} {vs : List V} {i : Nat} {v : V} (h : RepL K mg g ts vs) (e : vs[i]? = some v) : ∃ t, ts[i]? = some t ∧ Rep K mg g t v := by
  have hl : i < ts.length := by rw [h.length]; exact (List.getElem?_eq_some_iff.mp e).1
  obtain ⟨v', e1, r⟩ := h.get (List.getElem?_eq_getElem hl)
  rw [e] at e1; cases e1
  exact ⟨_, List.getElem?_eq_getElem hl, r⟩
theorem RepL.nil : RepL K mg g [] [] := by simp only [RepL]
theorem RepL.cons {t : T} {v : V} {ts : List T} {vs : List V} (h1 : Rep K mg g t v) (h2 : RepL K mg g ts vs) : RepL K mg g (t :: ts) (v :: vs) := by
  simp only [RepL]; exact ⟨v, vs, rfl, h1, h2⟩
theorem RepL.append : ∀ {ts us : List T} {vs ws : List V}, RepL K mg g ts vs → RepL K mg g us ws → RepL K mg g (ts ++ us) (vs ++ ws)
  | [], us, vs, ws, h, q => by
    simp only [RepL] at h
    subst h; exact q
  | t :: ts, us, vs, ws, h, q => by
    simp only [RepL] at h
    obtain ⟨v, r, e, h1, h2⟩ := h
    subst e
    exact RepL.cons h1 (RepL.append h2 q)
theorem RepL.drop : ∀ {ts : List T} {vs : List V} (n : Nat), RepL K mg g ts vs → RepL K mg g (ts.drop n) (vs.drop n)
  | _, _, 0, h => h
  | [], vs, n + 1, h => by
    simp only [RepL] at h
    subst h; exact RepL.nil
  | t :: ts, vs, n + 1, h => by
    simp only [RepL] at h
    obtain ⟨v, r, e, h1, h2⟩ := h
    subst e
    exact RepL.drop n h2
theorem RepL.take : ∀ {ts : List T} {vs : List V} (n : Nat), RepL K mg g ts vs → RepL K mg g (ts.take n) (vs.take n)
  | ts, vs, 0, h => by
    rw [List.take_zero, List.take_zero]
    exact RepL.nil
  | [], vs, n + 1, h => by
    simp only [RepL] at h
    subst h; exact RepL.nil
  | t :: ts, vs, n + 1, h => by
    simp only [RepL] at h
    obtain ⟨v, r, e, h1, h2⟩ := h
    subst e
    exact RepL.cons h1 (RepL.take n h2)
theorem RepL.set : ∀ {ts : List T} {vs : List V} {t : T} {v : V} (i : Nat), RepL K mg g ts vs → Rep K mg g t v → RepL K mg g (ts.set i t) (vs.set i v)
  | [], vs, t, v, i, h, r => by
    simp only [RepL] at h
    subst h; exact RepL.nil
  | u :: ts, vs, t, v, 0, h, r => by
    simp only [RepL] at h
    obtain ⟨w, q, e, h1, h2⟩ := h
    subst e; exact RepL.cons r h2
  | u :: ts, vs, t, v, i + 1, h, r => by
    simp only [RepL] at h
    obtain ⟨w, q, e, h1, h2⟩ := h
    subst e; exact RepL.cons h1 (RepL.set i h2 r)
theorem RepL.one {t : T} {vs : List V} (h : RepL K mg g [t] vs) : ∃ v, vs = [v] ∧ Rep K mg g t v := by
  simp only [RepL] at h
  obtain ⟨v, r, e, h1, h2⟩ := h
  subst h2; exact ⟨v, e, h1⟩
theorem RepL.ints : ∀ (ns : List Int), RepL K mg g (ns.map T.int) (ns.map V.int)
  | [] => RepL.nil
  | n :: ns => RepL.cons (by simp only [Rep]) (RepL.ints ns)
theorem RepL.strs : ∀ (ns : List Str), RepL K mg g (ns.map T.str) (ns.map V.str)
  | [] => RepL.nil
  | n :: ns => RepL.cons (by simp only [Rep]) (RepL.strs ns)
theorem RepL.bls : ∀ (ns : List Bool), RepL K mg g (ns.map T.bl) (ns.map V.bl)
  | [] => RepL.nil
  | n :: ns => RepL.cons (by simp only [Rep]) (RepL.bls ns)
theorem Rep.sqT {xs : List T} {v : V} (h : Rep K mg g (.tup xs) v) : ∃ p vs, v = .ref p ∧ SqT K g.H p vs ∧ RepL K mg g xs vs := by
  simp only [Rep] at h
  obtain ⟨p, vs, e, h1, h2⟩ := h
  exact ⟨p, vs, e, h1.elim (fun z => let ⟨⟨o, a, _⟩, _⟩ := z; .inl (.inr ⟨o, a⟩)) fun z => .inr z.tup, h2⟩
theorem Rep.sqX {xs : List T} {v : V} (h : Rep K mg g (.tup xs) v) : ∃ p vs, v = .ref p ∧ ((∃ o : Obj, g.H p = some (.frz o (.tup vs)) ∧ o.dict = none) ∨ KTx K p vs) ∧ RepL K mg g xs vs := by
  simp only [Rep] at h
  obtain ⟨p, vs, e, h1, h2⟩ := h
  exact ⟨p, vs, e, h1.elim (fun z => .inl z.1) .inr, h2⟩
theorem Rep.sqP {xs : List T} {v : V} (h : Rep K mg g (.tpl xs) v) : ∃ p vs, v = .ref p ∧ SqT K g.H p vs ∧ RepL K mg g xs vs := by
  simp only [Rep] at h
  obtain ⟨p, vs, e, h1, h2⟩ := h
  exact ⟨p, vs, e, .inl h1.1, h2⟩
theorem Rep.sqL {xs : List T} {v : V} (h : Rep K mg g (.lst xs) v) : ∃ p vs, v = .ref p ∧ SqL K g.H p vs ∧ RepL K mg g xs vs := by
  simp only [Rep] at h
  obtain ⟨p, vs, e, h1, h2⟩ := h
  exact ⟨p, vs, e, .inl (.inl h1.1), h2⟩
theorem Rep.sqF {xs : List T} {v : V} (h : Rep K mg g (.frl xs) v) : ∃ p vs, v = .ref p ∧ SqL K g.H p vs ∧ RepL K mg g xs vs := by
  simp only [Rep] at h
  obtain ⟨p, vs, e, h1, h2⟩ := h
  exact ⟨p, vs, e, h1.elim (fun z => .inl (.inr z.1)) .inr, h2⟩
/-! ### a new value is laid -/
/-- g with o at a fresh place -/
def G.lay (g : G) (p : Addr) (o : HO) : G := { g with H := upd g.H p o }
theorem Rel.fresh_hid (R : Rel K mg g) {p : Addr} (hp : g.H p = none) (np : p ∉ g.pv) : ¬ g.hid p := by
  rintro (h | ⟨i, o, h1, h2, h3⟩)
  · exact np h
  · have := R.obj i p o h1 h2
    cases o with
    | dead => exact h3 rfl
    | lst xs => obtain ⟨vs, e, _⟩ := this; rw [hp] at e; cases e
    | dct ks ts => obtain ⟨vs, e, _⟩ := this; rw [hp] at e; cases e
    | ins c ns ts => obtain ⟨C, dx, fs, e, _⟩ := this; rw [hp] at e; cases e
    | tab q P => obtain ⟨_, ps, e, _⟩ := this; rw [hp] at e; cases e
    | cel ot => obtain ⟨o, u, e, _⟩ := this; rw [hp] at e; cases e
theorem lay_sub {p : Addr} {o : HO} (hp : g.H p = none) : Sub g (g.lay p o) :=
  ⟨fun _ _ h => h, fun a u h n => ⟨by show upd g.H p o a = some u; rw [upd_ne (ne_of_none h hp)]; exact h, n⟩⟩
theorem RepO.sub {a : Addr} {o : MO} (e : Sub g g') (ho : ∀ u, g.H a = some u → g'.H a = some u) (h : RepO K mg g a o) : RepO K mg g' a o := by
  cases o with
  | dead => trivial
  | lst xs => obtain ⟨vs, h1, h2⟩ := h; exact ⟨vs, ho _ h1, h2.sub e⟩
  | dct ks ts => obtain ⟨kvs, h1, h2, h3⟩ := h; exact ⟨kvs, ho _ h1, h2, h3.sub e⟩
  | ins c ns ts => obtain ⟨C, dx, fs, h1, h2, h3, h4⟩ := h; exact ⟨C, dx, fs, ho _ h1, h2, h3, h4.sub e⟩
  | cel ot => obtain ⟨ob, u, h1, h2, h3⟩ := h; exact ⟨ob, u, ho _ h1, h2, fun t z => let ⟨v, u', z1, z2, z3⟩ := h3 t z; ⟨v, u', z1, z2, Rep.sub e t v z3⟩⟩
  | tab q P =>
    obtain ⟨h0, ps, h1, h2, h3⟩ := h
    exact ⟨h0, ps, ho _ h1, h2, fun pos cv hc => let ⟨c, z1, z2, z3⟩ := h3 pos cv hc; ⟨c, z1, e.keep _ _ z2 z3⟩⟩
theorem lay_ext {p : Addr} {o : HO} (R : Rel K mg g) (hp : g.H p = none) : Ext g (g.lay p o) :=
  ⟨(lay_sub hp).rho, rfl, fun a ha => by
    obtain ⟨u, e⟩ := R.pvt a ha
    show upd g.H p o a = g.H a
    rw [upd_ne (ne_of_none e hp)], (lay_sub hp).keep⟩
theorem Rel.lay {p : Addr} {o : HO} (R : Rel K mg g) (hp : g.H p = none) : Rel K mg (g.lay p o) :=
  ⟨R.len, R.inj, R.npv, fun a ha => by
    obtain ⟨u, e⟩ := R.pvt a ha
    exact ⟨u, by show upd g.H p o a = some u; rw [upd_ne (ne_of_none e hp)]; exact e⟩, fun i a ha => by
    obtain ⟨u, e⟩ := R.tr i a ha
    exact ⟨u, by show upd g.H p o a = some u; rw [upd_ne (ne_of_none e hp)]; exact e⟩, fun i a u h1 h2 => (R.obj i a u h1 h2).sub (lay_sub hp) fun w hw => by
    show upd g.H p o a = some w
    rw [upd_ne (ne_of_none hw hp)]; exact hw⟩
theorem Rel.no_pv (R : Rel K mg g) {p : Addr} (hp : g.H p = none) : p ∉ g.pv := fun h => by
  obtain ⟨u, e⟩ := R.pvt p h
  rw [hp] at e; cases e
theorem Rel.nohid (R : Rel K mg g) {p : Addr} (hp : g.H p = none) : ¬ g.hid p := R.fresh_hid hp (R.no_pv hp)
theorem rep_tup {p : Addr} {xs : List T} {vs : List V} {o : Obj} (R : Rel K mg g) (hp : g.H p = none) (hd : o.dict = none) (r : RepL K mg g xs vs) : Rep K mg (g.lay p (.frz o (.tup vs))) (.tup xs) (.ref p) := by
  simp only [Rep]
  exact ⟨p, vs, rfl, .inl ⟨⟨o, upd_same, hd⟩, R.nohid hp⟩, r.sub (lay_sub hp)⟩
theorem rep_tpl {p : Addr} {xs : List T} {vs : List V} (R : Rel K mg g) (hp : g.H p = none) (r : RepL K mg g xs vs) : Rep K mg (g.lay p (.tup vs)) (.tpl xs) (.ref p) := by
  simp only [Rep]
  exact ⟨p, vs, rfl, ⟨.inl upd_same, R.nohid hp⟩, r.sub (lay_sub hp)⟩
theorem rep_lst {p : Addr} {xs : List T} {vs : List V} (R : Rel K mg g) (hp : g.H p = none) (r : RepL K mg g xs vs) : Rep K mg (g.lay p (.lst vs)) (.lst xs) (.ref p) := by
  simp only [Rep]
  exact ⟨p, vs, rfl, ⟨upd_same, R.nohid hp⟩, r.sub (lay_sub hp)⟩
end
/-! ### the readings of mirrors -/
section
variable (K : PySem.W.Frag) (mg : Str → Option Value) (W : WX)
def wpR (g : G) (σ : L2.St) (Q : VK) : R → Prop
  | .ok t h' => ∀ g' v, g'.h = h' → Ext g g' → Rel K mg g' → Rep K mg g' t v → Q v g'.H
  | .ex x h' => ∀ g' cls d, g'.h = h' → Ext g g' → Rel K mg g' → RepX K mg g' x cls d → W cls d σ g'.H
  | .stuck => False
def tM (m : ME) : TE := fun σ H Q => ∃ g s, g.H = H ∧ Rel K mg g ∧ RepS K mg g s σ ∧ wpR K mg W g σ Q (m s g.h)
def wpS (g : G) (D : Ends) : SR → Prop
  | .nx s' h' => ∀ g' σ', g'.h = h' → Ext g g' → Rel K mg g' → RepS K mg g' s' σ' → D.nx σ' g'.H
  | .bk s' h' => ∀ g' σ', g'.h = h' → Ext g g' → Rel K mg g' → RepS K mg g' s' σ' → D.bk σ' g'.H
  | .ct s' h' => ∀ g' σ', g'.h = h' → Ext g g' → Rel K mg g' → RepS K mg g' s' σ' → D.ct σ' g'.H
  | .rt t h' => ∀ g' v, g'.h = h' → Ext g g' → Rel K mg g' → Rep K mg g' t v → D.rt v g'.H
  | .ex x s' h' => ∀ g' σ' cls d, g'.h = h' → Ext g g' → Rel K mg g' → RepS K mg g' s' σ' → RepX K mg g' x cls d → W cls d σ' g'.H
  | .stuck => False
def tSM (m : MS) : TS := fun D σ H => ∃ g s, g.H = H ∧ Rel K mg g ∧ RepS K mg g s σ ∧ wpS K mg W g D (m s g.h)
end
theorem weakE {X : Cx} {e : Expr} {t t' : TE} (h : PE X e t) (k : ∀ σ H Q, t' σ H Q → t σ H Q) : PE X e t' := ⟨fun pins s σ H Q I q => h.run pins s σ H Q I (k σ H Q q)⟩
theorem weakT {X : Cx} {e : Expr} {t t' : TT} (h : PT X e t) (k : ∀ σ H Q, t' σ H Q → t σ H Q) : PT X e t' := ⟨fun pins s σ H Q I q => h.run pins s σ H Q I (k σ H Q q)⟩
theorem weakA {X : Cx} {e : List Expr} {t t' : TA} (h : PA X e t) (k : ∀ σ H Q, t' σ H Q → t σ H Q) : PA X e t' := ⟨fun p pins s σ H Q I q => h.run p pins s σ H Q I (k σ H Q q)⟩
theorem weakS {X : Cx} {e : Stmt} {t t' : TS} (h : PS X e t) (k : ∀ D σ H, t' D σ H → t D σ H) : PS X e t' := ⟨fun pins s σ H D I q => h.run pins s σ H D I (k D σ H q)⟩
theorem weakSs {X : Cx} {e : List Stmt} {t t' : TS} (h : PSs X e t) (k : ∀ D σ H, t' D σ H → t D σ H) : PSs X e t' := ⟨fun pins s σ H D I q => h.run pins s σ H D I (k D σ H q)⟩
section
variable {K : PySem.W.Frag} {mg : Str → Option Value} {W : WX} {g g' : G} {σ : L2.St} {Q Q' : VK} {D : Ends} {H : Hp}
theorem wpR.ext {r : R} (h : wpR K mg W g σ Q r) (e : Ext g g') : wpR K mg W g' σ Q r := by
  cases r with
  | ok t h' => exact fun g2 v q e2 => h g2 v q (e.trans e2)
  | ex x h' => exact fun g2 c d q e2 => h g2 c d q (e.trans e2)
  | stuck => exact h
theorem wpS.ext {r : SR} (h : wpS K mg W g D r) (e : Ext g g') : wpS K mg W g' D r := by
  cases r with
  | stuck => exact h
  | nx s' h' => exact fun g2 v q e2 => h g2 v q (e.trans e2)
  | bk s' h' => exact fun g2 v q e2 => h g2 v q (e.trans e2)
  | ct s' h' => exact fun g2 v q e2 => h g2 v q (e.trans e2)
  | rt s' h' => exact fun g2 v q e2 => h g2 v q (e.trans e2)
  | ex x s' h' => exact fun g2 v c d q e2 => h g2 v c d q (e.trans e2)
theorem wpR_bind {r : R} {f : T → MH → R} (h : wpR K mg W g σ Q (r.bind f)) (k : ∀ g' t v, Ext g g' → Rel K mg g' → Rep K mg g' t v → wpR K mg W g' σ Q (f t g'.h) → Q' v g'.H) : wpR K mg W g σ Q' r := by
  cases r with
  | ok t h' => exact fun g' v q e R r => k g' t v e R r (by subst q; exact wpR.ext h e)
  | ex x h' => exact h
  | stuck => exact h
/-- the value itself, as it stands -/
theorem wpR_here {t : T} {v : V} (h : wpR K mg W g σ Q (.ok t g.h)) (R : Rel K mg g) (r : Rep K mg g t v) : Q v g.H := h g v rfl (Ext.refl g) R r
/-- a new tuple, a new list -/
theorem wpR_tup {xs : List T} {vs : List V} {p : Addr} (h : wpR K mg W g σ Q (.ok (.tup xs) g.h)) (R : Rel K mg g) (r : RepL K mg g xs vs) (hp : g.H p = none) {o : Obj} (hd : o.dict = none) : Q (.ref p) (upd g.H p (.frz o (.tup vs))) :=
  h (g.lay p (.frz o (.tup vs))) (.ref p) rfl (lay_ext R hp) (R.lay hp) (rep_tup R hp hd r)
theorem wpR_lst {xs : List T} {vs : List V} {p : Addr} (h : wpR K mg W g σ Q (.ok (.lst xs) g.h)) (R : Rel K mg g) (r : RepL K mg g xs vs) (hp : g.H p = none) : Q (.ref p) (upd g.H p (.lst vs)) :=
  h (g.lay p (.lst vs)) (.ref p) rfl (lay_ext R hp) (R.lay hp) (rep_lst R hp r)
end
/-! ### expressions -/
section
variable {X : Cx} {W : WX} {a b c e : Expr} {ma mb mc : ME} {pos : Pos}
abbrev SE (X : Cx) (W : WX) (e : Expr) (m : ME) : Prop := PE X e (tM X.K X.mg W m)
def mVar (i : Nat) : ME := fun s h => match s[i]? with
  | some (some t) => .ok t h
  | _ => .stuck
def mC (t : T) : ME := fun _ h => .ok t h
theorem se_var {i : Nat} {x : Str} (hN : X.N[i]? = some x := by rfl) (hv : Vis X.env.scope x := by first | exact Or.inl rfl | exact Or.inr (Or.inl rfl) | exact Or.inr (Or.inr rfl)) (hd : (x == ("__debug__" : Str)) = false := by decide)
    (hcd : (x == ("__classdict__" : Str)) = false := by decide) : SE X W (.Name x pos) (mVar i) := by
  refine weakE (pe_var hN hv hd hcd) ?_
  rintro σ H Q ⟨g, s, rfl, R, S, h⟩
  unfold mVar at h
  split at h
  · rename_i t q
    obtain ⟨v, e1, r⟩ := S.2 i t q
    exact ⟨v, e1, wpR_here h R r⟩
  · exact h.elim
theorem se_c {t : T} {v : V} (he : PE X e (tC v)) (r : ∀ g, Rep X.K X.mg g t v) : SE X W e (mC t) := by
  refine weakE he ?_
  rintro σ H Q ⟨g, s, rfl, R, S, h⟩
  exact wpR_here h R (r g)
theorem se_int {i : Int} {j : Nat} : SE X W (.Constant (.int i) j pos) (mC (.int i)) := se_c pe_int fun g => by simp only [Rep]
theorem se_bl {i : Bool} {j : Nat} : SE X W (.Constant (.bool i) j pos) (mC (.bl i)) := se_c pe_bl fun g => by simp only [Rep]
theorem se_non {j : Nat} : SE X W (.Constant .none j pos) (mC .non) := se_c pe_non fun g => by simp only [Rep]
theorem se_str {i : Str} {j : Nat} : SE X W (.Constant (.str i) j pos) (mC (.str i)) := se_c pe_str fun g => by simp only [Rep]
/-- a rule's two-place operation and its mirror -/
def m2 (f : T → T → MH → R) (ma mb : ME) : ME := fun s h => (ma s h).bind fun t h1 => (mb s h1).bind fun u h2 => f t u h2
def OpM (X : Cx) (f : T → T → MH → R) (r : R2) : Prop := ∀ (W : WX) g σ t u x y Q, Rel X.K X.mg g → Rep X.K X.mg g t x → Rep X.K X.mg g u y → wpR X.K X.mg W g σ Q (f t u g.h) → r x y g.H Q
theorem use2 {f : T → T → MH → R} {r : R2} (hm : OpM X f r) {σ : L2.St} {H : Hp} {Q : VK} (h : tM X.K X.mg W (m2 f ma mb) σ H Q) : tOp r (tM X.K X.mg W ma) (tM X.K X.mg W mb) σ H Q := by
  obtain ⟨g, s, rfl, R, S, h⟩ := h
  refine ⟨g, s, rfl, R, S, wpR_bind h fun g1 t x e1 R1 r1 h1 => ⟨g1, s, rfl, R1, S.mono e1, wpR_bind h1 fun g2 u y e2 R2 r2 h2 => ?_⟩⟩
  exact hm W g2 σ t u x y Q R2 (r1.mono e2) r2 h2
theorem se_op {op : Operator} {f : T → T → MH → R} {r : R2} (ho : OpR X (binaryOp op) r) (hm : OpM X f r) (ha : SE X W a ma) (hb : SE X W b mb) : SE X W (.BinOp a op b pos) (m2 f ma mb) :=
  weakE (pe_op ho ha hb) fun _ _ _ h => use2 hm h
theorem se_cmp {op : CmpOp} {f : T → T → MH → R} {r : R2} (ho : OpR X (compareOp op) r) (hm : OpM X f r) (ha : SE X W a ma) (hb : SE X W b mb) (hmk : behindInMarks op b = false) : SE X W (.Compare a [op] [b] pos) (m2 f ma mb) :=
  weakE (pe_cmpR ho ha hb hmk) fun _ _ _ h => use2 hm h
end
end Mi
end part_Mi0
section part_Mi1
set_option maxRecDepth 100000
set_option maxHeartbeats 2000000
/-! Mi, part 1: operators by values. -/
namespace Mi
open PySem PySem.Spec PyProof.Rows L2
def big : Nat := 100000
theorem big_le {n : Nat} (h : n ≤ big) : n ≤ sizeLine := Nat.le_trans h (by rw [sizeLine_eq]; decide)
section
variable {X : Cx} {K : PySem.W.Frag} {mg : Str → Option Value} {W : WX} {g : G} {σ : L2.St} {Q : VK}
theorem rep_int {i : Int} {v : V} (h : Rep K mg g (.int i) v) : v = .int i := by simpa only [Rep] using h
theorem rep_str {i : Str} {v : V} (h : Rep K mg g (.str i) v) : v = .str i := by simpa only [Rep] using h
theorem rep_bl {i : Bool} {v : V} (h : Rep K mg g (.bl i) v) : v = .bl i := by simpa only [Rep] using h
theorem rep_non {v : V} (h : Rep K mg g .non v) : v = .non := by simpa only [Rep] using h
theorem rInt {i : Int} : Rep K mg g (.int i) (.int i) := by simp only [Rep]
theorem rStr {i : Str} : Rep K mg g (.str i) (.str i) := by simp only [Rep]
theorem rBl {i : Bool} : Rep K mg g (.bl i) (.bl i) := by simp only [Rep]
theorem rNon : Rep K mg g .non .non := by simp only [Rep]
theorem rep_lst_at {xs : List T} {v : V} (h : Rep K mg g (.lst xs) v) : ∃ p vs, v = .ref p ∧ g.H p = some (.lst vs) ∧ RepL K mg g xs vs := by
  simp only [Rep] at h
  obtain ⟨p, vs, e, h1, h2⟩ := h
  exact ⟨p, vs, e, h1.1, h2⟩
/-! ### + - * // % ** -/
def fAdd : T → T → MH → R := fun t u h => match t, u with
  | .int i, .int j => .ok (.int (i + j)) h
  | .str a, .str b => if a.length + b.length ≤ big then .ok (.str (a ++ b)) h else .stuck
  | .lst a, .lst b => if a.length + b.length ≤ big then .ok (.lst (a ++ b)) h else .stuck
  | .tup a, .tup b => if a.length + b.length ≤ big then .ok (.tup (a ++ b)) h else .stuck
  | _, _ => .stuck
/-- t + u, tuples; a new one is known as it stands -/
def rCatX (K : PySem.W.Frag) : R2 := fun x y H Q => ∃ a b xs ys, x = .ref a ∧ y = .ref b ∧ SqT K H a xs ∧ SqT K H b ys ∧ xs.length + ys.length ≤ sizeLine ∧ (xs = [] → Q (.ref b) H) ∧ (xs ≠ [] → ys = [] → Q (.ref a) H) ∧
  (xs ≠ [] → ys ≠ [] → ∀ (o : Obj) p, o.dict = none → H p = none → Q (.ref p) (upd H p (.frz o (.tup (xs ++ ys)))))
theorem op_catX : OpR X (binaryOp .Add) (rCatX X.K) := by
  intro pins s σ H x y v u Q I rx ry h
  obtain ⟨a, b, xs, ys, rfl, rfl, ha, hb, hz, q0, q1, q2⟩ := h
  cases rx
  cases ry
  obtain ⟨its, r1, p1, _⟩ := I.tuple ha
  obtain ⟨its2, r2, p2, _⟩ := I.tuple hb
  by_cases hx : xs = []
  · subst hx
    cases r1
    exact cat_tup0 p1 p2 ⟨.ref b, H, I, rfl, q0 rfl⟩
  · refine HT.cat_tup p1 p2 (fun z => hx (r1.nil_iff.mp z)) (fun z => ⟨.ref a, H, I, rfl, q1 hx (r2.nil_iff.mp z)⟩) (fun z => ?_) (by rw [← r1.length, ← r2.length]; exact hz)
    refine ⟨.ref s.heap.objs.size, _, I.laid (t' := s.toks) (o := .frz { cls := .type "tuple", data := .seq (its ++ its2).toArray } (.tup (xs ++ ys))) (fun b ob q => Heap.get?_push_of_some _ q) (Nat.le_refl _) ?_, rfl, q2 hx (fun w => z (r2.nil_iff.mpr w)) _ _ rfl (I.hok.fresh (Nat.le_refl _))⟩
    exact ⟨Heap.get?_push_size _ rfl, by rw [List.length_append]; exact hz, _, r1.append r2, IsTup.new _ _⟩
abbrev rAddV (K : PySem.W.Frag) : R2 := fun x y H Q => (rI0 fun i j => .int (i + j)) x y H Q ∨ (fun x y H Q => (∃ i j, x = .str i ∧ y = .str j ∧ i.length + j.length ≤ sizeLine ∧ Q (.str (i ++ j)) H) ∨ (fun x y H Q => rCat x y H Q ∨ rCatX K x y H Q) x y H Q) x y H Q
theorem op_addV : OpR X (binaryOp .Add) (rAddV X.K) := op_add.or (op_add_str.or (op_cat.or op_catX))
theorem mAddV : OpM X fAdd (rAddV X.K) := by
  intro W g σ t u x y Q R r1 r2 h
  cases t with
  | int i => cases u with
    | int j => rw [rep_int r1, rep_int r2]; exact .inl ⟨i, j, rfl, rfl, wpR_here h R rInt⟩
    | _ => exact h.elim
  | str a => cases u with
    | str b =>
      rw [rep_str r1, rep_str r2]
      unfold fAdd at h
      dsimp only at h
      split at h
      · rename_i q; exact .inr (.inl ⟨a, b, rfl, rfl, big_le q, wpR_here h R rStr⟩)
      · exact h.elim
    | _ => exact h.elim
  | lst a => cases u with
    | lst b =>
      obtain ⟨p, vs, rfl, h1, l1⟩ := rep_lst_at r1
      obtain ⟨q, ws, rfl, h2, l2⟩ := rep_lst_at r2
      unfold fAdd at h
      dsimp only at h
      split at h
      · rename_i z
        refine .inr (.inr (.inl ⟨p, q, vs, ws, rfl, rfl, h1, h2, big_le (by rw [← l1.length, ← l2.length]; exact z), fun r hr => wpR_lst h R (l1.append l2) hr⟩))
      · exact h.elim
    | _ => exact h.elim
  | tup a => cases u with
    | tup b =>
      obtain ⟨p, vs, e1, h1, l1⟩ := r1.sqT
      obtain ⟨q, ws, e2, h2, l2⟩ := r2.sqT
      subst e1 e2
      unfold fAdd at h
      dsimp only at h
      split at h
      · rename_i z
        refine .inr (.inr (.inr ⟨p, q, vs, ws, rfl, rfl, h1, h2, big_le (by rw [← l1.length, ← l2.length]; exact z), fun e => ?_, fun e1 e2 => ?_, fun e1 e2 o r hd hr => wpR_tup h R (l1.append l2) hr hd⟩))
        · subst e
          have : a = [] := List.eq_nil_of_length_eq_zero (by rw [l1.length]; rfl)
          subst this
          exact wpR_here h R r2
        · subst e2
          have : b = [] := List.eq_nil_of_length_eq_zero (by rw [l2.length]; rfl)
          subst this
          rw [List.append_nil] at h
          exact wpR_here h R r1
      · exact h.elim
    | _ => exact h.elim
  | _ => exact h.elim
/-- a rule on two ints -/
def fI (C : Int → Int → Bool) (f : Int → Int → T) : T → T → MH → R := fun t u h => match t, u with
  | .int i, .int j => if C i j then .ok (f i j) h else .stuck
  | _, _ => .stuck
theorem mI {Cb : Int → Int → Bool} {C : Int → Int → Prop} {f : Int → Int → T} {fV : Int → Int → V} (hC : ∀ i j, Cb i j = true → C i j) (hf : ∀ (K : PySem.W.Frag) mg g i j, Rep K mg g (f i j) (fV i j)) : OpM X (fI Cb f) (rI C fV) := by
  intro W g σ t u x y Q R r1 r2 h
  cases t with
  | int i => cases u with
    | int j =>
      rw [rep_int r1, rep_int r2]
      unfold fI at h
      dsimp only at h
      split at h
      · rename_i q; exact ⟨i, j, rfl, rfl, hC i j q, wpR_here h R (hf _ _ _ i j)⟩
      · exact h.elim
    | _ => exact h.elim
  | _ => exact h.elim
theorem mI0 {f : Int → Int → T} {fV : Int → Int → V} (hf : ∀ (K : PySem.W.Frag) mg g i j, Rep K mg g (f i j) (fV i j)) : OpM X (fI (fun _ _ => true) f) (rI0 fV) := by
  intro W g σ t u x y Q R r1 r2 h
  obtain ⟨i, j, e1, e2, _, q⟩ := mI (X := X) (Cb := fun _ _ => true) (C := fun _ _ => True) (fun _ _ _ => trivial) hf W g σ t u x y Q R r1 r2 h
  exact ⟨i, j, e1, e2, q⟩
def fSub := fI (fun _ _ => true) fun i j => .int (i - j)
theorem mSubV : OpM X fSub (rI0 fun i j => .int (i - j)) := mI0 fun _ _ _ _ _ => rInt
def fFdiv := fI (fun _ j => decide (0 < j) && decide (j < 1073741824)) fun i j => .int (i / j)
theorem mFdivV : OpM X fFdiv (rI CDiv fun i j => .int (i / j)) := mI (fun i j h => by simpa [CDiv] using h) fun _ _ _ _ _ => rInt
def fMod := fI (fun _ j => decide (0 < j)) fun i j => .int (i % j)
theorem mModV : OpM X fMod (rI (fun _ j => 0 < j) fun i j => .int (i % j)) := mI (fun i j h => by simpa using h) fun _ _ _ _ _ => rInt
def fPow := fI (fun i j => decide (0 ≤ j) && decide (j ≤ 1000) && decide (i.natAbs < 1000)) fun i j => .int (i ^ j.toNat)
theorem mPowV : OpM X fPow (rI CPow fun i j => .int (i ^ j.toNat)) := mI (fun i j h => by
  simp only [Bool.and_eq_true, decide_eq_true_eq] at h
  exact ⟨h.1.1, by omega, by omega⟩) fun _ _ _ _ _ => rInt
/-! ### comparisons of ints and texts -/
def fCmp (fi : Int → Int → Bool) (fs : List Nat → List Nat → Bool) : T → T → MH → R := fun t u h => match t, u with
  | .int i, .int j => .ok (.bl (fi i j)) h
  | .str a, .str b => .ok (.bl (fs a.cps.toList b.cps.toList)) h
  | _, _ => .stuck
abbrev rCmp (fi : Int → Int → Bool) (fs : List Nat → List Nat → Bool) : R2 := fun x y H Q => (rI0 fun i j => .bl (fi i j)) x y H Q ∨ (fun x y H Q => ∃ i j, x = .str i ∧ y = .str j ∧ Q (.bl (fs i.cps.toList j.cps.toList)) H) x y H Q
theorem mCmp {fi : Int → Int → Bool} {fs : List Nat → List Nat → Bool} : OpM X (fCmp fi fs) (rCmp fi fs) := by
  intro W g σ t u x y Q R r1 r2 h
  cases t with
  | int i => cases u with
    | int j => rw [rep_int r1, rep_int r2]; exact .inl ⟨i, j, rfl, rfl, wpR_here h R rBl⟩
    | _ => exact h.elim
  | str i => cases u with
    | str j => rw [rep_str r1, rep_str r2]; exact .inr ⟨i, j, rfl, rfl, wpR_here h R rBl⟩
    | _ => exact h.elim
  | _ => exact h.elim
def fLt := fCmp (fun i j => decide (i < j)) fun a b => decide (a < b)
def fLe := fCmp (fun i j => decide (i ≤ j)) fun a b => !decide (b < a)
def fGt := fCmp (fun i j => decide (j < i)) fun a b => decide (b < a)
def fGe := fCmp (fun i j => decide (j ≤ i)) fun a b => !decide (a < b)
theorem op_ltV : OpR X (compareOp .Lt) (rCmp (fun i j => decide (i < j)) fun a b => decide (a < b)) := op_lt.or op_lt_str
theorem op_leV : OpR X (compareOp .LtE) (rCmp (fun i j => decide (i ≤ j)) fun a b => !decide (b < a)) := op_le.or op_le_str
theorem op_gtV : OpR X (compareOp .Gt) (rCmp (fun i j => decide (j < i)) fun a b => decide (b < a)) := op_gt.or op_gt_str
theorem op_geV : OpR X (compareOp .GtE) (rCmp (fun i j => decide (j ≤ i)) fun a b => !decide (a < b)) := op_ge.or op_ge_str
theorem mLtV : OpM X fLt (rCmp (fun i j => decide (i < j)) fun a b => decide (a < b)) := mCmp
theorem mLeV : OpM X fLe (rCmp (fun i j => decide (i ≤ j)) fun a b => !decide (b < a)) := mCmp
theorem mGtV : OpM X fGt (rCmp (fun i j => decide (j < i)) fun a b => decide (b < a)) := mCmp
theorem mGeV : OpM X fGe (rCmp (fun i j => decide (j ≤ i)) fun a b => !decide (a < b)) := mCmp
/-! ### == of data -/
mutual
def toD : T → Option PyData
  | .non => some .none
  | .bl b => some (.bool b)
  | .int i => some (.int i)
  | .str s => some (.str s)
  | .tup xs => (toDs xs).map .tuple
  | .lst xs => (toDs xs).map .list
  | .frl xs => (toDs xs).map .list
  | .dct _ _ => none
  | .obj _ _ _ => none
  | .ref _ => none
  | .exn _ _ _ => none
  | .cls _ => none
  | .fn _ _ _ => none
  | .fnc _ _ _ _ => none
  | .tpl _ => none
def toDs : List T → Option (List PyData)
  | [] => some []
  | t :: ts => match toD t, toDs ts with
    | some d, some ds => some (d :: ds)
    | _, _ => none
end
theorem dpAll_of : ∀ {ts : List T} {vs : List V} {ds : List PyData}, (∀ t ∈ ts, ∀ v d, Rep K mg g t v → toD t = some d → Dp K g.H v d) → RepL K mg g ts vs → toDs ts = some ds → DpAll K g.H vs ds
  | [], vs, ds, _, r, e => by
    simp only [RepL] at r
    simp only [toDs] at e
    cases e; subst r
    exact .nil
  | t :: ts, vs, ds, f, r, e => by
    simp only [RepL] at r
    obtain ⟨v, w, rfl, r1, r2⟩ := r
    simp only [toDs] at e
    split at e
    · rename_i d1 ds1 e1 e2
      cases e
      exact .cons (f t List.mem_cons_self v d1 r1 e1) (dpAll_of (fun u hu => f u (List.mem_cons_of_mem _ hu)) r2 e2)
    · cases e
theorem dp_of : ∀ (t : T) (v : V) (d : PyData), Rep K mg g t v → toD t = some d → Dp K g.H v d := by
  intro t
  induction t using T.ind with
  | non => intro v d r e; rw [rep_non r]; simp only [toD] at e; cases e; exact .non
  | bl b => intro v d r e; rw [rep_bl r]; simp only [toD] at e; cases e; exact .bl b
  | int i => intro v d r e; rw [rep_int r]; simp only [toD] at e; cases e; exact .int i
  | str s => intro v d r e; rw [rep_str r]; simp only [toD] at e; cases e; exact .str s
  | tup xs ih =>
    intro v d r e
    simp only [toD] at e
    cases q : toDs xs with
    | none => rw [q] at e; cases e
    | some ds =>
      rw [q] at e; cases e
      obtain ⟨p, vs, e1, h1, l1⟩ := r.sqT
      subst e1
      exact .tup h1 (dpAll_of ih l1 q)
  | lst xs ih =>
    intro v d r e
    simp only [toD] at e
    cases q : toDs xs with
    | none => rw [q] at e; cases e
    | some ds =>
      rw [q] at e; cases e
      obtain ⟨p, vs, e1, h1, l1⟩ := r.sqL
      subst e1
      exact .lst h1 (dpAll_of ih l1 q)
  | frl xs ih =>
    intro v d r e
    simp only [toD] at e
    cases q : toDs xs with
    | none => rw [q] at e; cases e
    | some ds =>
      rw [q] at e; cases e
      obtain ⟨p, vs, e1, h1, l1⟩ := r.sqF
      subst e1
      exact .lst h1 (dpAll_of ih l1 q)
  | dct ks vs _ _ => intro v d r e; simp only [toD] at e; cases e
  | obj c ns vs _ => intro v d r e; simp only [toD] at e; cases e
  | ref i => intro v d r e; simp only [toD] at e; cases e
  | exn c ns vs _ => intro v d r e; simp only [toD] at e; cases e
  | cls c => intro v d r e; simp only [toD] at e; cases e
  | fn k I C => intro v d r e; simp only [toD] at e; cases e
  | fnc k I C n => intro v d r e; simp only [toD] at e; cases e
  | tpl xs _ => intro v d r e; simp only [toD] at e; cases e
/-- two values as data -/
def with2 (t u : T) (f : PyData → PyData → R) : R := match toD t, toD u with
  | some d, some e => if SeqAt.shaped d && SeqAt.shaped e then f d e else .stuck
  | _, _ => .stuck
theorem with2_ok {t u : T} {f : PyData → PyData → R} {C : Prop} (h : wpR K mg W g σ Q (with2 t u f)) (k : ∀ d e, toD t = some d → toD u = some e → SeqAt.shaped d = true → SeqAt.shaped e = true → wpR K mg W g σ Q (f d e) → C) : C := by
  unfold with2 at h
  split at h
  · rename_i d e h1 h2
    split at h
    · rename_i q
      obtain ⟨q1, q2⟩ := Bool.and_eq_true_iff.mp q
      exact k d e h1 h2 q1 q2 h
    · exact h.elim
  · exact h.elim
def fEq : T → T → MH → R := fun t u h => match t, u with
  | .str a, .str b => .ok (.bl (decide (a = b))) h
  | _, _ => with2 t u fun d e => .ok (.bl (PyData.eqv d e)) h
def fNe : T → T → MH → R := fun t u h => match t, u with
  | .str a, .str b => .ok (.bl (!decide (a = b))) h
  | _, _ => with2 t u fun d e => .ok (.bl (!PyData.eqv d e)) h
abbrev rEqA (K : PySem.W.Frag) : R2 := fun x y H Q => rEqD K x y H Q ∨ rEq x y H Q
abbrev rNeA (K : PySem.W.Frag) : R2 := fun x y H Q => rNeD K x y H Q ∨ rNe x y H Q
theorem op_eqA (hu : X.A.units + 64 < cLine) : OpR X (compareOp .Eq) (rEqA X.K) := (op_eqD hu).or op_eq
theorem op_neA (hu : X.A.units + 64 < cLine) : OpR X (compareOp .NotEq) (rNeA X.K) := (op_neD hu).or op_ne
theorem dec_strV {a b : Str} : decide (V.str a = V.str b) = decide (a = b) := by
  by_cases h : a = b
  · subst h; rw [decide_eq_true rfl, decide_eq_true rfl]
  · rw [decide_eq_false h, decide_eq_false fun e => h (by injection e)]
theorem mEqV : OpM X fEq (rEqA X.K) := by
  intro W g σ t u x y Q R r1 r2 h
  unfold fEq at h
  split at h
  · rename_i a b
    rw [rep_str r1, rep_str r2]
    refine .inr ⟨rfl, ?_⟩
    rw [dec_strV]
    exact wpR_here h R rBl
  · exact .inl (with2_ok h fun d e h1 h2 s1 s2 q => ⟨d, e, dp_of t x d r1 h1, dp_of u y e r2 h2, s1, s2, wpR_here q R rBl⟩)
theorem mNeV : OpM X fNe (rNeA X.K) := by
  intro W g σ t u x y Q R r1 r2 h
  unfold fNe at h
  split at h
  · rename_i a b
    rw [rep_str r1, rep_str r2]
    refine .inr ⟨rfl, ?_⟩
    rw [dec_strV]
    exact wpR_here h R rBl
  · exact .inl (with2_ok h fun d e h1 h2 s1 s2 q => ⟨d, e, dp_of t x d r1 h1, dp_of u y e r2 h2, s1, s2, wpR_here q R rBl⟩)
/-! ### is None, is True -/
def fIs (neg : Bool) : T → T → MH → R := fun t u h => match t, u with
  | .bl a, .bl b => .ok (.bl (if neg then !decide (a = b) else decide (a = b))) h
  | .non, .non => .ok (.bl (if neg then false else true)) h
  | .bl _, .non | .int _, .non | .str _, .non | .tup _, .non | .lst _, .non | .frl _, .non | .dct _ _, .non | .obj _ _ _, .non | .ref _, .non | .exn _ _ _, .non => .ok (.bl (if neg then true else false)) h
  | _, _ => .stuck
abbrev rIsV (neg : Bool) : R2 := fun x y H Q => (fun x y H Q => y = .non ∧ Q (.bl (if neg then !decide (x = .non) else decide (x = .non))) H) x y H Q ∨ (fun x y H Q => ∃ a b, x = .bl a ∧ y = .bl b ∧ Q (.bl (if neg then !decide (a = b) else decide (a = b))) H) x y H Q
theorem op_isV : OpR X (compareOp .Is) (rIsV false) := op_isN.or op_is_bl
theorem op_isnotV : OpR X (compareOp .IsNot) (rIsV true) := op_notN.or op_isnot_bl
theorem ref_no {p : Addr} : ¬ (V.ref p = V.non) := by intro h; cases h
theorem mIsV {neg : Bool} : OpM X (fIs neg) (rIsV neg) := by
  intro W g σ t u x y Q R r1 r2 h
  cases u with
  | non =>
    rw [rep_non r2]
    refine .inl ⟨rfl, ?_⟩
    have key : ∀ b : Bool, decide (x = V.non) = b → wpR X.K X.mg W g σ Q (.ok (.bl (if neg then !b else b)) g.h) → Q (.bl (if neg = true then !decide (x = V.non) else decide (x = V.non))) g.H := fun b e q => by
      rw [e]; exact wpR_here q R rBl
    cases t with
    | non => exact key true (by rw [rep_non r1]; rfl) h
    | bl b => exact key false (by rw [rep_bl r1]; rfl) h
    | int b => exact key false (by rw [rep_int r1]; rfl) h
    | str b => exact key false (by rw [rep_str r1]; rfl) h
    | tup b => obtain ⟨p, _, e, _⟩ := r1.sqT; exact key false (by rw [e]; rfl) h
    | lst b => obtain ⟨p, _, e, _⟩ := r1.sqL; exact key false (by rw [e]; rfl) h
    | frl b => obtain ⟨p, _, e, _⟩ := r1.sqF; exact key false (by rw [e]; rfl) h
    | dct a b => simp only [Rep] at r1; obtain ⟨p, _, e, _⟩ := r1; exact key false (by rw [e]; rfl) h
    | obj a b c => simp only [Rep] at r1; obtain ⟨p, _, _, _, e, _⟩ := r1; exact key false (by rw [e]; rfl) h
    | ref i => simp only [Rep] at r1; obtain ⟨p, e, _⟩ := r1; exact key false (by rw [e]; rfl) h
    | cls a => exact h.elim
    | fn a b c => exact h.elim
    | fnc a b c d => exact h.elim
    | tpl a => exact h.elim
    | exn a b c => simp only [Rep] at r1; obtain ⟨p, _, _, _, e, _⟩ := r1; exact key false (by rw [e]; rfl) h
  | bl b => cases t with
    | bl a => rw [rep_bl r1, rep_bl r2]; exact .inr ⟨a, b, rfl, rfl, wpR_here h R rBl⟩
    | _ => exact h.elim
  | _ => cases t <;> exact h.elim
end
end Mi
end part_Mi1
section part_Mi2
set_option maxRecDepth 100000
set_option maxHeartbeats 2000000
/-! Mi, part 2: tests, conditional expressions, argument lists, displays, subscripts, slices, built-in functions. -/
namespace Mi
open PySem PySem.Spec PyProof.Rows L2
section
variable {X : Cx} {K : PySem.W.Frag} {mg : Str → Option Value} {W : WX} {g : G} {σ : L2.St} {Q : VK}
/-! ### tests -/
def wpT (K : PySem.W.Frag) (mg : Str → Option Value) (W : WX) (g : G) (σ : L2.St) (Q : Bool → Hp → Prop) : R → Prop
  | .ok (.bl b) h' => ∀ g', g'.h = h' → Ext g g' → Rel K mg g' → Q b g'.H
  | .ok _ _ => False
  | .ex x h' => ∀ g' cls d, g'.h = h' → Ext g g' → Rel K mg g' → RepX K mg g' x cls d → W cls d σ g'.H
  | .stuck => False
def tMT (K : PySem.W.Frag) (mg : Str → Option Value) (W : WX) (m : ME) : TT := fun σ H Q => ∃ g s, g.H = H ∧ Rel K mg g ∧ RepS K mg g s σ ∧ wpT K mg W g σ Q (m s g.h)
abbrev ST (X : Cx) (W : WX) (e : Expr) (m : ME) : Prop := PT X e (tMT X.K X.mg W m)
theorem wpT.ext {Q : Bool → Hp → Prop} {g g' : G} {r : R} (h : wpT K mg W g σ Q r) (e : Ext g g') : wpT K mg W g' σ Q r := by
  cases r with
  | ok t h' => cases t with
    | bl b => exact fun g2 q e2 => h g2 q (e.trans e2)
    | _ => exact h
  | ex x h' => exact fun g2 c d q e2 => h g2 c d q (e.trans e2)
  | stuck => exact h
theorem wpT_bind {Q : Bool → Hp → Prop} {Q' : VK} {r : R} {f : T → MH → R} (h : wpT K mg W g σ Q (r.bind f)) (k : ∀ g' t v, Ext g g' → Rel K mg g' → Rep K mg g' t v → wpT K mg W g' σ Q (f t g'.h) → Q' v g'.H) : wpR K mg W g σ Q' r := by
  cases r with
  | ok t h' => exact fun g' v q e R r => k g' t v e R r (by subst q; exact wpT.ext h e)
  | ex x h' => exact h
  | stuck => exact h
theorem wpT_bindT {Q Q' : Bool → Hp → Prop} {r : R} {f : T → MH → R} (h : wpT K mg W g σ Q (r.bind f)) (hb : ∀ t h, (∀ b, t ≠ .bl b) → f t h = .stuck) (k : ∀ g' b, Ext g g' → Rel K mg g' → wpT K mg W g' σ Q (f (.bl b) g'.h) → Q' b g'.H) : wpT K mg W g σ Q' r := by
  cases r with
  | ok t h' =>
    by_cases hx : ∃ b, t = .bl b
    · obtain ⟨b, rfl⟩ := hx
      exact fun g' q e R => k g' b e R (by subst q; exact wpT.ext h e)
    · have z := hb t h' (fun b e => hx ⟨b, e⟩)
      have h2 : wpT K mg W g σ Q (f t h') := h
      rw [z] at h2
      exact h2.elim
  | ex x h' => exact h
  | stuck => exact h
theorem wpT_here {Q : Bool → Hp → Prop} {b : Bool} (h : wpT K mg W g σ Q (.ok (.bl b) g.h)) (R : Rel K mg g) : Q b g.H := h g rfl (Ext.refl g) R
/-- truth -/
def fTru : T → MH → R := fun t h => match t with
  | .non => .ok (.bl false) h
  | .bl b => .ok (.bl b) h
  | .int i => .ok (.bl (i != 0)) h
  | .str s => if s.length ≤ big then .ok (.bl ((s.length : Int) != 0)) h else .stuck
  | .tup xs => .ok (.bl (!xs.isEmpty)) h
  | .lst xs => .ok (.bl (!xs.isEmpty)) h
  | .frl xs => .ok (.bl (!xs.isEmpty)) h
  | .ref i => match h[i]? with
    | some (.lst xs) => .ok (.bl (!xs.isEmpty)) h
    | _ => .stuck
  | _ => .stuck
theorem isEmpty_L {xs : List T} {vs : List V} (r : RepL K mg g xs vs) : xs.isEmpty = vs.isEmpty := by
  have := r.length
  cases xs <;> cases vs <;> simp_all
theorem Rel.lst_at (R : Rel K mg g) {i : Nat} {v : V} {xs : List T} (r : Rep K mg g (.ref i) v) (h : g.h[i]? = some (.lst xs)) : ∃ p vs, v = .ref p ∧ g.rho[i]? = some p ∧ g.H p = some (.lst vs) ∧ RepL K mg g xs vs := by
  simp only [Rep] at r
  obtain ⟨p, rfl, hp⟩ := r
  obtain ⟨vs, h1, h2⟩ := R.obj i p _ hp h
  exact ⟨p, vs, rfl, hp, h1, h2⟩
theorem tru_of {t : T} {v : V} (R : Rel K mg g) (r : Rep K mg g t v) : ∀ b, fTru t g.h = .ok (.bl b) g.h → TruV K v g.H b := by
  intro b h
  unfold fTru at h
  cases t with
  | non => rw [rep_non r]; cases h; rfl
  | bl c => rw [rep_bl r]; cases h; rfl
  | int i => rw [rep_int r]; cases h; rfl
  | str s =>
    rw [rep_str r]
    dsimp only at h
    split at h
    · rename_i q; cases h; exact ⟨big_le q, rfl⟩
    · cases h
  | tup xs => obtain ⟨p, vs, rfl, h1, l1⟩ := r.sqT; cases h; exact .inr (.inl ⟨vs, h1, by rw [isEmpty_L l1]⟩)
  | lst xs => obtain ⟨p, vs, rfl, h1, l1⟩ := r.sqL; cases h; exact .inl ⟨vs, h1, by rw [isEmpty_L l1]⟩
  | frl xs => obtain ⟨p, vs, rfl, h1, l1⟩ := r.sqF; cases h; exact .inl ⟨vs, h1, by rw [isEmpty_L l1]⟩
  | ref i =>
    dsimp only at h
    split at h
    · rename_i xs q
      obtain ⟨p, vs, rfl, _, h1, l1⟩ := R.lst_at r q
      cases h
      exact .inl ⟨vs, SqL.of h1, by rw [isEmpty_L l1]⟩
    · cases h
  | _ => cases h
theorem fTru_ok (t : T) (h : MH) : (∃ b, fTru t h = .ok (.bl b) h) ∨ fTru t h = .stuck := by
  unfold fTru
  cases t with
  | str s => dsimp only; split <;> first | exact .inl ⟨_, rfl⟩ | exact .inr rfl
  | ref i => dsimp only; split <;> first | exact .inl ⟨_, rfl⟩ | exact .inr rfl
  | _ => first | exact .inl ⟨_, rfl⟩ | exact .inr rfl
def mTru (m : ME) : ME := fun s h => (m s h).bind fTru
variable {a b c e : Expr} {ma mb mc : ME} {pos : Pos} {rest : List Expr}
/-- any expression as a test, by its value's truth -/
theorem st_val (ha : SE X W a ma) (he : ∀ whole, isTrue a X.env whole = (do let v ← whole; standAt a.pos; holding [v] (truthy v)) := by intro _; rfl) : ST X W a (mTru ma) := by
  refine weakT (pt_truth ha he) ?_
  rintro σ H Q ⟨g, s, rfl, R, S, h⟩
  refine ⟨g, s, rfl, R, S, wpT_bind h fun g1 t v e1 R1 r1 h1 => ?_⟩
  rcases fTru_ok t g1.h with ⟨b, q⟩ | q
  · rw [q] at h1
    exact ⟨b, tru_of R1 r1 b q, wpT_here h1 R1⟩
  · rw [q] at h1; exact h1.elim
/-- a comparison as a test -/
theorem st_cmp {op : CmpOp} {f : T → T → MH → R} {r : R2} (ho : OpR X (compareOp op) r) (hm : OpM X f r) (hb' : ∀ t u h, (∃ b, f t u h = .ok (.bl b) h) ∨ f t u h = .stuck) (ha : SE X W a ma) (hb : SE X W b mb) (hmk : behindInMarks op b = false) : ST X W (.Compare a [op] [b] pos) (m2 f ma mb) := by
  refine weakT (pt_cmpR ho ha hb hmk) ?_
  rintro σ H Q ⟨g, s, rfl, R, S, h⟩
  refine ⟨g, s, rfl, R, S, wpT_bind h fun g1 t x e1 R1 r1 h1 => ⟨g1, s, rfl, R1, S.mono e1, wpT_bind h1 fun g2 u y e2 R2 r2 h2 => ?_⟩⟩
  refine hm W g2 σ t u x y _ R2 (r1.mono e2) r2 ?_
  rcases hb' t u g2.h with ⟨b, q⟩ | q
  · rw [q] at h2 ⊢
    exact fun g3 v q3 e3 R3 r3 => ⟨b, rep_bl r3, h2 g3 q3 e3 R3⟩
  · rw [q] at h2; exact h2.elim
/-- and, or, not as tests -/
def fAnd (mb : ME) (s : SM) : T → MH → R := fun t h => match t with
  | .bl true => mb s h
  | .bl false => .ok (.bl false) h
  | _ => .stuck
def fOr (mb : ME) (s : SM) : T → MH → R := fun t h => match t with
  | .bl true => .ok (.bl true) h
  | .bl false => mb s h
  | _ => .stuck
def fNot : T → MH → R := fun t h => match t with
  | .bl b => .ok (.bl (!b)) h
  | _ => .stuck
def mAnd (ma mb : ME) : ME := fun s h => (ma s h).bind (fAnd mb s)
def mOr (ma mb : ME) : ME := fun s h => (ma s h).bind (fOr mb s)
def mNot (ma : ME) : ME := fun s h => (ma s h).bind fNot
abbrev SW (X : Cx) (W : WX) (e : Expr) (m : ME) : Prop := PW X e (tMT X.K X.mg W m)
theorem sw_and1 (ha : ST X W a ma) : SW X W (.BoolOp .And [a] pos) ma := pw_and1 ha
theorem sw_or1 (ha : ST X W a ma) : SW X W (.BoolOp .Or [a] pos) ma := pw_or1 ha
theorem weakW {X : Cx} {e : Expr} {t t' : TT} (h : PW X e t) (k : ∀ σ H Q, t' σ H Q → t σ H Q) : PW X e t' := ⟨fun w pins s σ H Q I q => h.run w pins s σ H Q I (k σ H Q q)⟩
theorem sw_and (ha : ST X W a ma) (hb : SW X W (.BoolOp .And (b :: rest) pos) mb) : SW X W (.BoolOp .And (a :: b :: rest) pos) (mAnd ma mb) := by
  refine weakW (pw_and ha hb) ?_
  rintro σ H Q ⟨g, s, rfl, R, S, h⟩
  refine ⟨g, s, rfl, R, S, wpT_bindT h (fun t h k => by cases t <;> first | exact absurd rfl (k _) | rfl) fun g1 b e1 R1 h1 => ?_⟩
  cases b with
  | true => exact iteT ⟨g1, s, rfl, R1, S.mono e1, h1⟩
  | false => exact iteF (wpT_here h1 R1)
theorem sw_or (ha : ST X W a ma) (hb : SW X W (.BoolOp .Or (b :: rest) pos) mb) : SW X W (.BoolOp .Or (a :: b :: rest) pos) (mOr ma mb) := by
  refine weakW (pw_or ha hb) ?_
  rintro σ H Q ⟨g, s, rfl, R, S, h⟩
  refine ⟨g, s, rfl, R, S, wpT_bindT h (fun t h k => by cases t <;> first | exact absurd rfl (k _) | rfl) fun g1 b e1 R1 h1 => ?_⟩
  cases b with
  | true => exact iteT (wpT_here h1 R1)
  | false => exact iteF ⟨g1, s, rfl, R1, S.mono e1, h1⟩
theorem sw_st (h : SW X W e ma) : ST X W e ma := h.pt
theorem st_not (ha : ST X W a ma) : ST X W (.UnaryOp .Not a pos) (mNot ma) := by
  refine weakT (pt_not ha) ?_
  rintro σ H Q ⟨g, s, rfl, R, S, h⟩
  exact ⟨g, s, rfl, R, S, wpT_bindT h (fun t h k => by cases t <;> first | exact absurd rfl (k _) | rfl) fun g1 b e1 R1 h1 => wpT_here h1 R1⟩
/-- a if c else b -/
def fIf (ma mb : ME) (s : SM) : T → MH → R := fun t h => match t with
  | .bl true => ma s h
  | .bl false => mb s h
  | _ => .stuck
def mIf (mc ma mb : ME) : ME := fun s h => (mc s h).bind (fIf ma mb s)
theorem wpR_bindT {Q' : Bool → Hp → Prop} {r : R} {f : T → MH → R} (h : wpR K mg W g σ Q (r.bind f)) (hb : ∀ t h, (∀ b, t ≠ .bl b) → f t h = .stuck) (k : ∀ g' b, Ext g g' → Rel K mg g' → wpR K mg W g' σ Q (f (.bl b) g'.h) → Q' b g'.H) : wpT K mg W g σ Q' r := by
  cases r with
  | ok t h' =>
    by_cases hx : ∃ b, t = .bl b
    · obtain ⟨b, rfl⟩ := hx
      exact fun g' q e R => k g' b e R (by subst q; exact wpR.ext h e)
    · have z := hb t h' (fun b e => hx ⟨b, e⟩)
      have h2 : wpR K mg W g σ Q (f t h') := h
      rw [z] at h2
      exact h2.elim
  | ex x h' => exact h
  | stuck => exact h
theorem se_if (hc : ST X W c mc) (ha : SE X W a ma) (hb : SE X W b mb) : SE X W (.IfExp c a b pos) (mIf mc ma mb) := by
  refine weakE (pe_ifExp hc ha hb) ?_
  rintro σ H Q ⟨g, s, rfl, R, S, h⟩
  refine ⟨g, s, rfl, R, S, wpR_bindT h (fun t h k => by cases t <;> first | exact absurd rfl (k _) | rfl) fun g1 b e1 R1 h1 => ?_⟩
  cases b with
  | true => exact iteT ⟨g1, s, rfl, R1, S.mono e1, h1⟩
  | false => exact iteF ⟨g1, s, rfl, R1, S.mono e1, h1⟩
/-- x or y, x and y, not x as values -/
def fOrV (mb : ME) (s : SM) : T → MH → R := fun t h => (fTru t h).bind fun k h1 => match k with
  | .bl true => .ok t h1
  | .bl false => mb s h1
  | _ => .stuck
def fAndV (mb : ME) (s : SM) : T → MH → R := fun t h => (fTru t h).bind fun k h1 => match k with
  | .bl true => mb s h1
  | .bl false => .ok t h1
  | _ => .stuck
def fNotV : T → MH → R := fun t h => (fTru t h).bind fNot
def mOrV (ma mb : ME) : ME := fun s h => (ma s h).bind (fOrV mb s)
def mAndV (ma mb : ME) : ME := fun s h => (ma s h).bind (fAndV mb s)
def mNotV (ma : ME) : ME := fun s h => (ma s h).bind fNotV
theorem se_one {op : BoolOp} (h : SE X W a ma) : SE X W (.BoolOp op [a] pos) ma := pe_one h
theorem se_or (ha : SE X W a ma) (hb : SE X W (.BoolOp .Or (b :: rest) pos) mb) : SE X W (.BoolOp .Or (a :: b :: rest) pos) (mOrV ma mb) := by
  refine weakE (pe_orT ha hb) ?_
  rintro σ H Q ⟨g, s, rfl, R, S, h⟩
  refine ⟨g, s, rfl, R, S, wpR_bind h fun g1 t v e1 R1 r1 h1 => ?_⟩
  unfold fOrV at h1
  rcases fTru_ok t g1.h with ⟨b, q⟩ | q
  · rw [q] at h1
    refine ⟨b, tru_of R1 r1 b q, ?_⟩
    cases b with
    | true => exact iteT (wpR_here h1 R1 r1)
    | false => exact iteF ⟨g1, s, rfl, R1, S.mono e1, h1⟩
  · rw [q] at h1; exact h1.elim
theorem se_and (ha : SE X W a ma) (hb : SE X W (.BoolOp .And (b :: rest) pos) mb) : SE X W (.BoolOp .And (a :: b :: rest) pos) (mAndV ma mb) := by
  refine weakE (pe_andT ha hb) ?_
  rintro σ H Q ⟨g, s, rfl, R, S, h⟩
  refine ⟨g, s, rfl, R, S, wpR_bind h fun g1 t v e1 R1 r1 h1 => ?_⟩
  unfold fAndV at h1
  rcases fTru_ok t g1.h with ⟨b, q⟩ | q
  · rw [q] at h1
    refine ⟨b, tru_of R1 r1 b q, ?_⟩
    cases b with
    | true => exact iteT ⟨g1, s, rfl, R1, S.mono e1, h1⟩
    | false => exact iteF (wpR_here h1 R1 r1)
  · rw [q] at h1; exact h1.elim
theorem se_not (ha : SE X W a ma) : SE X W (.UnaryOp .Not a pos) (mNotV ma) := by
  refine weakE (pe_notT ha) ?_
  rintro σ H Q ⟨g, s, rfl, R, S, h⟩
  refine ⟨g, s, rfl, R, S, wpR_bind h fun g1 t v e1 R1 r1 h1 => ?_⟩
  unfold fNotV at h1
  rcases fTru_ok t g1.h with ⟨b, q⟩ | q
  · rw [q] at h1
    exact ⟨b, tru_of R1 r1 b q, wpR_here h1 R1 rBl⟩
  · rw [q] at h1; exact h1.elim
/-- -x -/
def fNeg : T → MH → R := fun t h => match t with
  | .int i => .ok (.int (-i)) h
  | _ => .stuck
def m1 (f : T → MH → R) (ma : ME) : ME := fun s h => (ma s h).bind f
theorem se_neg (ha : SE X W a ma) : SE X W (.UnaryOp .USub a pos) (m1 fNeg ma) := by
  refine weakE (pe_un un_neg ha) ?_
  rintro σ H Q ⟨g, s, rfl, R, S, h⟩
  refine ⟨g, s, rfl, R, S, wpR_bind h fun g1 t v e1 R1 r1 h1 => ?_⟩
  cases t with
  | int i => rw [rep_int r1]; exact ⟨i, rfl, wpR_here h1 R1 rInt⟩
  | _ => exact h1.elim
/-! ### argument lists, displays -/
inductive RL where
  | ok (ts : List T) (h : MH) | ex (x : Exc) (h : MH) | stuck
abbrev MA := SM → MH → RL
def RL.bind (r : RL) (f : List T → MH → R) : R := match r with
  | .ok t h => f t h
  | .ex x h => .ex x h
  | .stuck => .stuck
def wpL (K : PySem.W.Frag) (mg : Str → Option Value) (W : WX) (g : G) (σ : L2.St) (Q : List V → Hp → Prop) : RL → Prop
  | .ok ts h' => ∀ g' vs, g'.h = h' → Ext g g' → Rel K mg g' → RepL K mg g' ts vs → Q vs g'.H
  | .ex x h' => ∀ g' cls d, g'.h = h' → Ext g g' → Rel K mg g' → RepX K mg g' x cls d → W cls d σ g'.H
  | .stuck => False
def tMA (K : PySem.W.Frag) (mg : Str → Option Value) (W : WX) (m : MA) : TA := fun σ H Q => ∃ g s, g.H = H ∧ Rel K mg g ∧ RepS K mg g s σ ∧ wpL K mg W g σ Q (m s g.h)
abbrev SA (X : Cx) (W : WX) (es : List Expr) (m : MA) : Prop := PA X es (tMA X.K X.mg W m)
def aNil : MA := fun _ h => .ok [] h
def aCons (ma : ME) (mr : MA) : MA := fun s h => match ma s h with
  | .ok t h1 => match mr s h1 with
    | .ok ts h2 => .ok (t :: ts) h2
    | .ex x h2 => .ex x h2
    | .stuck => .stuck
  | .ex x h1 => .ex x h1
  | .stuck => .stuck
theorem sa_nil : SA X W [] aNil := by
  refine weakA pa_nil ?_
  rintro σ H Q ⟨g, s, rfl, R, S, h⟩
  exact h g [] rfl (Ext.refl g) R RepL.nil
theorem wpL.ext {Q : List V → Hp → Prop} {g g' : G} {r : RL} (h : wpL K mg W g σ Q r) (e : Ext g g') : wpL K mg W g' σ Q r := by
  cases r with
  | ok t h' => exact fun g2 v q e2 => h g2 v q (e.trans e2)
  | ex x h' => exact fun g2 c d q e2 => h g2 c d q (e.trans e2)
  | stuck => exact h
theorem sa_cons {es : List Expr} {mr : MA} (ha : SE X W e ma) (hr : SA X W es mr) (hs : starEach (e :: es) X.env = (false, eval e X.env) :: starEach es X.env := by rfl) : SA X W (e :: es) (aCons ma mr) := by
  refine weakA (pa_cons ha hr hs) ?_
  rintro σ H Q ⟨g, s, rfl, R, S, h⟩
  refine ⟨g, s, rfl, R, S, ?_⟩
  unfold aCons at h
  cases q : ma s g.h with
  | ok t h1 =>
    rw [q] at h
    dsimp only at h
    intro g1 v q1 e1 R1 r1
    refine ⟨g1, s, rfl, R1, S.mono e1, ?_⟩
    rw [q1]
    cases q2 : mr s h1 with
    | ok ts h2 =>
      rw [q2] at h
      exact fun g2 vs q3 e2 R2 r2 => h g2 (v :: vs) q3 (e1.trans e2) R2 (RepL.cons (r1.mono e2) r2)
    | ex x h2 =>
      rw [q2] at h
      exact fun g2 c d q3 e2 => h g2 c d q3 (e1.trans e2)
    | stuck => rw [q2] at h; exact h.elim
  | ex x h1 => rw [q] at h; exact h
  | stuck => rw [q] at h; exact h.elim
theorem wpL_of {Q' : List V → Hp → Prop} {r : RL} {f : List T → MH → R} (h : wpR K mg W g σ Q (r.bind f)) (k : ∀ g' ts vs, Ext g g' → Rel K mg g' → RepL K mg g' ts vs → wpR K mg W g' σ Q (f ts g'.h) → Q' vs g'.H) : wpL K mg W g σ Q' r := by
  cases r with
  | ok t h' => exact fun g' v q e R r => k g' t v e R r (by subst q; exact wpR.ext h e)
  | ex x h' => exact h
  | stuck => exact h
def mA (f : List T → MH → R) (mr : MA) : ME := fun s h => (mr s h).bind f
def fTup : List T → MH → R := fun ts h => if ts.length ≤ big then .ok (.tup ts) h else .stuck
def fLst : List T → MH → R := fun ts h => if ts.length ≤ big then .ok (.lst ts) h else .stuck
/-- a tuple of written items; it is known as it stands -/
def tTupX (t : TA) : TE := fun σ H Q => t σ H fun xs H1 => xs.length ≤ sizeLine ∧ ∀ (o : Obj) p, o.dict = none → H1 p = none → Q (.ref p) (upd H1 p (.frz o (.tup xs)))
theorem pe_tupX {es : List Expr} {t : TA} {x1 : Nat} (h : PA X es t) : PE X (.Tuple es x1 pos) (tTupX t) := by
  refine ⟨fun pins s σ H Q I hq => ?_⟩
  refine wpAny_Tuple_spliced (thn (h.run pos pins s σ H _ I hq) fun us s1 ⟨xs, H1, I1, r, z, q⟩ => ⟨by rw [← r.length]; exact z, ?_⟩)
  have hf : H1 s1.heap.objs.size = none := I1.hok.fresh (Nat.le_refl _)
  refine ⟨.ref s1.heap.objs.size, upd H1 s1.heap.objs.size (.frz { cls := .type "tuple", data := .seq us.toArray } (.tup xs)), I1.laid (t' := s1.toks) (fun b u e => Heap.get?_push_of_some _ e) (Nat.le_refl _) ?_, rfl, q _ _ rfl hf⟩
  exact ⟨Heap.get?_push_size _ rfl, z, us, r, ⟨_, Heap.get?_push_size _ rfl, rfl, _, rfl⟩⟩
theorem se_tup {es : List Expr} {mr : MA} {k : Nat} (h : SA X W es mr) : SE X W (.Tuple es k pos) (mA fTup mr) := by
  refine weakE (pe_tupX h) ?_
  rintro σ H Q ⟨g, s, rfl, R, S, h⟩
  refine ⟨g, s, rfl, R, S, wpL_of h fun g1 ts vs e1 R1 r1 h1 => ?_⟩
  unfold fTup at h1
  split at h1
  · rename_i q; exact ⟨big_le (by rw [← r1.length]; exact q), fun o p hd hp => wpR_tup h1 R1 r1 hp hd⟩
  · exact h1.elim
theorem se_lst {es : List Expr} {mr : MA} (h : SA X W es mr) : SE X W (.List es pos) (mA fLst mr) := by
  refine weakE (pe_lst h) ?_
  rintro σ H Q ⟨g, s, rfl, R, S, h⟩
  refine ⟨g, s, rfl, R, S, wpL_of h fun g1 ts vs e1 R1 r1 h1 => ?_⟩
  unfold fLst at h1
  split at h1
  · rename_i q; exact ⟨big_le (by rw [← r1.length]; exact q), fun p hp => wpR_lst h1 R1 r1 hp⟩
  · exact h1.elim
/-! ### a new changeable list -/
theorem ref_lay {o : MO} {p : Addr} {ho : HO} (R : Rel K mg g) (hp : g.H p = none) 
    (ro : ∀ g' : G, Sub g g' → g'.H p = some ho → RepO K mg g' p o) (hno : o ≠ MO.dead) :
    ∃ g' : G, g'.H = upd g.H p ho ∧ g'.h = g.h ++ [o] ∧ Ext g g' ∧ Rel K mg g' ∧ Rep K mg g' (.ref g.h.length) (.ref p) := by
  have len := R.len
  have hn : ∀ i : Nat, ¬ g.live i p := fun i e => by
    obtain ⟨u, q⟩ := R.tr i p e
    rw [hp] at q; cases q
  have hs : Sub g ⟨g.rho ++ [p], g.h ++ [o], g.pv, upd g.H p ho⟩ := by
    refine ⟨fun i a h => ?_, fun a u h n => ⟨by show upd g.H p ho a = some u; rw [upd_ne (ne_of_none h hp)]; exact h, ?_⟩⟩
    · show (g.rho ++ [p])[i]? = some a
      rw [List.getElem?_append_left (List.getElem?_eq_some_iff.mp h).1]; exact h
    · rintro (z | ⟨i, o', h1, h2, h3⟩)
      · exact n (.inl z)
      · have h1' : (g.rho ++ [p])[i]? = some a := h1
        have h2' : (g.h ++ [o])[i]? = some o' := h2
        by_cases l : i < g.rho.length
        · rw [List.getElem?_append_left l] at h1'
          rw [List.getElem?_append_left (by omega)] at h2'
          exact n (.inr ⟨i, o', h1', h2', h3⟩)
        · rw [List.getElem?_append_right (by omega)] at h1'
          have e : a = p := by
            have := List.mem_of_getElem? h1'
            simpa using this
          rw [e, hp] at h; cases h
  have hx : ∀ i a, (g.rho ++ [p])[i]? = some a → (g.rho[i]? = some a ∧ i < g.rho.length) ∨ (i = g.rho.length ∧ a = p) := by
    intro i a h
    by_cases l : i < g.rho.length
    · rw [List.getElem?_append_left l] at h; exact .inl ⟨h, l⟩
    · rw [List.getElem?_append_right (by omega)] at h
      have l2 := (List.getElem?_eq_some_iff.mp h).1
      have e := List.mem_of_getElem? h
      refine .inr ⟨?_, by simpa using e⟩
      simp at l2; omega
  have hv : ∀ i a, G.live ⟨g.rho ++ [p], g.h ++ [o], g.pv, upd g.H p ho⟩ i a → g.live i a ∨ (i = g.rho.length ∧ a = p) := by
    rintro i a ⟨h1, u, h2, h3⟩
    rcases hx i a h1 with ⟨q1, l1⟩ | q
    · have h2' : (g.h ++ [o])[i]? = some u := h2
      rw [List.getElem?_append_left (by omega)] at h2'
      exact .inl ⟨q1, u, h2', h3⟩
    · exact .inr q
  refine ⟨⟨g.rho ++ [p], g.h ++ [o], g.pv, upd g.H p ho⟩, rfl, rfl, ⟨hs.rho, rfl, fun a ha => ?_, hs.keep⟩, ⟨?_, ?_, ?_, ?_, ?_, ?_⟩, ?_⟩
  · obtain ⟨u, e⟩ := R.pvt a ha
    show upd g.H p ho a = g.H a
    rw [upd_ne (ne_of_none e hp)]
  · show (g.rho ++ [p]).length = (g.h ++ [o]).length
    rw [List.length_append, List.length_append, len]; rfl
  · intro i j a h1 h2
    rcases hv i a h1 with q1 | ⟨q1, l1⟩ <;> rcases hv j a h2 with q2 | ⟨q2, l2⟩
    · exact R.inj i j a q1 q2
    · exact absurd q1 (l2 ▸ hn i)
    · exact absurd q2 (l1 ▸ hn j)
    · omega
  · intro a ha i hm
    rcases hv i a hm with q | ⟨_, q⟩
    · exact R.npv a ha i q
    · obtain ⟨u, e⟩ := R.pvt a ha
      rw [q, hp] at e; cases e
  · intro a ha
    obtain ⟨u, e⟩ := R.pvt a ha
    exact ⟨u, by show upd g.H p ho a = some u; rw [upd_ne (ne_of_none e hp)]; exact e⟩
  · intro i a h1
    rcases hv i a h1 with q1 | ⟨q1, l1⟩
    · obtain ⟨u, e⟩ := R.tr i a q1
      exact ⟨u, by show upd g.H p ho a = some u; rw [upd_ne (ne_of_none e hp)]; exact e⟩
    · subst l1; exact ⟨ho, upd_same⟩
  · intro i a o' h1 h2
    have h2' : (g.h ++ [o])[i]? = some o' := h2
    rcases hx i a h1 with ⟨q1, l1⟩ | ⟨q1, l1⟩
    · rw [List.getElem?_append_left (by omega)] at h2'
      exact (R.obj i a o' q1 h2').sub hs fun w hw => by
        show upd g.H p ho a = some w
        rw [upd_ne (ne_of_none hw hp)]; exact hw
    · subst l1
      rw [List.getElem?_append_right (by omega)] at h2'
      have : o' = o := by
        have e := List.mem_of_getElem? h2'
        simpa using e
      subst this
      exact ro _ hs upd_same
  · simp only [Rep]
    refine ⟨p, rfl, ?_⟩
    show (g.rho ++ [p])[g.h.length]? = some p
    rw [← len, List.getElem?_append_right (Nat.le_refl _), Nat.sub_self]; rfl
end
end Mi
end part_Mi2
section part_Mi3
set_option maxRecDepth 100000
set_option maxHeartbeats 2000000
/-! Mi, part 3: built-in functions, subscripts, slices, methods of built-in types, stores. -/
namespace Mi
open PySem PySem.Spec PyProof.Rows L2
section
variable {X : Cx} {K : PySem.W.Frag} {mg : Str → Option Value} {W : WX} {g : G} {σ : L2.St} {Q : VK}
variable {a b c e : Expr} {ma mb mc : ME} {mr : MA} {pos p apos : Pos} {es : List Expr} {x : Str}
/-! ### a changeable object is written -/
theorem put_sub {i : Nat} {q : Addr} {o o' : MO} {ho : HO} (R : Rel K mg g) (h1 : g.rho[i]? = some q) (h2 : g.h[i]? = some o) (h3 : o ≠ MO.dead) (h4 : o' ≠ MO.dead) :
    Sub g { g with h := g.h.set i o', H := upd g.H q ho } := by
  have hq : g.hid q := .inr ⟨i, o, h1, h2, h3⟩
  refine ⟨fun _ _ h => h, fun a u h n => ⟨?_, ?_⟩⟩
  · show upd g.H q ho a = some u
    rw [upd_ne (fun e => n (by rw [e]; exact hq))]; exact h
  · rintro (z | ⟨j, w, z1, z2, z3⟩)
    · exact n (.inl z)
    · have z2' : (g.h.set i o')[j]? = some w := z2
      by_cases e : i = j
      · subst e
        rw [h1] at z1
        cases z1
        exact n hq
      · rw [List.getElem?_set_ne e] at z2'
        exact n (.inr ⟨j, w, z1, z2', z3⟩)
theorem Rel.put {i : Nat} {q : Addr} {o o' : MO} {ho : HO} (R : Rel K mg g) (h1 : g.rho[i]? = some q) (h2 : g.h[i]? = some o) (h3 : o ≠ MO.dead) (h4 : o' ≠ MO.dead)
    (ro : ∀ g' : G, Sub g g' → g'.H q = some ho → RepO K mg g' q o') :
    ∃ g' : G, g'.H = upd g.H q ho ∧ g'.h = g.h.set i o' ∧ Ext g g' ∧ Rel K mg g' := by
  have hs := put_sub (ho := ho) R h1 h2 h3 h4
  have hq : g.hid q := .inr ⟨i, o, h1, h2, h3⟩
  have hpv : ∀ a ∈ g.pv, a ≠ q := fun a ha e => R.npv a ha i (by rw [e]; exact ⟨h1, o, h2, h3⟩)
  have hv : ∀ j a, G.live { g with h := g.h.set i o', H := upd g.H q ho } j a → g.live j a := by
    rintro j a ⟨z1, w, z2, z3⟩
    have z2' : (g.h.set i o')[j]? = some w := z2
    by_cases e : i = j
    · subst e; exact ⟨z1, o, h2, h3⟩
    · rw [List.getElem?_set_ne e] at z2'
      exact ⟨z1, w, z2', z3⟩
  refine ⟨{ g with h := g.h.set i o', H := upd g.H q ho }, rfl, rfl, ⟨hs.rho, rfl, fun a ha => ?_, hs.keep⟩, ⟨?_, fun i j a z1 z2 => R.inj i j a (hv i a z1) (hv j a z2), fun a ha j z => R.npv a ha j (hv j a z), fun a ha => ?_, fun j a ha => ?_, fun j a w z1 z2 => ?_⟩⟩
  · show upd g.H q ho a = g.H a
    rw [upd_ne (hpv a ha)]
  · show g.rho.length = (g.h.set i o').length
    rw [List.length_set]; exact R.len
  · obtain ⟨u, e⟩ := R.pvt a ha
    exact ⟨u, by show upd g.H q ho a = some u; rw [upd_ne (hpv a ha)]; exact e⟩
  · by_cases e : a = q
    · subst e; exact ⟨ho, upd_same⟩
    · obtain ⟨u, eu⟩ := R.tr j a (hv j a ha)
      exact ⟨u, by show upd g.H q ho a = some u; rw [upd_ne e]; exact eu⟩
  · have z2' : (g.h.set i o')[j]? = some w := z2
    by_cases e : i = j
    · subst e
      have z1' : g.rho[i]? = some a := z1
      rw [h1] at z1'
      cases z1'
      have l : i < g.h.length := (List.getElem?_eq_some_iff.mp h2).1
      rw [List.getElem?_set_self l] at z2'
      cases z2'
      exact ro _ hs upd_same
    · rw [List.getElem?_set_ne e] at z2'
      by_cases wd : w = MO.dead
      · subst wd; trivial
      have ne : a ≠ q := fun z => e (R.inj i j q ⟨h1, o, h2, h3⟩ ⟨z ▸ z1, w, z2', wd⟩)
      exact (R.obj j a w z1 z2').sub hs fun u hu => by
        show upd g.H q ho a = some u
        rw [upd_ne ne]; exact hu
/-! ### built-in functions -/
def CallM (X : Cx) (f : List T → MH → R) (r : List V → Hp → VK → Prop) : Prop :=
  ∀ (W : WX) g σ ts vs Q, Rel X.K X.mg g → RepL X.K X.mg g ts vs → wpR X.K X.mg W g σ Q (f ts g.h) → r vs g.H Q
theorem useA {f : List T → MH → R} {r : List V → Hp → VK → Prop} (hm : CallM X f r) {H : Hp} (h : tM X.K X.mg W (mA f mr) σ H Q) : tCB r (tMA X.K X.mg W mr) σ H Q := by
  obtain ⟨g, s, rfl, R, S, h⟩ := h
  exact ⟨g, s, rfl, R, S, wpL_of h fun g1 ts vs e1 R1 r1 h1 => hm W g1 σ ts vs Q R1 r1 h1⟩
theorem se_callB {f : List T → MH → R} {r : List V → Hp → VK → Prop} {id : String} (hc : CallR X (.builtin id) r) (hm : CallM X f r) (hmg : X.mg x = none) (ha : SA X W (e :: es) mr) (hg : Gl X x := by rfl) (hv : bootBuiltins x = some (.builtin id) := by decide +kernel)
    (hn : x ≠ "__name__" := by decide) (hdb : (x == ("__debug__" : Str)) = false := by decide)
    (he : starEach (e :: es) X.env = (false, eval e X.env) :: starEach es X.env := by rfl) (hpl : (backTo pos (starEach es X.env)).any (·.1) = false := by rfl) : SE X W (.Call (.Name x p) (e :: es) [] pos) (mA f mr) :=
  weakE (pe_callB hc hg hmg hv ha hn hdb he hpl) fun _ _ _ h => useA hm h
theorem se_callTy {f : List T → MH → R} {r : List V → Hp → VK → Prop} {id : String} (hc : CallR X (.type id) r) (hm : CallM X f r) (hmg : X.mg x = none) (ha : SA X W (e :: es) mr) (hg : Gl X x := by rfl) (hv : bootBuiltins x = some (.type id) := by decide +kernel)
    (hn : x ≠ "__name__" := by decide) (hdb : (x == ("__debug__" : Str)) = false := by decide)
    (he : starEach (e :: es) X.env = (false, eval e X.env) :: starEach es X.env := by rfl) (hpl : (backTo pos (starEach es X.env)).any (·.1) = false := by rfl) : SE X W (.Call (.Name x p) (e :: es) [] pos) (mA f mr) :=
  weakE (pe_callTy hc hg hmg hv ha hn hdb he hpl) fun _ _ _ h => useA hm h
/-- the items of a list or tuple that stands -/
def seqOf (t : T) (h : MH) : Option (List T) := match t with
  | .tup xs => some xs
  | .lst xs => some xs
  | .frl xs => some xs
  | .ref i => match h[i]? with
    | some (.lst xs) => some xs
    | _ => none
  | _ => none
theorem seq_of {t : T} {v : V} {xs : List T} (R : Rel K mg g) (r : Rep K mg g t v) (h : seqOf t g.h = some xs) : ∃ q vs, v = .ref q ∧ (SqL K g.H q vs ∨ SqT K g.H q vs) ∧ RepL K mg g xs vs := by
  unfold seqOf at h
  cases t with
  | tup ys => cases h; obtain ⟨q, vs, e, h1, l1⟩ := r.sqT; exact ⟨q, vs, e, .inr h1, l1⟩
  | lst ys => cases h; obtain ⟨q, vs, e, h1, l1⟩ := r.sqL; exact ⟨q, vs, e, .inl h1, l1⟩
  | frl ys => cases h; obtain ⟨q, vs, e, h1, l1⟩ := r.sqF; exact ⟨q, vs, e, .inl h1, l1⟩
  | ref i =>
    dsimp only at h
    split at h
    · rename_i ys q
      cases h
      obtain ⟨q, vs, e, _, h1, l1⟩ := R.lst_at r q
      exact ⟨q, vs, e, .inl (SqL.of h1), l1⟩
    · cases h
  | _ => cases h
def isTupT : T → Bool
  | .tup _ => true
  | _ => false
/-- len -/
def fLen : List T → MH → R := fun ts h => match ts with
  | [.str s] => if s.length ≤ big then .ok (.int s.length) h else .stuck
  | [.dct ks vs] => .ok (.int ks.length) h
  | [t] => match seqOf t h with
    | some xs => .ok (.int xs.length) h
    | none => .stuck
  | _ => .stuck
abbrev rLenAll (K : PySem.W.Frag) : List V → Hp → VK → Prop := fun xs H Q => (∃ x n, xs = [x] ∧ LenV K x H n ∧ Q (.int n) H) ∨ (∃ d kvs, xs = [.ref d] ∧ H d = some (.dK kvs) ∧ Q (.int kvs.length) H)
theorem call_lenAll : CallR X (.builtin "len") (rLenAll X.K) := call_len.or call_lenD
theorem rep_str1 {s : Str} {vs : List V} (r : RepL K mg g [.str s] vs) : vs = [.str s] := by
  obtain ⟨v, e, h⟩ := r.one
  rw [e, rep_str h]
theorem mLen : CallM X fLen (rLenAll X.K) := by
  intro W g σ ts vs Q R r h
  unfold fLen at h
  split at h
  · rename_i s
    rw [rep_str1 r]
    split at h
    · rename_i q; exact .inl ⟨.str s, s.length, rfl, ⟨big_le q, rfl⟩, wpR_here h R rInt⟩
    · exact h.elim
  · rename_i ks us
    obtain ⟨v, rfl, rv⟩ := r.one
    simp only [Rep] at rv
    obtain ⟨q, kvs, rfl, ⟨h1, _⟩, e2, l1⟩ := rv
    have : ks.length = kvs.length := by rw [e2, List.length_map]
    rw [this] at h
    exact .inr ⟨q, kvs, rfl, h1, wpR_here h R rInt⟩
  · rename_i t _ _
    obtain ⟨v, rfl, rv⟩ := r.one
    split at h
    · rename_i xs q
      obtain ⟨p, vs, rfl, h1, l1⟩ := seq_of R rv q
      rw [l1.length] at h
      refine .inl ⟨.ref p, vs.length, rfl, ?_, wpR_here h R rInt⟩
      rcases h1 with h1 | h1
      · exact .inl ⟨vs, h1, rfl⟩
      · exact .inr ⟨vs, h1, rfl⟩
    · exact h.elim
  · exact h.elim
/-- int(x), str(n), tuple(xs), list(xs) -/
def fInt : List T → MH → R := fun ts h => match ts with
  | [.int i] => .ok (.int i) h
  | [.bl b] => .ok (.int (if b then 1 else 0)) h
  | [.str s] => match PySem.intText? s with
    | some n => if s.length ≤ 640 then .ok (.int n) h else .stuck
    | none => .stuck
  | _ => .stuck
abbrev rIntAll : List V → Hp → VK → Prop := fun xs H Q => ((∃ i, xs = [.int i] ∧ Q (.int i) H) ∨ ∃ k, xs = [.bl k] ∧ Q (.int (if k then 1 else 0)) H) ∨ (∃ a n, xs = [.str a] ∧ PySem.intText? a = some n ∧ a.length ≤ 640 ∧ Q (.int n) H)
theorem call_intAll : CallR X (.type "int") rIntAll := call_int1.or call_int_str
theorem mInt : CallM X fInt rIntAll := by
  intro W g σ ts vs Q R r h
  unfold fInt at h
  split at h
  · obtain ⟨v, rfl, rv⟩ := r.one; rw [rep_int rv]; exact .inl (.inl ⟨_, rfl, wpR_here h R rInt⟩)
  · obtain ⟨v, rfl, rv⟩ := r.one; rw [rep_bl rv]; exact .inl (.inr ⟨_, rfl, wpR_here h R rInt⟩)
  · rename_i s
    rw [rep_str1 r]
    split at h
    · rename_i n q
      split at h
      · rename_i z; exact .inr ⟨s, n, rfl, q, z, wpR_here h R rInt⟩
      · exact h.elim
    · exact h.elim
  · exact h.elim
def fStrI : List T → MH → R := fun ts h => match ts with
  | [.int i] => if i.natAbs.log2 < 1920 then .ok (.str (toString i)) h else .stuck
  | _ => .stuck
theorem mStrI : CallM X fStrI (fun xs H Q => ∃ i, xs = [.int i] ∧ i.natAbs.log2 < 1920 ∧ Q (.str (toString i)) H) := by
  intro W g σ ts vs Q R r h
  unfold fStrI at h
  split at h
  · obtain ⟨v, rfl, rv⟩ := r.one
    rw [rep_int rv]
    split at h
    · rename_i q; exact ⟨_, rfl, q, wpR_here h R rStr⟩
    · exact h.elim
  · exact h.elim
def fTuple : List T → MH → R := fun ts h => match ts with
  | [t] => match seqOf t h with
    | some xs => .ok (.tup xs) h
    | none => .stuck
  | _ => .stuck
def fList : List T → MH → R := fun ts h => match ts with
  | [t] => match seqOf t h with
    | some xs => .ok (.lst xs) h
    | none => .stuck
  | _ => .stuck
theorem seq_tup {t : T} {v : V} {xs : List T} (r : Rep K mg g t v) (h : seqOf t g.h = some xs) {q : Addr} {vs : List V} (e : v = .ref q) (hT : SqT K g.H q vs) (hL : ¬ SqL K g.H q vs) : Rep K mg g (.tup xs) v ∨ True := .inr trivial
/-- tuple(x); a new one is known as it stands -/
def rTupleX (K : PySem.W.Frag) : List V → Hp → VK → Prop := fun xs H Q => ∃ p ys, xs = [.ref p] ∧ ((SqL K H p ys ∧ ∀ (o : Obj) l, o.dict = none → H l = none → Q (.ref l) (upd H l (.frz o (.tup ys)))) ∨ (SqT K H p ys ∧ Q (.ref p) H))
theorem call_tupleX : CallR X (.type "tuple") (rTupleX X.K) := by
  intro pins s σ H xs us Q I r h
  obtain ⟨p, ys, rfl, h⟩ := h
  obtain ⟨u, rfl, rx⟩ := vals1 r
  cases rx
  rcases h with ⟨hq, q⟩ | ⟨hq, q⟩
  · obtain ⟨its, r', pl, hz⟩ := I.list hq
    have hlen := r'.length
    refine call_tuple_list pl.isList (fun h' kp => ?_) (by simp only [List.size_toArray] <;> omega)
    have I1 : Inv X pins σ H { s with heap := h' } := I.kept (t' := s.toks) kp
    have I2 : Inv X pins σ (upd H h'.objs.size (.frz { cls := .type "tuple", data := .seq its.toArray } (.tup ys))) { s with heap := h'.push { cls := .type "tuple", data := .seq its.toArray } } :=
      I1.laid (t' := s.toks) (fun b o e => Heap.get?_push_of_some _ e) (Nat.le_refl _) (show ObjOk X.prog X.w _ _ _ (.frz _ (.tup ys)) from ⟨Heap.get?_push_size _ rfl, hz, its, r', IsTup.new _ _⟩)
    exact ⟨.ref h'.objs.size, _, I2, rfl, q _ _ rfl (I1.hok.fresh (Nat.le_refl _))⟩
  · obtain ⟨its, r', pl, hz⟩ := I.tuple hq
    exact call_tuple_same pl ⟨.ref p, H, I, rfl, q⟩
theorem mTuple : CallM X fTuple (rTupleX X.K) := by
  intro W g σ ts vs Q R r h
  unfold fTuple at h
  split at h
  · rename_i t
    obtain ⟨v, rfl, rv⟩ := r.one
    split at h
    · rename_i xs q
      cases t with
      | tup ys =>
        cases q
        obtain ⟨p, vs, rfl, h1, l1⟩ := rv.sqT
        exact ⟨p, vs, rfl, .inr ⟨h1, wpR_here h R rv⟩⟩
      | lst ys =>
        cases q
        obtain ⟨p, vs, rfl, h1, l1⟩ := rv.sqL
        exact ⟨p, vs, rfl, .inl ⟨h1, fun o l hd hl => wpR_tup h R l1 hl hd⟩⟩
      | frl ys =>
        cases q
        obtain ⟨p, vs, rfl, h1, l1⟩ := rv.sqF
        exact ⟨p, vs, rfl, .inl ⟨h1, fun o l hd hl => wpR_tup h R l1 hl hd⟩⟩
      | ref i =>
        unfold seqOf at q
        dsimp only at q
        split at q
        · rename_i ys z
          cases q
          obtain ⟨p, vs, rfl, _, h1, l1⟩ := R.lst_at rv z
          exact ⟨p, vs, rfl, .inl ⟨SqL.of h1, fun o l hd hl => wpR_tup h R l1 hl hd⟩⟩
        · cases q
      | _ => cases q
    · exact h.elim
  · exact h.elim
theorem mList : CallM X fList (fun xs H Q => ∃ p ys, xs = [.ref p] ∧ (SqL X.K H p ys ∨ SqT X.K H p ys) ∧ ∀ l, H l = none → Q (.ref l) (upd H l (.lst ys))) := by
  intro W g σ ts vs Q R r h
  unfold fList at h
  split at h
  · obtain ⟨v, rfl, rv⟩ := r.one
    split at h
    · rename_i xs q
      obtain ⟨p, vs, rfl, h1, l1⟩ := seq_of R rv q
      exact ⟨p, vs, rfl, h1, fun l hl => wpR_lst h R l1 hl⟩
    · exact h.elim
  · exact h.elim
/-- lists of one kind of thing -/
def blsOf : List T → Option (List Bool)
  | [] => some []
  | .bl b :: ts => (blsOf ts).map (b :: ·)
  | _ :: _ => none
def intsOf : List T → Option (List Int)
  | [] => some []
  | .int b :: ts => (intsOf ts).map (b :: ·)
  | _ :: _ => none
def strsOf : List T → Option (List Str)
  | [] => some []
  | .str b :: ts => (strsOf ts).map (b :: ·)
  | _ :: _ => none
theorem bls_of : ∀ {ts : List T} {vs : List V} {bs : List Bool}, RepL K mg g ts vs → blsOf ts = some bs → vs = bs.map V.bl
  | [], vs, bs, r, h => by
    simp only [RepL] at r
    simp only [blsOf] at h
    cases h; exact r
  | t :: ts, vs, bs, r, h => by
    simp only [RepL] at r
    obtain ⟨v, w, rfl, r1, r2⟩ := r
    cases t with
    | bl b =>
      simp only [blsOf] at h
      cases q : blsOf ts with
      | none => rw [q] at h; cases h
      | some cs =>
        rw [q] at h; cases h
        rw [rep_bl r1, bls_of r2 q]; rfl
    | _ => simp only [blsOf] at h; cases h
theorem ints_of : ∀ {ts : List T} {vs : List V} {bs : List Int}, RepL K mg g ts vs → intsOf ts = some bs → vs = bs.map V.int
  | [], vs, bs, r, h => by
    simp only [RepL] at r
    simp only [intsOf] at h
    cases h; exact r
  | t :: ts, vs, bs, r, h => by
    simp only [RepL] at r
    obtain ⟨v, w, rfl, r1, r2⟩ := r
    cases t with
    | int b =>
      simp only [intsOf] at h
      cases q : intsOf ts with
      | none => rw [q] at h; cases h
      | some cs =>
        rw [q] at h; cases h
        rw [rep_int r1, ints_of r2 q]; rfl
    | _ => simp only [intsOf] at h; cases h
theorem strs_of : ∀ {ts : List T} {vs : List V} {bs : List Str}, RepL K mg g ts vs → strsOf ts = some bs → vs = bs.map V.str
  | [], vs, bs, r, h => by
    simp only [RepL] at r
    simp only [strsOf] at h
    cases h; exact r
  | t :: ts, vs, bs, r, h => by
    simp only [RepL] at r
    obtain ⟨v, w, rfl, r1, r2⟩ := r
    cases t with
    | str b =>
      simp only [strsOf] at h
      cases q : strsOf ts with
      | none => rw [q] at h; cases h
      | some cs =>
        rw [q] at h; cases h
        rw [rep_str r1, strs_of r2 q]; rfl
    | _ => simp only [strsOf] at h; cases h
/-- a new or standing list (no tuple) -/
def lstOf (t : T) (h : MH) : Option (List T) := match t with
  | .lst xs => some xs
  | .frl xs => some xs
  | .ref i => match h[i]? with
    | some (.lst xs) => some xs
    | _ => none
  | _ => none
theorem lst_of {t : T} {v : V} {xs : List T} (R : Rel K mg g) (r : Rep K mg g t v) (h : lstOf t g.h = some xs) : ∃ q vs, v = .ref q ∧ SqL K g.H q vs ∧ RepL K mg g xs vs := by
  unfold lstOf at h
  cases t with
  | lst ys => cases h; exact r.sqL
  | frl ys => cases h; exact r.sqF
  | ref i =>
    dsimp only at h
    split at h
    · rename_i ys q
      cases h
      obtain ⟨q, vs, e, _, h1, l1⟩ := R.lst_at r q
      exact ⟨q, vs, e, SqL.of h1, l1⟩
    · cases h
  | _ => cases h
def fBls (f : List Bool → Bool) : List T → MH → R := fun ts h => match ts with
  | [t] => match lstOf t h with
    | some xs => match blsOf xs with
      | some bs => .ok (.bl (f bs)) h
      | none => .stuck
    | none => .stuck
  | _ => .stuck
theorem mBls {f : List Bool → Bool} : CallM X (fBls f) (fun vs H Q => ∃ (a : Addr) (bs : List Bool), vs = [V.ref a] ∧ SqL X.K H a (bs.map V.bl) ∧ Q (.bl (f bs)) H) := by
  intro W g σ ts vs Q R r h
  unfold fBls at h
  split at h
  · obtain ⟨v, rfl, rv⟩ := r.one
    split at h
    · rename_i xs q
      obtain ⟨p, vs, rfl, h1, l1⟩ := lst_of R rv q
      split at h
      · rename_i bs z
        rw [bls_of l1 z] at h1
        exact ⟨p, bs, rfl, h1, wpR_here h R rBl⟩
      · exact h.elim
    · exact h.elim
  · exact h.elim
def fAll := fBls fun bs => bs.all id
def fAny := fBls fun bs => bs.any id
theorem mAll : CallM X fAll (rAll X.K) := mBls
theorem mAny : CallM X fAny (rAny X.K) := mBls
def fSum : List T → MH → R := fun ts h => match ts with
  | [t] => match lstOf t h with
    | some xs => match intsOf xs with
      | some ns => .ok (.int ns.sum) h
      | none => .stuck
    | none => .stuck
  | _ => .stuck
theorem mSum : CallM X fSum (rSum X.K) := by
  intro W g σ ts vs Q R r h
  unfold fSum at h
  split at h
  · obtain ⟨v, rfl, rv⟩ := r.one
    split at h
    · rename_i xs q
      obtain ⟨p, vs, rfl, h1, l1⟩ := lst_of R rv q
      split at h
      · rename_i bs z
        rw [ints_of l1 z] at h1
        exact ⟨p, bs, rfl, h1, wpR_here h R rInt⟩
      · exact h.elim
    · exact h.elim
  · exact h.elim
/-- max, min of two ints -/
def fMax2 : List T → MH → R := fun ts h => match ts with
  | [.int i, .int j] => .ok (.int (if j > i then j else i)) h
  | _ => .stuck
def fMin2 : List T → MH → R := fun ts h => match ts with
  | [.int i, .int j] => .ok (.int (if j < i then j else i)) h
  | _ => .stuck
theorem rep_int2 {i j : Int} {vs : List V} (r : RepL K mg g [.int i, .int j] vs) : vs = [.int i, .int j] := by
  simp only [RepL] at r
  obtain ⟨v, w, rfl, r1, v2, w2, rfl, r2, rfl⟩ := r
  rw [rep_int r1, rep_int r2]
theorem mMax2 : CallM X fMax2 (fun xs H Q => ∃ i j, xs = [.int i, .int j] ∧ Q (.int (if j > i then j else i)) H) := by
  intro W g σ ts vs Q R r h
  unfold fMax2 at h
  split at h
  · exact ⟨_, _, rep_int2 r, wpR_here h R rInt⟩
  · exact h.elim
theorem mMin2 : CallM X fMin2 (fun xs H Q => ∃ i j, xs = [.int i, .int j] ∧ Q (.int (if j < i then j else i)) H) := by
  intro W g σ ts vs Q R r h
  unfold fMin2 at h
  split at h
  · exact ⟨_, _, rep_int2 r, wpR_here h R rInt⟩
  · exact h.elim
/-! ### subscripts -/
def fIx : T → T → MH → R := fun t u h => match u with
  | .int i => match t with
    | .str s => if s.length ≤ big then (match atI s.cps.toList i with
      | some c => .ok (.str ⟨#[c]⟩) h
      | none => .stuck) else .stuck
    | _ => match seqOf t h with
      | some xs => match atI xs i with
        | some z => .ok z h
        | none => .stuck
      | none => .stuck
  | _ => .stuck
theorem at_of {xs : List T} {vs : List V} {i : Int} {t : T} (r : RepL K mg g xs vs) (h : atI xs i = some t) : ∃ v, atI vs i = some v ∧ Rep K mg g t v := by
  unfold atI at h ⊢
  rw [← r.length]
  cases q : ixN xs.length i with
  | none => rw [q] at h; cases h
  | some j =>
    rw [q] at h
    exact r.get h
theorem mIx : OpM X fIx (rIx X.K) := by
  intro W g σ t u x y Q R r1 r2 h
  unfold fIx at h
  split at h
  · rename_i i
    rw [rep_int r2]
    split at h
    · rename_i s
      rw [rep_str r1]
      split at h
      · rename_i q
        split at h
        · rename_i c z
          exact .inr (.inr ⟨s, i, c, rfl, rfl, big_le q, z, wpR_here h R rStr⟩)
        · exact h.elim
      · exact h.elim
    · split at h
      · rename_i xs q
        obtain ⟨p, vs, rfl, h1, l1⟩ := seq_of R r1 q
        split at h
        · rename_i z hz
          obtain ⟨v, e1, rv⟩ := at_of l1 hz
          rcases h1 with h1 | h1
          · exact .inl ⟨p, vs, i, v, rfl, rfl, h1, e1, wpR_here h R rv⟩
          · exact .inr (.inl ⟨p, vs, i, v, rfl, rfl, h1, e1, wpR_here h R rv⟩)
        · exact h.elim
      · exact h.elim
  · exact h.elim
theorem se_ix (ha : SE X W a ma) (hb : SE X W b mb) (hs : PlainIx b := by exact fun _ _ => rfl) : SE X W (.Subscript a b pos) (m2 fIx ma mb) :=
  weakE (pe_ix ix_seq ha hb hs) fun _ _ _ h => use2 mIx h
/-! ### slices -/
abbrev MO' := SM → MH → R
def wpO (K : PySem.W.Frag) (mg : Str → Option Value) (W : WX) (g : G) (σ : L2.St) (Q : Option Int → Hp → Prop) : R → Prop
  | .ok (.int i) h' => ∀ g', g'.h = h' → Ext g g' → Rel K mg g' → Q (some i) g'.H
  | .ok .non h' => ∀ g', g'.h = h' → Ext g g' → Rel K mg g' → Q none g'.H
  | .ok _ _ => False
  | .ex x h' => ∀ g' cls d, g'.h = h' → Ext g g' → Rel K mg g' → RepX K mg g' x cls d → W cls d σ g'.H
  | .stuck => False
def tMO (K : PySem.W.Frag) (mg : Str → Option Value) (W : WX) (m : ME) : TO := fun σ H Q => ∃ g s, g.H = H ∧ Rel K mg g ∧ RepS K mg g s σ ∧ wpO K mg W g σ Q (m s g.h)
theorem weakO {X : Cx} {e : Option Expr} {t t' : TO} (h : PO X e t) (k : ∀ σ H Q, t' σ H Q → t σ H Q) : PO X e t' := ⟨fun pins s σ H Q I q => h.run pins s σ H Q I (k σ H Q q)⟩
def fPart : T → MH → R := fun t h => match t with
  | .int i => .ok (.int i) h
  | _ => .stuck
theorem so_none : PO X none (tMO X.K X.mg W (mC .non)) := by
  refine weakO po_none ?_
  rintro σ H Q ⟨g, s, rfl, R, S, h⟩
  exact h g rfl (Ext.refl g) R
theorem wpO_bind {Q : Option Int → Hp → Prop} {Q' : VK} {r : R} (h : wpO K mg W g σ Q (r.bind fPart)) (k : ∀ g' i v, Ext g g' → Rel K mg g' → Rep K mg g' (.int i) v → Q (some i) g'.H → Q' v g'.H) : wpR K mg W g σ Q' r := by
  cases r with
  | ok t h' =>
    cases t with
    | int i => exact fun g' v q e R r => k g' i v e R r (h g' q e R)
    | _ => exact h.elim
  | ex x h' => exact h
  | stuck => exact h.elim
theorem so_some (ha : SE X W a ma) : PO X (some a) (tMO X.K X.mg W (m1 fPart ma)) := by
  refine weakO (po_some ha) ?_
  rintro σ H Q ⟨g, s, rfl, R, S, h⟩
  exact ⟨g, s, rfl, R, S, wpO_bind h fun g1 i v e1 R1 r1 q => ⟨i, rep_int r1, q⟩⟩
def cutT (xs : List T) (lo hi : Option Int) : List T := (xs.drop (HT.sIx xs.length 0 lo)).take (HT.sIx xs.length xs.length hi - HT.sIx xs.length 0 lo)
theorem cut_of {xs : List T} {vs : List V} {lo hi : Option Int} (r : RepL K mg g xs vs) : RepL K mg g (cutT xs lo hi) (cutV vs lo hi) := by
  unfold cutT cutV
  rw [r.length]
  exact (r.drop _).take _
def oInt : T → Option Int
  | .int i => some i
  | _ => none
def fSl : T → T → T → MH → R := fun t l u h => match t with
  | .str s => if s.length ≤ big then .ok (.str (cutS s (oInt l) (oInt u))) h else .stuck
  | .tup xs => .ok (.tup (cutT xs (oInt l) (oInt u))) h
  | _ => match lstOf t h with
    | some xs => .ok (.lst (cutT xs (oInt l) (oInt u))) h
    | none => .stuck
def mSl (mt ml mu : ME) : ME := fun s h => (mt s h).bind fun t h1 => (ml s h1).bind fun l h2 => (mu s h2).bind fun u h3 => fSl t l u h3
/-- what a slice's part is, as a value of the mirror -/
theorem wpR_part {Q' : Option Int → Hp → Prop} {r : R} {f : T → MH → R} (h : wpR K mg W g σ Q (r.bind f)) (hok : ∀ t h', r = .ok t h' → t = .non ∨ ∃ i, t = .int i) (k : ∀ g' t, Ext g g' → Rel K mg g' → wpR K mg W g' σ Q (f t g'.h) → Q' (oInt t) g'.H) : wpO K mg W g σ Q' r := by
  cases r with
  | ok t h' =>
    rcases hok t h' rfl with e | ⟨i, e⟩
    · subst e; exact fun g' q e R => k g' .non e R (by subst q; exact wpR.ext h e)
    · subst e; exact fun g' q e R => k g' (.int i) e R (by subst q; exact wpR.ext h e)
  | ex x h' => exact h
  | stuck => exact h
def PartM (m : ME) : Prop := ∀ s h t h', m s h = .ok t h' → t = .non ∨ ∃ i, t = .int i
theorem part_none : PartM (mC .non) := fun s h t h' e => by cases e; exact .inl rfl
theorem part_some {m : ME} : PartM (m1 fPart m) := fun s h t h' e => by
  unfold m1 R.bind fPart at e
  split at e
  · split at e
    · cases e; exact .inr ⟨_, rfl⟩
    · cases e
  · cases e
  · cases e
/-- t[lo:hi], a new one is known as it stands -/
def rSlX (K : PySem.W.Frag) : V → Option Int → Option Int → Hp → VK → Prop := fun x lo hi H Q => ∃ a xs, x = .ref a ∧ SqT K H a xs ∧
  (HT.sIx xs.length 0 lo = 0 ∧ HT.sIx xs.length xs.length hi = xs.length → Q (.ref a) H) ∧ (¬ (HT.sIx xs.length 0 lo = 0 ∧ HT.sIx xs.length xs.length hi = xs.length) → ∀ (o : Obj) p, o.dict = none → H p = none → Q (.ref p) (upd H p (.frz o (.tup (cutV xs lo hi)))))
theorem sl_tupX : SlR X (rSlX X.K) := by
  intro pins s σ H x v vl vu lo hi sl Q I rx hs pl pu h
  obtain ⟨a, xs, rfl, hx, q1, q2⟩ := h
  cases rx
  obtain ⟨its, r, ht, hz⟩ := I.tuple hx
  have hlen : its.toArray.size = xs.length := by rw [List.size_toArray]; exact r.length.symm
  refine ⟨"tuple", _, PyProof.Rows.slot_tuple_getitem.lookup, ht.typeIs, ?_⟩
  by_cases hw : HT.sIx xs.length 0 lo = 0 ∧ HT.sIx xs.length xs.length hi = xs.length
  · exact getItem_tuple_whole ht hs pl pu (by rw [hlen]; exact hw) ⟨.ref a, H, I, rfl, q1 hw⟩
  · refine HT.getItem_tuple_cut ht hs pl pu (by rw [hlen]; exact hw) ?_ (by rw [hlen]; exact hz)
    rw [hlen]
    refine ⟨.ref s.heap.objs.size, _, I.laid (t' := s.toks) (o := .frz { cls := .type "tuple", data := .seq ((its.drop (HT.sIx xs.length 0 lo)).take (HT.sIx xs.length xs.length hi - HT.sIx xs.length 0 lo)).toArray } (.tup (cutV xs lo hi))) (fun b ob q => Heap.get?_push_of_some _ q) (Nat.le_refl _) ?_, rfl, q2 hw _ _ rfl (I.hok.fresh (Nat.le_refl _))⟩
    refine ⟨?_, Nat.le_trans (cutV_length xs lo hi) hz, _, (r.drop (HT.sIx xs.length 0 lo)).take (HT.sIx xs.length xs.length hi - HT.sIx xs.length 0 lo), IsTup.new _ _⟩
    first | exact Heap.get?_push_size _ rfl | (rw [Heap.get?_push_size _ rfl])
theorem se_slice {lo hi : Option Expr} {p2 : Pos} {ml mu : ME} (ha : SE X W a ma) (hl : PO X lo (tMO X.K X.mg W ml)) (hu : PO X hi (tMO X.K X.mg W mu)) (pl : PartM ml) (pu : PartM mu) :
    SE X W (.Subscript a (.Slice lo hi none p2) pos) (mSl ma ml mu) := by
  refine weakE (pe_slice (sl_str.or (sl_tupX.or sl_list)) ha hl hu) ?_
  rintro σ H Q ⟨g, s, rfl, R, S, h⟩
  refine ⟨g, s, rfl, R, S, wpR_bind h fun g1 t v e1 R1 r1 h1 => ⟨g1, s, rfl, R1, S.mono e1, wpR_part h1 (pl s g1.h) fun g2 l e2 R2 h2 => ⟨g2, s, rfl, R2, S.mono (e1.trans e2), wpR_part h2 (pu s g2.h) fun g3 u e3 R3 h3 => ?_⟩⟩⟩
  have r3 := (r1.mono e2).mono e3
  unfold fSl at h3
  split at h3
  · rename_i z
    rw [rep_str r3]
    split at h3
    · rename_i q; exact .inl ⟨z, rfl, big_le q, wpR_here h3 R3 rStr⟩
    · exact h3.elim
  · rename_i xs
    have r3' := r3
    obtain ⟨p, vs, rfl, hp, lp⟩ := r3.sqT
    refine .inr (.inl ⟨p, vs, rfl, hp, fun hw => ?_, fun hw o q hd hq => wpR_tup h3 R3 (cut_of lp) hq hd⟩)
    have e : cutT xs (oInt l) (oInt u) = xs := by
      unfold cutT
      rw [lp.length, hw.1, hw.2]
      rw [List.drop_zero, Nat.sub_zero, ← lp.length, List.take_length]
    rw [e] at h3
    exact wpR_here h3 R3 r3'
  · split at h3
    · rename_i xs q
      obtain ⟨p, vs, rfl, hp, lp⟩ := lst_of R3 r3 q
      exact .inr (.inr ⟨p, vs, rfl, hp, fun q hq => wpR_lst h3 R3 (cut_of lp) hq⟩)
    · exact h3.elim
/-! ### methods of built-in types -/
def tyOK (T' : String) (t : T) (h : MH) : Bool := match t with
  | .str _ => T' == "str"
  | .lst _ => T' == "list"
  | .frl _ => T' == "list"
  | .dct _ _ => T' == "dict"
  | .ref i => match h[i]? with
    | some (.lst _) => T' == "list"
    | some (.dct _ _) => T' == "dict"
    | _ => false
  | _ => false
theorem tyV_of {T' : String} {t : T} {v : V} (R : Rel K mg g) (r : Rep K mg g t v) (h : tyOK T' t g.h = true) : tyV K T' v g.H := by
  unfold tyOK at h
  cases t with
  | str s => rw [rep_str r]; exact beq_iff_eq.mp h
  | lst xs => obtain ⟨p, vs, rfl, h1, _⟩ := r.sqL; exact .inl ⟨beq_iff_eq.mp h, vs, h1⟩
  | frl xs => obtain ⟨p, vs, rfl, h1, _⟩ := r.sqF; exact .inl ⟨beq_iff_eq.mp h, vs, h1⟩
  | dct ks vs => simp only [Rep] at r; obtain ⟨q, kvs, rfl, ⟨h1, _⟩, _⟩ := r; exact .inr (.inr (.inl ⟨beq_iff_eq.mp h, .inl ⟨kvs, h1⟩⟩))
  | ref i =>
    dsimp only at h
    split at h
    · rename_i xs q
      obtain ⟨p, vs, rfl, _, h1, _⟩ := R.lst_at r q
      exact .inl ⟨beq_iff_eq.mp h, vs, SqL.of h1⟩
    · rename_i ks ts q
      simp only [Rep] at r
      obtain ⟨p, rfl, hp⟩ := r
      obtain ⟨kvs, h1, _⟩ := R.obj i p _ hp q
      exact .inr (.inr (.inl ⟨beq_iff_eq.mp h, .inl ⟨kvs, h1⟩⟩))
    · cases h
  | _ => cases h
def MeM (X : Cx) (f : T → List T → MH → R) (r : V → List V → Hp → VK → Prop) : Prop :=
  ∀ (W : WX) g σ t ts x vs Q, Rel X.K X.mg g → Rep X.K X.mg g t x → RepL X.K X.mg g ts vs → wpR X.K X.mg W g σ Q (f t ts g.h) → r x vs g.H Q
def mMe (T' : String) (f : T → List T → MH → R) (mo : ME) (mr : MA) : ME := fun s h => (mo s h).bind fun t h1 => if tyOK T' t h1 then (mr s h1).bind fun ts h2 => f t ts h2 else .stuck
theorem se_bm {T' id : String} {name : Str} {f : T → List T → MH → R} {r : V → List V → Hp → VK → Prop} (pa : PlainAttrs T') (slot : Slot T' name id) (hty : typeOf (.builtin id) = pure (.type "method_descriptor")) (hm : MtR X id r) (hf : MeM X f r) (ho : SE X W a ma) (ha : SA X W (e :: es) mr)
    (hbase : attributeBase a name X.env (eval a X.env) = eval a X.env := by rfl)
    (hfew : ((backTo pos (starEach (e :: es) X.env)).all (fun x => !x.1) && (backToKw pos (keywordEach [] X.env)).all (fun x => x.1.isSome)
      && decide ((e :: es).length + ([] : List Keyword).length + (if ([] : List Keyword).isEmpty then 0 else 1) < 30)) = true := by rfl)
    (hline : (apos.endLine == pos.line) = true := by rfl) (hs : starEach (e :: es) X.env = (false, eval e X.env) :: starEach es X.env := by rfl) (hplain : (backTo pos (starEach es X.env)).any (·.1) = false := by rfl) :
    SE X W (.Call (.Attribute a name apos) (e :: es) [] pos) (mMe T' f ma mr) := by
  refine weakE (pe_bm pa slot hty hm ho ha hbase hfew hline hs hplain) ?_
  rintro σ H Q ⟨g, s, rfl, R, S, h⟩
  refine ⟨g, s, rfl, R, S, wpR_bind h fun g1 t v e1 R1 r1 h1 => ?_⟩
  split at h1
  · rename_i q
    exact ⟨tyV_of R1 r1 q, g1, s, rfl, R1, S.mono e1, wpL_of h1 fun g2 ts vs e2 R2 r2 h2 => hf W g2 σ t ts v vs Q R2 (r1.mono e2) r2 h2⟩
  · exact h1.elim
theorem se_bm0 {T' id : String} {name : Str} {f : T → List T → MH → R} {r : V → List V → Hp → VK → Prop} (pa : PlainAttrs T') (slot : Slot T' name id) (hty : typeOf (.builtin id) = pure (.type "method_descriptor")) (hm : MtR X id r) (hf : MeM X f r) (ho : SE X W a ma)
    (hbase : attributeBase a name X.env (eval a X.env) = eval a X.env := by rfl) (hline : (apos.endLine == pos.line) = true := by rfl) :
    SE X W (.Call (.Attribute a name apos) [] [] pos) (mMe T' f ma aNil) := by
  refine weakE (pe_bm0 pa slot hty hm ho hbase hline) ?_
  rintro σ H Q ⟨g, s, rfl, R, S, h⟩
  refine ⟨g, s, rfl, R, S, wpR_bind h fun g1 t v e1 R1 r1 h1 => ?_⟩
  split at h1
  · rename_i q
    exact ⟨tyV_of R1 r1 q, hf W g1 σ t [] v [] Q R1 r1 RepL.nil h1⟩
  · exact h1.elim
/-- xs.append(v) of a changeable list -/
def liveL (t : T) (h : MH) : Option (Nat × List T) := match t with
  | .ref i => match h[i]? with
    | some (.lst xs) => some (i, xs)
    | _ => none
  | _ => none
theorem live_of {t : T} {v : V} {i : Nat} {xs : List T} (R : Rel K mg g) (r : Rep K mg g t v) (h : liveL t g.h = some (i, xs)) : ∃ p vs, v = .ref p ∧ g.rho[i]? = some p ∧ g.h[i]? = some (.lst xs) ∧ g.H p = some (.lst vs) ∧ RepL K mg g xs vs := by
  unfold liveL at h
  split at h
  · rename_i j
    split at h
    · rename_i ys q
      cases h
      obtain ⟨p, vs, e, e2, h1, l1⟩ := R.lst_at r q
      exact ⟨p, vs, e, e2, q, h1, l1⟩
    · cases h
  · cases h
/-- a changeable list is written -/
theorem wpR_put {t : T} {v : V} {i : Nat} {q : Addr} {xs ys : List T} {ws : List V} (h : wpR K mg W g σ Q (.ok t (g.h.set i (.lst ys)))) (R : Rel K mg g) (h1 : g.rho[i]? = some q) (h2 : g.h[i]? = some (.lst xs)) (r : RepL K mg g ys ws) (rv : Rep K mg g t v) : Q v (upd g.H q (.lst ws)) := by
  obtain ⟨g', e1, e2, ex, R'⟩ := R.put (o' := .lst ys) (ho := .lst ws) h1 h2 (by intro z; cases z) (by intro z; cases z) (fun g2 s2 hq => ⟨ws, hq, r.sub s2⟩)
  rw [← e1]
  exact h g' v e2 ex R' (rv.mono ex)
def fAppend : T → List T → MH → R := fun t ts h => match ts with
  | [y] => match liveL t h with
    | some (i, xs) => if xs.length < big then .ok .non (h.set i (.lst (xs ++ [y]))) else .stuck
    | none => .stuck
  | _ => .stuck
theorem big_lt {n : Nat} (h : n < big) : n < sizeLine := Nat.lt_of_lt_of_le h (big_le (Nat.le_refl _))
theorem meAppend : MeM X fAppend rAppend := by
  intro W g σ t ts x vs Q R r rs h
  unfold fAppend at h
  split at h
  · rename_i y
    obtain ⟨v, rfl, rv⟩ := rs.one
    split at h
    · rename_i i xs q
      obtain ⟨p, ws, rfl, hp, hh, h1, l1⟩ := live_of R r q
      split at h
      · rename_i z
        exact ⟨p, ws, v, rfl, rfl, h1, big_lt (by rw [← l1.length]; exact z), wpR_put h R hp hh (l1.append (RepL.cons rv RepL.nil)) rNon⟩
      · exact h.elim
    · exact h.elim
  · exact h.elim
def fInsert : T → List T → MH → R := fun t ts h => match ts with
  | [.int k, y] => match liveL t h with
    | some (i, xs) => if xs.length < big ∧ 0 ≤ k ∧ k < 1000000 then .ok .non (h.set i (.lst (xs.take k.toNat ++ [y] ++ xs.drop k.toNat))) else .stuck
    | none => .stuck
  | _ => .stuck
theorem meInsert : MeM X fInsert (fun x vs H Q => ∃ (l : Addr) (xs : List V) (i : Int) (y : V), x = .ref l ∧ vs = [.int i, y] ∧ H l = some (.lst xs) ∧ xs.length < sizeLine ∧ 0 ≤ i ∧ i < 2 ^ 63 ∧
    Q .non (upd H l (.lst (xs.take i.toNat ++ [y] ++ xs.drop i.toNat)))) := by
  intro W g σ t ts x vs Q R r rs h
  unfold fInsert at h
  split at h
  · rename_i k y
    simp only [RepL] at rs
    obtain ⟨v0, w0, rfl, rk, v, w1, rfl, rv, rfl⟩ := rs
    rw [rep_int rk]
    split at h
    · rename_i i xs q
      obtain ⟨p, ws, rfl, hp, hh, h1, l1⟩ := live_of R r q
      split at h
      · rename_i z
        refine ⟨p, ws, k, v, rfl, rfl, h1, big_lt (by rw [← l1.length]; exact z.1), z.2.1, by omega, wpR_put h R hp hh ?_ rNon⟩
        exact ((l1.take _).append (RepL.cons rv RepL.nil)).append (l1.drop _)
      · exact h.elim
    · exact h.elim
  · exact h.elim
/-- methods of texts -/
def fS0 (C : Str → Bool) (f : Str → T) : T → List T → MH → R := fun t ts h => match t, ts with
  | .str a, [] => if C a then .ok (f a) h else .stuck
  | _, _ => .stuck
def fS1 (C : Str → Str → Bool) (f : Str → Str → T) : T → List T → MH → R := fun t ts h => match t, ts with
  | .str a, [.str b] => if C a b then .ok (f a b) h else .stuck
  | _, _ => .stuck
theorem meS1 {Cb : Str → Str → Bool} {C : Str → Str → Prop} {f : Str → Str → T} {fv : Str → Str → V} (hC : ∀ a b, Cb a b = true → C a b) (hf : ∀ (K : PySem.W.Frag) mg g a b, Rep K mg g (f a b) (fv a b)) :
    MeM X (fS1 Cb f) (fun x xs H Q => ∃ a b, x = .str a ∧ xs = [.str b] ∧ C a b ∧ Q (fv a b) H) := by
  intro W g σ t ts x vs Q R r rs h
  unfold fS1 at h
  split at h
  · rename_i a b
    rw [rep_str r, rep_str1 rs]
    split at h
    · rename_i q; exact ⟨a, b, rfl, rfl, hC a b q, wpR_here h R (hf _ _ _ a b)⟩
    · exact h.elim
  · exact h.elim
def fRstrip := fS1 (fun a _ => decide (a.length ≤ big)) fun a b => .str (Txt.rstripChars a b)
theorem meRstrip : MeM X fRstrip (fun x xs H Q => ∃ a b, x = .str a ∧ xs = [.str b] ∧ a.length ≤ sizeLine ∧ Q (.str (Txt.rstripChars a b)) H) := meS1 (C := fun a _ => a.length ≤ sizeLine) (fun a b h => big_le (of_decide_eq_true h)) fun _ _ _ _ _ => rStr
def fJoin : T → List T → MH → R := fun t ts h => match t, ts with
  | .str a, [u] => match seqOf u h with
    | some xs => match strsOf xs with
      | some ys => if (ys.map (·.length)).sum + ys.length * a.length ≤ big then .ok (.str (Txt.join a ys)) h else .stuck
      | none => .stuck
    | none => .stuck
  | _, _ => .stuck
theorem meJoin : MeM X fJoin (fun x xs H Q => ∃ a p, ∃ ys : List Str, x = .str a ∧ xs = [.ref p] ∧ (SqL X.K H p (ys.map V.str) ∨ SqT X.K H p (ys.map V.str)) ∧
    (ys.map (·.length)).sum + ys.length * a.length ≤ 16777216 ∧ Q (.str (Txt.join a ys)) H) := by
  intro W g σ t ts x vs Q R r rs h
  unfold fJoin at h
  split at h
  · rename_i a u
    obtain ⟨v, rfl, rv⟩ := rs.one
    rw [rep_str r]
    split at h
    · rename_i xs q
      obtain ⟨p, ws, rfl, h1, l1⟩ := seq_of R rv q
      split at h
      · rename_i ys z
        rw [strs_of l1 z] at h1
        split at h
        · rename_i sz
          exact ⟨a, p, ys, rfl, rfl, h1, Nat.le_trans sz (by decide), wpR_here h R rStr⟩
        · exact h.elim
      · exact h.elim
    · exact h.elim
  · exact h.elim
end
end Mi
end part_Mi3
section part_Mi4
set_option maxRecDepth 100000
set_option maxHeartbeats 2000000
set_option maxHeartbeats 1000000 in
/-! Mi, part 4: what a for or a comprehension walks. -/
namespace Mi
open PySem PySem.Spec PyProof.Rows L2
/-- a source of items: a list, a tuple, a text -/
inductive Sk where
  | L (a : Addr) | Tp (a : Addr) | S (x : Str)
def Sk.v : Sk → V
  | .L a => .ref a
  | .Tp a => .ref a
  | .S x => .str x
def sgn (x : Str) : List V := x.cps.toList.map fun c => V.str ⟨#[c]⟩
def Sk.at (K : PySem.W.Frag) (H : Hp) (vs : List V) : Sk → Prop
  | .L a => SqL K H a vs
  | .Tp a => SqT K H a vs
  | .S x => vs = sgn x
def Sk.iter (it : Addr) (i : Nat) (h : Heap) : Sk → Prop
  | .L a => h.IsListIter it a i
  | .Tp a => h.IsTupleIter it a i
  | .S x => ∃ t, h.IsStrIter it (strIterType x) x t i
/-- what the source's step leans on -/
structure SkD (P : Program) (w : World) (A : Around) (it : Addr) (sk : Sk) (vs : List V) (i : Nat) (h : Heap) (fp : List Addr) (Pv : Nat → Value → Prop) (St : Nat → Heap → Prop) : Prop where
  D : Draws P w A it fp vs.length Pv St
  st : St i h
  rel : ∀ j u, Pv j u → ∃ x, vs[j]? = some x ∧ RelV x u
  back : ∀ j h', St j h' → sk.iter it j h'
  mem : it ∈ fp
theorem sk_it {K : PySem.W.Frag} {sk : Sk} {it : Addr} {i : Nat} {h h' : Heap} (s : sk.iter it i h) (k : ∀ o, h.get? it = some o → h'.get? it = some o) : sk.iter it i h' := by
  cases sk with
  | L a => exact Heap.IsListIter.at s k
  | Tp a => exact Heap.IsTupleIter.at s k
  | S x => obtain ⟨t, o, ho, r⟩ := s; exact ⟨t, o, k o ho, r⟩
theorem sk_obj {sk : Sk} {it : Addr} {i : Nat} {h : Heap} (s : sk.iter it i h) : ∃ o, h.get? it = some o ∧ ∀ v, o.data ≠ .cell v := by
  cases sk with
  | L a => obtain ⟨o, ho, hc, hd⟩ := s; exact ⟨o, ho, fun v q => by rw [hd] at q; cases q⟩
  | Tp a => obtain ⟨o, ho, hc, hd⟩ := s; exact ⟨o, ho, fun v q => by rw [hd] at q; cases q⟩
  | S x => obtain ⟨t, o, ho, hc, hd⟩ := s; exact ⟨o, ho, fun v q => by rw [hd] at q; cases q⟩
section
variable {X : Cx} {pins : List (Addr × Obj)} {σ : L2.St} {H : Hp} {s : Shared}
/-- an iterator's own cell is no list or tuple that is read -/
theorem fp_neL (I : Inv X pins σ H s) {b a : Addr} {vs : List V} (f : FpOk X pins H b) (h : SqL X.K H a vs) : a ≠ b := by
  rintro rfl
  rcases h with h | ⟨o, _, _, h, _⟩
  · rcases h with h | ⟨o, h⟩ <;> rw [f.1] at h <;> cases h
  · have hb := I.mod.kin _ _ h
    rcases f.2.2.2.1 with z | z
    · exact I.ok.noex _ o hb z
    · exact absurd (Nat.lt_of_lt_of_le (Heap.lt_size (I.ok.bs _ o hb).1) z) (Nat.lt_irrefl _)
theorem fp_neT (I : Inv X pins σ H s) {b a : Addr} {vs : List V} (f : FpOk X pins H b) (h : SqT X.K H a vs) : a ≠ b := by
  rintro rfl
  rcases h with h | ⟨o, _, _, h, _⟩
  · rcases h with h | ⟨o, h⟩ <;> rw [f.1] at h <;> cases h
  · have hb := I.mod.kin _ _ h
    rcases f.2.2.2.1 with z | z
    · exact I.ok.noex _ o hb z
    · exact absurd (Nat.lt_of_lt_of_le (Heap.lt_size (I.ok.bs _ o hb).1) z) (Nat.lt_irrefl _)
def Sk.ads : Sk → List Addr
  | .L a => [a]
  | .Tp a => [a]
  | .S _ => []
theorem sk_draws (I : Inv X pins σ H s) (hc : X.calm = true) {sk : Sk} {vs : List V} {it : Addr} {i : Nat} (hs : sk.at X.K H vs) (hi : sk.iter it i s.heap) (f : FpOk X pins H it) :
    ∃ Pv St, SkD X.prog X.w X.A.in1 it sk vs i s.heap (it :: sk.ads) Pv St := by
  have hh : X.A.in1.handled = none := I.ok.hd hc
  cases sk with
  | L a =>
    obtain ⟨its, rv, p, hz⟩ := I.list hs
    have e : its.toArray.size = vs.length := by rw [List.size_toArray]; exact rv.length.symm
    refine ⟨fun j v => its.toArray[j]? = some v, fun i h => h.IsListIter it a i ∧ h.IsList a its.toArray, ⟨e ▸ Draws.list hh it a (fp_neL I f hs) its.toArray, ⟨hi, p.isList⟩, fun j u h => ?_, fun j h' st => st.1, List.mem_cons_self⟩⟩
    have h' : its[j]? = some u := by simpa using h
    have l : j < vs.length := by rw [rv.length]; exact (List.getElem?_eq_some_iff.mp h').1
    obtain ⟨u', e1, r⟩ := rv.get (List.getElem?_eq_getElem l)
    rw [h'] at e1; cases e1
    exact ⟨_, List.getElem?_eq_getElem l, r⟩
  | Tp a =>
    obtain ⟨its, rv, p, hz⟩ := I.tuple hs
    have e : its.toArray.size = vs.length := by rw [List.size_toArray]; exact rv.length.symm
    refine ⟨fun j v => its.toArray[j]? = some v, fun i h => h.IsTupleIter it a i ∧ h.IsTuple a its.toArray, ⟨e ▸ Draws.tuple hh it a (fp_neT I f hs) its.toArray, ⟨hi, show s.heap.IsTuple a its.toArray from p⟩, fun j u h => ?_, fun j h' st => st.1, List.mem_cons_self⟩⟩
    have h' : its[j]? = some u := by simpa using h
    have l : j < vs.length := by rw [rv.length]; exact (List.getElem?_eq_some_iff.mp h').1
    obtain ⟨u', e1, r⟩ := rv.get (List.getElem?_eq_getElem l)
    rw [h'] at e1; cases e1
    exact ⟨_, List.getElem?_eq_getElem l, r⟩
  | S x =>
    obtain ⟨t, hi⟩ := hi
    have hs' : vs = sgn x := hs
    have e : x.cps.size = vs.length := by rw [hs']; unfold sgn; rw [List.length_map, Array.length_toList]
    refine ⟨fun j v => ∃ c u, x.cps[j]? = some c ∧ v = .str ⟨#[c]⟩ u, fun i h => h.IsStrIter it (strIterType x) x t i, ⟨e ▸ Draws.text hh it x t, hi, fun j u h => ?_, fun j h' st => ⟨t, st⟩, List.mem_cons_self⟩⟩
    obtain ⟨c, w, h1, rfl⟩ := h
    refine ⟨.str ⟨#[c]⟩, ?_, ⟨w, rfl⟩⟩
    rw [hs']; unfold sgn
    rw [List.getElem?_map, Array.getElem?_toList, h1]; rfl
/-- iter(v) of a source -/
theorem sk_begins (I : Inv X pins σ H s) {sk : Sk} {vs : List V} {u : Value} (hs : sk.at X.K H vs) (r : RelV sk.v u) :
    ∃ (o : Obj) (Hp' : Heap → Prop), PySem.Begins u o Hp' ∧ Hp' s.heap ∧ ∀ h' it, h'.get? it = some o → sk.iter it 0 h' := by
  cases sk with
  | L a =>
    cases r
    obtain ⟨its, rv, p, hz⟩ := I.list hs
    exact ⟨_, _, begins_list a its.toArray, p.isList, fun h' it e => ⟨_, e, rfl, rfl⟩⟩
  | Tp a =>
    cases r
    obtain ⟨its, rv, p, hz⟩ := I.tuple hs
    exact ⟨_, _, begins_tuple a its.toArray, (show s.heap.IsTuple a its.toArray from p), fun h' it e => ⟨_, e, rfl, rfl⟩⟩
  | S x =>
    obtain ⟨t, rfl⟩ := r
    exact ⟨_, _, begins_text x t, trivial, fun h' it e => ⟨t, _, e, rfl, rfl⟩⟩
theorem ads_ne (I : Inv X pins σ H s) {sk : Sk} {vs : List V} {b : Addr} (f : FpOk X pins H b) (hs : sk.at X.K H vs) : b ∉ sk.ads := by
  cases sk with
  | L a => intro h; exact fp_neL I f hs (List.mem_singleton.mp h).symm
  | Tp a => intro h; exact fp_neT I f hs (List.mem_singleton.mp h).symm
  | S x => intro h; cases h
/-- an item of a walk over pairs, by the library's WalksT -/
theorem walk_item {elts : List Expr} {kk : Nat} {tpos : Pos} {it : Addr} {fp wr : List Addr} {n : Nat} {Pt : Nat → Array Value → Prop} {St : Nat → Heap → Prop} {Mid : Nat → Addr → Heap → Prop} {E : Value → Shared → Prop} {i : Nat} {xs : Nat → List V}
    (I : Inv X pins σ H s) (W : WalksT X.prog X.w X.A it fp wr n Pt St Mid) (hw : ∀ b ∈ wr, FpOk X pins H b) (hi : i < n) (st : St i s.heap) (hrel : ∀ vals, Pt i vals → Vals (xs i) vals.toList) (hz : (xs i).length ≤ sizeLine)
    {R : V → Hp → Heap → Prop} (hR : ∀ T h', s.heap.objs.size ≤ T → H T = none → St (i + 1) h' → (∀ b ∈ wr, upd H T (.tup (xs i)) b = none) → R (.ref T) (upd H T (.tup (xs i))) h') :
    wpAny (model X.prog X.w) X.A (pyNext (.ref it)) (fun r s1 => ∃ u, r = some u ∧
      wpAny (model X.prog X.w) X.A (letOwnedTupleGo (.Tuple elts kk tpos) (.ref it) u) (fun _ s2 => ∃ x H', Inv X pins σ H' s2 ∧ RelV x u ∧ R x H' s2.heap) E s1) E s := by
  refine W.item i s _ E hi st fun T vals h' tk hP hT hTup hMid hk => ?_
  refine ⟨_, rfl, W.go elts kk tpos i T _ _ _ hMid fun h'' hSt hk2 => ?_⟩
  have hTw : T ∉ wr := W.apart i T h' hMid
  have hTup2 : h''.IsTuple T vals := Heap.IsTuple.at hTup fun o e => hk2 T o hTw e
  have new : ObjOk X.prog X.w (upd H T (.tup (xs i))) h'' T (.tup (xs i)) := ⟨hz, vals.toList, hrel vals hP, by
    have e : vals.toList.toArray = vals := by simp
    rw [e]; exact hTup2⟩
  have hn : H T = none := I.hok.fresh hT
  have I1 : Inv X pins σ (upd H T (.tup (xs i))) { s with heap := h'', toks := tk } :=
    I.turnedNew (ch := wr) (fun b ob hb q => hk2 b ob hb (hk b ob hb q)) hw hT new
  refine ⟨.ref T, _, I1, rfl, hR T h'' hT hn hSt fun b hb => ?_⟩
  have : b ≠ T := fun e => hTw (e ▸ hb)
  rw [upd_ne this]
  exact (hw b hb).1
/-- enumerate: the turns -/
def JE (K : PySem.W.Frag) (sk : Sk) (vs : List V) : It :=
  ⟨fun i H => sk.at K H vs ∧ i < vs.length, fun i H v H' => ∃ T x, v = .ref T ∧ H T = none ∧ H' = upd H T (.tup [.int (i : Nat), x]) ∧ vs[i]? = some x, fun i H => sk.at K H vs ∧ vs.length ≤ i⟩
theorem turn_enumG {P : Program} {w : World} {K : PySem.W.Frag} {elts : List Expr} {kk : Nat} {tpos : Pos} (sk : Sk) (vs : List V) (e it : Addr) (hne : e ≠ it) :
    Turn P w K (.Tuple elts kk tpos) (JE K sk vs) [e, it] e (fun i h => i ≤ vs.length ∧ (∃ old, IsEnum h e it ((i : Nat) : Int) old) ∧ sk.iter it i h) where
  mem := by simp
  obj := fun i h st b hb => by
    obtain ⟨_, ⟨old, he⟩, hi⟩ := st
    have e' : b = e ∨ b = it := by simpa using hb
    rcases e' with z | z
    · rw [z]; exact ⟨_, he, fun v q => nomatch q⟩
    · rw [z]; exact sk_obj hi
  keep := fun i h h' st k => let ⟨l, ⟨old, he⟩, hi⟩ := st; ⟨l, ⟨old, k e (by simp) _ he⟩, sk_it (K := K) hi fun o q => k it (by simp) o q⟩
  item := by
    intro X hP hw hK hc i pins s σ H E I hf st hg
    subst hP hw hK
    obtain ⟨_, he, hit⟩ := st
    obtain ⟨hs, hlt⟩ := hg
    obtain ⟨Pv, St, D⟩ := sk_draws I hc hs hit (hf it (by simp))
    have hef : e ∉ it :: sk.ads := by
      intro z
      rcases List.mem_cons.mp z with z | z
      · exact hne z
      · exact ads_ne I (hf e (by simp)) hs z
    have W := WalksT.enumerateD D.D e hne hef D.mem
    refine walk_item (xs := fun i => [.int (i : Nat), vs.getD i .non]) (R := fun x H' h' => (JE X.K sk vs).yld i H x H' ∧ (i + 1 ≤ vs.length ∧ (∃ old, IsEnum h' e it ((i + 1 : Nat) : Int) old) ∧ sk.iter it (i + 1) h') ∧ ∀ b ∈ [e, it], H' b = none)
      I W hf hlt ⟨he, D.st⟩ (fun vals hv => ?_) (by show 2 ≤ sizeLine; rw [sizeLine_eq]; decide) fun T h' hTs hn hSt hbw => ⟨⟨T, vs[i], rfl, hn, ?_, List.getElem?_eq_getElem hlt⟩, ⟨by omega, hSt.1, D.back _ _ hSt.2⟩, hbw⟩
    · obtain ⟨t, x, hx, rfl⟩ := hv
      obtain ⟨y, hy, ry⟩ := D.rel i x hx
      have : vs.getD i .non = y := by rw [List.getD_eq_getElem?_getD, hy]; rfl
      rw [this]
      exact .cons ⟨t, rfl⟩ (.cons ry .nil)
    · have : vs.getD i .non = vs[i] := by rw [List.getD_eq_getElem?_getD, List.getElem?_eq_getElem hlt]; rfl
      rw [this]
  done := by
    intro X hP hw hK hc i pins s σ H E I hf st hg
    subst hP hw hK
    obtain ⟨hle, he, hit⟩ := st
    obtain ⟨hs, hge⟩ := hg
    have ei : i = vs.length := by omega
    subst ei
    obtain ⟨Pv, St, D⟩ := sk_draws I hc hs hit (hf it (by simp))
    have hef : e ∉ it :: sk.ads := by
      intro z
      rcases List.mem_cons.mp z with z | z
      · exact hne z
      · exact ads_ne I (hf e (by simp)) hs z
    have W := WalksT.enumerateD D.D e hne hef D.mem
    refine W.done s _ E ⟨he, D.st⟩ fun h' tk hk => ⟨rfl, ?_⟩
    exact I.turnedL hk hf
  self := fun A i s Q E st hQ => by
    obtain ⟨_, ⟨old, he⟩, _⟩ := st
    exact wpAny_pyIter_enum he hQ
/-- zip: the turns -/
def JZ (K : PySem.W.Frag) (sk sk2 : Sk) (vs ws : List V) : It :=
  ⟨fun i H => sk.at K H vs ∧ sk2.at K H ws ∧ i < vs.length ∧ i < ws.length, fun i H v H' => ∃ T x y, v = .ref T ∧ H T = none ∧ H' = upd H T (.tup [x, y]) ∧ vs[i]? = some x ∧ ws[i]? = some y, fun i H => sk.at K H vs ∧ sk2.at K H ws ∧ (vs.length ≤ i ∨ ws.length ≤ i)⟩
theorem zip_sep (I : Inv X pins σ H s) {sk sk2 : Sk} {vs ws : List V} {z TI TO i1 i2 : Addr} (h1 : sk.at X.K H vs) (h2 : sk2.at X.K H ws) (hf : ∀ b ∈ [z, TI, TO, i1, i2], FpOk X pins H b) (nd : [z, TI, TO, i1, i2].Nodup) :
    ZipSep2 z TI TO i1 i2 (i1 :: sk.ads) (i2 :: sk2.ads) := by
  simp only [List.nodup_cons, List.mem_cons, List.not_mem_nil, or_false, not_or, not_false_eq_true, List.nodup_nil, and_true] at nd
  obtain ⟨⟨a1, a2, a3, a4⟩, ⟨b1, b2, b3⟩, ⟨c1, c2⟩, d1⟩ := nd
  have f : ∀ b, b ∈ [z, TI, TO, i1, i2] → b ∉ sk.ads ∧ b ∉ sk2.ads := fun b hb => ⟨ads_ne I (hf b hb) h1, ads_ne I (hf b hb) h2⟩
  refine ⟨Ne.symm a1, Ne.symm a2, b1, b2, List.mem_cons_self, ?_, ?_, b3, List.mem_cons_self, ?_, ?_, ?_, ?_⟩
  · exact fun q => (List.mem_cons.mp q).elim a3 (f z (by simp)).1
  · exact fun q => (List.mem_cons.mp q).elim c1 (f TO (by simp)).1
  · exact fun q => (List.mem_cons.mp q).elim a4 (f z (by simp)).2
  · exact fun q => (List.mem_cons.mp q).elim c2 (f TO (by simp)).2
  · exact fun q => (List.mem_cons.mp q).elim d1 (f i1 (by simp)).2
  · exact fun q => (List.mem_cons.mp q).elim (Ne.symm d1) (f i2 (by simp)).1
theorem turn_zipG {P : Program} {w : World} {K : PySem.W.Frag} {elts : List Expr} {kk : Nat} {tpos : Pos} (sk sk2 : Sk) (vs ws : List V) (z TI TO i1 i2 : Addr) (nd : [z, TI, TO, i1, i2].Nodup) :
    Turn P w K (.Tuple elts kk tpos) (JZ K sk sk2 vs ws) [z, TI, TO, i1, i2] z (fun i h => i ≤ vs.length ∧ i ≤ ws.length ∧ IsZip h z TI TO .none ∧ IsTupOf2 h TI (.ref i1) (.ref i2) ∧ (∃ x y, IsTupOf2 h TO x y) ∧ sk.iter i1 i h ∧ sk2.iter i2 i h) where
  mem := by simp
  obj := fun i h st b hb => by
    obtain ⟨_, _, hz, hTI, ⟨x, y, hTO⟩, s1, s2⟩ := st
    have e' : b = z ∨ b = TI ∨ b = TO ∨ b = i1 ∨ b = i2 := by simpa using hb
    rcases e' with e | e | e | e | e
    · rw [e]; exact ⟨_, hz, fun v q => nomatch q⟩
    · rw [e]; exact ⟨_, hTI, fun v q => nomatch q⟩
    · rw [e]; exact ⟨_, hTO, fun v q => nomatch q⟩
    · rw [e]; exact sk_obj s1
    · rw [e]; exact sk_obj s2
  keep := fun i h h' st k => let ⟨l1, l2, hz, hTI, ⟨x, y, hTO⟩, s1, s2⟩ := st
    ⟨l1, l2, k z (by simp) _ hz, k TI (by simp) _ hTI, ⟨x, y, k TO (by simp) _ hTO⟩, sk_it (K := K) s1 fun o q => k i1 (by simp) o q, sk_it (K := K) s2 fun o q => k i2 (by simp) o q⟩
  item := by
    intro X hP hw hK hc i pins s σ H E I hf st hg
    subst hP hw hK
    obtain ⟨_, _, hz, hTI, hTO, s1, s2⟩ := st
    obtain ⟨h1, h2, l1, l2⟩ := hg
    obtain ⟨Pv, St, D⟩ := sk_draws I hc h1 s1 (hf i1 (by simp))
    obtain ⟨Pv2, St2, D2⟩ := sk_draws I hc h2 s2 (hf i2 (by simp))
    have W := WalksT.zipD2 (zip_sep I h1 h2 hf nd) D.D D2.D
    refine walk_item (xs := fun i => [vs.getD i .non, ws.getD i .non]) (R := fun x H' h' => (JZ X.K sk sk2 vs ws).yld i H x H' ∧ (i + 1 ≤ vs.length ∧ i + 1 ≤ ws.length ∧ IsZip h' z TI TO .none ∧ IsTupOf2 h' TI (.ref i1) (.ref i2) ∧ (∃ x y, IsTupOf2 h' TO x y) ∧ sk.iter i1 (i + 1) h' ∧ sk2.iter i2 (i + 1) h') ∧ ∀ b ∈ [z, TI, TO, i1, i2], H' b = none)
      I W (fun b hb => hf b ?_) (by omega) ⟨hz, hTI, hTO, D.st, D2.st⟩ (fun vals hv => ?_) (by show 2 ≤ sizeLine; rw [sizeLine_eq]; decide) fun T h' hTs hn hSt hbw => ⟨⟨T, vs[i], ws[i], rfl, hn, ?_, List.getElem?_eq_getElem l1, List.getElem?_eq_getElem l2⟩, ⟨by omega, by omega, hSt.1, hSt.2.1, hSt.2.2.1, D.back _ _ hSt.2.2.2.1, D2.back _ _ hSt.2.2.2.2⟩, fun b hb => ?_⟩
    · have e' : b = z ∨ b = TO ∨ b = i1 ∨ b = i2 := by simpa using hb
      rcases e' with e | e | e | e <;> simp [e]
    · obtain ⟨x, y, hx, hy, rfl⟩ := hv
      obtain ⟨x', hx', rx⟩ := D.rel i x hx
      obtain ⟨y', hy', ry⟩ := D2.rel i y hy
      have e1 : vs.getD i .non = x' := by rw [List.getD_eq_getElem?_getD, hx']; rfl
      have e2 : ws.getD i .non = y' := by rw [List.getD_eq_getElem?_getD, hy']; rfl
      rw [e1, e2]
      exact .cons rx (.cons ry .nil)
    · have e1 : vs.getD i .non = vs[i] := by rw [List.getD_eq_getElem?_getD, List.getElem?_eq_getElem l1]; rfl
      have e2 : ws.getD i .non = ws[i] := by rw [List.getD_eq_getElem?_getD, List.getElem?_eq_getElem l2]; rfl
      rw [e1, e2]
    · by_cases eb : b = TI
      · have lt : TI < s.heap.objs.size := Heap.lt_size hTI
        rw [upd_ne (by rw [eb]; exact Nat.ne_of_lt (Nat.lt_of_lt_of_le lt hTs))]; exact (hf b hb).1
      · have e' : b = z ∨ b = TI ∨ b = TO ∨ b = i1 ∨ b = i2 := by simpa using hb
        exact hbw b (by
          rcases e' with e | e | e | e | e
          · simp [e]
          · exact absurd e eb
          · simp [e]
          · simp [e]
          · simp [e])
  done := by
    intro X hP hw hK hc i pins s σ H E I hf st hg
    subst hP hw hK
    obtain ⟨q1, q2, hz, hTI, hTO, s1, s2⟩ := st
    obtain ⟨h1, h2, l⟩ := hg
    have ei : i = min vs.length ws.length := by omega
    obtain ⟨Pv, St, D⟩ := sk_draws I hc h1 s1 (hf i1 (by simp))
    obtain ⟨Pv2, St2, D2⟩ := sk_draws I hc h2 s2 (hf i2 (by simp))
    have W := WalksT.zipD2 (zip_sep I h1 h2 hf nd) D.D D2.D
    refine W.done s _ E (ei ▸ ⟨hz, hTI, hTO, D.st, D2.st⟩) fun h' tk hk => ⟨rfl, ?_⟩
    refine I.turnedL hk fun b hb => hf b ?_
    have e' : b = z ∨ b = TO ∨ b = i1 ∨ b = i2 := by simpa using hb
    rcases e' with e | e | e | e <;> simp [e]
  self := fun A i s Q E st hQ => by
    obtain ⟨_, _, hz, _⟩ := st
    exact wpAny_pyIter_zip hz hQ
end
/-! ### the mirror's walks -/
structure ItOk (K : PySem.W.Frag) (mg : Str → Option Value) (g0 : G) (xs : List T) (J : It) : Prop where
  go : ∀ i g, Sub g0 g → Rel K mg g → i < xs.length → J.go i g.H
  yld : ∀ i g x H', Sub g0 g → Rel K mg g → i < xs.length → J.yld i g.H x H' → ∃ g', g'.H = H' ∧ g'.h = g.h ∧ Ext g g' ∧ Rel K mg g' ∧ ∃ t, xs[i]? = some t ∧ Rep K mg g' t x
  stop : ∀ i g, Sub g0 g → Rel K mg g → xs.length ≤ i → J.stop i g.H
abbrev MI := SM → MH → RL
def wpI (K : PySem.W.Frag) (mg : Str → Option Value) (W : WX) (g : G) (σ : L2.St) (Rr : It → Hp → Prop) : RL → Prop
  | .ok xs h' => ∀ g' J, g'.h = h' → Ext g g' → Rel K mg g' → ItOk K mg g' xs J → Rr J g'.H
  | .ex x h' => ∀ g' cls d, g'.h = h' → Ext g g' → Rel K mg g' → RepX K mg g' x cls d → W cls d σ g'.H
  | .stuck => False
def tMI (K : PySem.W.Frag) (mg : Str → Option Value) (W : WX) (m : MI) : TI := fun σ H Rr => ∃ g s, g.H = H ∧ Rel K mg g ∧ RepS K mg g s σ ∧ wpI K mg W g σ Rr (m s g.h)
abbrev SI (X : Cx) (W : WX) (tg iter : Expr) (m : MI) : Prop := PI X tg iter (tMI X.K X.mg W m)
theorem weakI {X : Cx} {tg e : Expr} {t t' : TI} (h : PI X tg e t) (k : ∀ σ H Q, t' σ H Q → t σ H Q) : PI X tg e t' := ⟨fun pins s σ H Q I q => h.run pins s σ H Q I (k σ H Q q)⟩
def chrT (x : Str) : List T := x.cps.toList.map fun c => T.str ⟨#[c]⟩
theorem rep_chr {K : PySem.W.Frag} {mg : Str → Option Value} {g : G} (x : Str) : RepL K mg g (chrT x) (sgn x) := by
  have : ∀ l : List Nat, RepL K mg g (l.map fun c => T.str ⟨#[c]⟩) (l.map fun c => V.str ⟨#[c]⟩) := by
    intro l
    induction l with
    | nil => exact RepL.nil
    | cons c l ih => exact RepL.cons rStr ih
  exact this _
/-- the items of a source that stands (no changeable list) -/
def srcOf (t : T) : Option (List T) := match t with
  | .tup xs => some xs
  | .lst xs => some xs
  | .frl xs => some xs
  | .str x => some (chrT x)
  | _ => none
theorem sk_sub {K : PySem.W.Frag} {mg : Str → Option Value} {g : G} {t : T} {v : V} {xs : List T} (r : Rep K mg g t v) (h : srcOf t = some xs) :
    ∃ (sk : Sk) (vs : List V), v = sk.v ∧ RepL K mg g xs vs ∧ ∀ g' : G, Sub g g' → sk.at K g'.H vs := by
  unfold srcOf at h
  cases t with
  | tup ys =>
    cases h
    simp only [Rep] at r
    obtain ⟨p, vs, e, h1, l1⟩ := r
    refine ⟨.Tp p, vs, e, l1, fun g' s => ?_⟩
    rcases h1 with ⟨⟨o, h1, _⟩, n⟩ | h1
    · exact .inl (.inr ⟨o, (s.keep _ _ h1 n).1⟩)
    · exact .inr h1.tup
  | lst ys =>
    cases h
    simp only [Rep] at r
    obtain ⟨p, vs, e, ⟨h1, n⟩, l1⟩ := r
    exact ⟨.L p, vs, e, l1, fun g' s => .inl (.inl (s.keep _ _ h1 n).1)⟩
  | frl ys =>
    cases h
    simp only [Rep] at r
    obtain ⟨p, vs, e, h1, l1⟩ := r
    refine ⟨.L p, vs, e, l1, fun g' s => ?_⟩
    rcases h1 with ⟨⟨o, h1⟩, n⟩ | h1
    · exact .inl (.inr ⟨o, (s.keep _ _ h1 n).1⟩)
    · exact .inr h1
  | str x =>
    cases h
    exact ⟨.S x, sgn x, rep_str r, rep_chr x, fun g' s => rfl⟩
  | _ => cases h
section
variable {X : Cx} {W : WX} {a b : Expr} {ma mb : ME} {mr : MA} {p pos tpos : Pos} {K : PySem.W.Frag} {mg : Str → Option Value} {g : G} {σ : L2.St}
/-- the turns of a source -/
def Jsk (K : PySem.W.Frag) : Sk → It
  | .L a => Itl K a
  | .Tp a => Itt K a
  | .S x => Its x
def iSrc (K : PySem.W.Frag) (tl : TE) : TI := fun σ H R => tl σ H fun x H1 => ∃ (sk : Sk) (vs : List V), x = sk.v ∧ sk.at K H1 vs ∧ R (Jsk K sk) H1
theorem pi_src {tg l : Expr} {tl : TE} (hl : PE X l tl) : PI X tg l (iSrc X.K tl) := by
  refine ⟨fun pins s σ H R I h => ?_⟩
  refine thn (hl.run pins s σ H _ I h) fun v s1 ⟨x, H1, I1, r1, q1⟩ => ?_
  obtain ⟨sk, vs, e, hq, q⟩ := q1
  subst e
  cases sk with
  | L a =>
    cases r1
    obtain ⟨its, rv, p, hz⟩ := I1.list hq
    refine wpAny_pyIter_list p.isList ?_
    exact pi_one (tk := s1.toks) I1 _ (turn_list a _) ⟨_, Heap.get?_push_size _ rfl, rfl, rfl⟩ q
  | Tp a =>
    cases r1
    obtain ⟨its, rv, p, hz⟩ := I1.tuple hq
    refine wpAny_pyIter_tuple (show s1.heap.IsTuple a its.toArray from p) ?_
    exact pi_one (tk := s1.toks) I1 _ (turn_tuple a _) ⟨_, Heap.get?_push_size _ rfl, rfl, rfl⟩ q
  | S x =>
    obtain ⟨t, rfl⟩ := r1
    cases ha : x.cps.all (· < 128)
    · exact wpAny_pyIter_wide ha (pi_one (tk := s1.toks) I1 _ (turn_str _ x t "str_iterator" (.inr rfl)) ⟨_, Heap.get?_push_size _ rfl, rfl, rfl⟩ q)
    · exact wpAny_pyIter_ascii ha (pi_one (tk := s1.toks) I1 _ (turn_str _ x t "str_ascii_iterator" (.inl rfl)) ⟨_, Heap.get?_push_size _ rfl, rfl, rfl⟩ q)
theorem jsk_ok {sk : Sk} {vs : List V} {xs : List T} (r : RepL K mg g xs vs) (hs : ∀ g' : G, Sub g g' → sk.at K g'.H vs) : ItOk K mg g xs (Jsk K sk) := by
  have key : ∀ (i : Nat) (g1 : G) (x : V), Sub g g1 → Rel K mg g1 → vs[i]? = some x → ∃ g', g'.H = g1.H ∧ g'.h = g1.h ∧ Ext g1 g' ∧ Rel K mg g' ∧ ∃ t, xs[i]? = some t ∧ Rep K mg g' t x := fun i g1 x s R e => by
    obtain ⟨t, e1, r1⟩ := (r.sub s).get' e
    exact ⟨g1, rfl, rfl, Ext.refl _, R, t, e1, r1⟩
  cases sk with
  | L a =>
    refine ⟨fun i g1 s R l => ?_, fun i g1 x H' s R il y => ?_, fun i g1 s R l => ⟨vs, hs g1 s, by rw [← r.length]; exact l⟩⟩
    · rw [r.length] at l; exact ⟨vs, _, hs g1 s, List.getElem?_eq_getElem l⟩
    · obtain ⟨rfl, y⟩ := y; exact key i g1 x s R (y vs (hs g1 s))
  | Tp a =>
    refine ⟨fun i g1 s R l => ?_, fun i g1 x H' s R il y => ?_, fun i g1 s R l => ⟨vs, hs g1 s, by rw [← r.length]; exact l⟩⟩
    · rw [r.length] at l; exact ⟨vs, _, hs g1 s, List.getElem?_eq_getElem l⟩
    · obtain ⟨rfl, y⟩ := y; exact key i g1 x s R (y vs (hs g1 s))
  | S x =>
    have e : vs = sgn x := hs g ⟨fun _ _ h => h, fun _ _ h n => ⟨h, n⟩⟩
    have l0 : xs.length = x.cps.size := by rw [r.length, e]; unfold sgn; rw [List.length_map, Array.length_toList]
    refine ⟨fun i g1 s R l => by rw [l0] at l; exact l, fun i g1 v H' s R il y => ?_, fun i g1 s R l => by rw [l0] at l; exact l⟩
    obtain ⟨rfl, c, hc, rfl⟩ := y
    refine key i g1 _ s R ?_
    rw [e]; unfold sgn
    rw [List.getElem?_map, Array.getElem?_toList, hc]; rfl
def iS : T → MH → RL := fun t h => match srcOf t with
  | some xs => .ok xs h
  | none => .stuck
def R.bindL (r : R) (f : T → MH → RL) : RL := match r with
  | .ok t h => f t h
  | .ex x h => .ex x h
  | .stuck => .stuck
theorem wpI.ext {Rr : It → Hp → Prop} {g g' : G} {r : RL} (h : wpI K mg W g σ Rr r) (e : Ext g g') : wpI K mg W g' σ Rr r := by
  cases r with
  | ok t h' => exact fun g2 v q e2 => h g2 v q (e.trans e2)
  | ex x h' => exact fun g2 c d q e2 => h g2 c d q (e.trans e2)
  | stuck => exact h
theorem wpI_bind {Rr : It → Hp → Prop} {Q' : VK} {r : R} {f : T → MH → RL} (h : wpI K mg W g σ Rr (r.bindL f)) (k : ∀ g' t v, Ext g g' → Rel K mg g' → Rep K mg g' t v → wpI K mg W g' σ Rr (f t g'.h) → Q' v g'.H) : wpR K mg W g σ Q' r := by
  cases r with
  | ok t h' => exact fun g' v q e R r => k g' t v e R r (by subst q; exact wpI.ext h e)
  | ex x h' => exact h
  | stuck => exact h
def mSrc (ma : ME) : MI := fun s h => (ma s h).bindL iS
theorem si_src {tg : Expr} (ha : SE X W a ma) : SI X W tg a (mSrc ma) := by
  refine weakI (pi_src ha) ?_
  rintro σ H Rr ⟨g, s, rfl, R, S, h⟩
  refine ⟨g, s, rfl, R, S, wpI_bind h fun g1 t v e1 R1 r1 h1 => ?_⟩
  unfold iS at h1
  split at h1
  · rename_i xs q
    obtain ⟨sk, vs, e, l, hs⟩ := sk_sub r1 q
    refine ⟨sk, vs, e, hs g1 ⟨fun _ _ h => h, fun _ _ h n => ⟨h, n⟩⟩, h1 g1 _ rfl (Ext.refl _) R1 (jsk_ok l hs)⟩
  · exact h1.elim
end
end Mi
namespace PySem
open Sem (wp)
theorem meets_enumerate_newB1 {v : Value} {o : Obj} {H : Heap → Prop} (B : Begins v o H) :
    Meets (Builtin.«enumerate.__new__» ⟨[.type "enumerate", v], []⟩) (fun _ R s => H s.heap ∧
      R (.ok (.ret (.ref (s.heap.push o).objs.size))) { s with heap := (s.heap.push o).push { cls := .type "enumerate", data := .fields #[.none, .bool false, .ref s.heap.objs.size, rawInt 0, .none, .none] } }) :=
  .of_wp fun prog w A R s h => by
    obtain ⟨hp, g, d, tk, os⟩ := s; obtain ⟨h1, h⟩ := h
    have hsub := sub_enumerate
    have q1 : ∀ {A' : Around} {E : Value → Shared → Prop} {Q : Value → Shared → Prop}, Q (.ref hp.objs.size) ⟨hp.push o, g, d, tk, os⟩ → wpAny (model prog w) A' (pyIter v) Q E ⟨hp, g, d, tk, os⟩ :=
      fun q => B.iter prog w _ _ ⟨hp, g, d, tk, os⟩ _ h1 q
    wp_walk using q1
    refine wpAny_stack_any fun st => wpAny_pure ?_
    split
    · rename_i c _ _ _ _ _
      cases (c == Value.type "enumerate")
      · wp_walk using q1
        exact ⟨_, rfl, h⟩
      · wp_walk using q1
        exact ⟨_, rfl, h⟩
    · wp_walk using q1
      exact ⟨_, rfl, h⟩
section
variable {prog : Program} {w : World} {A : Around} {E : Value → Shared → Prop} {s : Shared}
theorem enum_begins1 {v : Value} {o : Obj} {H : Heap → Prop} {Q : Value → Shared → Prop} (B : Begins v o H) (h1 : H s.heap)
    (h : ∀ h', IsEnum h' (s.heap.objs.size + 1) s.heap.objs.size 0 .none → h'.get? s.heap.objs.size = some o → h'.objs.size = s.heap.objs.size + 2 →
      (∀ b o, s.heap.get? b = some o → h'.get? b = some o) → Q (.ref (s.heap.objs.size + 1)) { s with heap := h' }) :
    wpAny (model prog w) A (call (.type "enumerate") [v]) Q E s := by
  refine callType_new F.called_enumerate (by decide) (F.typeCall_enumerate_1 _) (F.newCall_enumerate_1 _) (fun obj => F.args_object_init_2 obj _) F.entry_enumerate_new
    (meets_enumerate_newB1 B) ⟨h1, ?_⟩
  have hz : (s.heap.push o).objs.size = s.heap.objs.size + 1 := Heap.size_push ..
  show _ ∧ _
  rw [hz]
  have he : IsEnum ((s.heap.push o).push { cls := .type "enumerate", data := .fields #[.none, .bool false, .ref s.heap.objs.size, rawInt 0, .none, .none] }) (s.heap.objs.size + 1) s.heap.objs.size 0 .none := by
    have := Heap.get?_push_size (s.heap.push o) (o := { cls := .type "enumerate", data := .fields #[.none, .bool false, .ref s.heap.objs.size, rawInt 0, .none, .none] }) rfl
    rw [hz] at this; exact this
  refine ⟨⟨_, he, rfl⟩, h _ he (Heap.get?_push_of_some _ (Heap.get?_push_size _ B.free)) (by rw [Heap.size_push, hz]) fun b o x => Heap.get?_push_of_some _ (Heap.get?_push_of_some _ x)⟩
end
end PySem
namespace Mi
open PySem PySem.Spec PyProof.Rows L2
section
variable {X : Cx} {W : WX} {a b : Expr} {ma mb : ME} {mr : MA} {p pos tpos : Pos} {K : PySem.W.Frag} {mg : Str → Option Value} {g : G} {σ : L2.St} {elts : List Expr} {kk : Nat}
def iEnumG (K : PySem.W.Frag) (ta : TA) : TI := fun σ H R => ta σ H fun us H1 => ∃ (sk : Sk) (vs : List V), us = [sk.v] ∧ sk.at K H1 vs ∧ R (JE K sk vs) H1
theorem pi_enumG {ta : TA} (hm : X.mg "enumerate" = none) (ha : PA X [a] ta) (hg : Gl X "enumerate" := by rfl) (hs : starEach [a] X.env = [(false, eval a X.env)] := by rfl) :
    PI X (.Tuple elts kk tpos) (.Call (.Name "enumerate" p) [a] [] pos) (iEnumG X.K ta) := by
  refine ⟨fun pins s σ H R I h => ?_⟩
  refine Call_ (ld_blt I hg hm boot_enumerate (PyProof.Rows.callWith_type1 (thn (ha.run pos pins s σ H _ I h) fun us s1 ⟨vs, H1, I1, r1, q1⟩ => ?_) hs rfl))
  obtain ⟨sk, ws, ex, hq, q⟩ := q1
  subst ex
  cases r1 with
  | cons r rr =>
    cases rr
    obtain ⟨o, Hb, B, hB, hit⟩ := sk_begins I1 hq r
    refine PySem.enum_begins1 B hB fun h' he hi hsz hk => wpAny_pyIter_enum he ?_
    have I2 : Inv X pins σ H1 { s1 with heap := h' } := I1.kept (t' := s1.toks) hk
    refine ⟨s1.heap.objs.size + 1, [s1.heap.objs.size + 1, s1.heap.objs.size], _, _, H1, rfl, I2, turn_enumG sk ws (s1.heap.objs.size + 1) s1.heap.objs.size (Nat.succ_ne_self _), ⟨Nat.zero_le _, ⟨.none, he⟩, hit h' _ hi⟩, fun b hb => ?_, q⟩
    have e' : b = s1.heap.objs.size + 1 ∨ b = s1.heap.objs.size := by simpa using hb
    have hle : s1.heap.objs.size ≤ b := by
      rcases e' with z | z
      · rw [z]; exact Nat.le_add_right _ _
      · rw [z]; exact Nat.le_refl _
    exact I1.fpOk hle (I1.hok.fresh hle)
def iZipG (K : PySem.W.Frag) (ta : TA) : TI := fun σ H R => ta σ H fun us H1 => ∃ (sk sk2 : Sk) (vs ws : List V), us = [sk.v, sk2.v] ∧ sk.at K H1 vs ∧ sk2.at K H1 ws ∧ R (JZ K sk sk2 vs ws) H1
theorem pi_zipG {ta : TA} (hm : X.mg "zip" = none) (ha : PA X [a, b] ta) (hg : Gl X "zip" := by rfl)
    (hs : starEach [a, b] X.env = (false, eval a X.env) :: starEach [b] X.env := by rfl) (hpl : (backTo pos (starEach [b] X.env)).any (·.1) = false := by rfl) :
    PI X (.Tuple elts kk tpos) (.Call (.Name "zip" p) [a, b] [] pos) (iZipG X.K ta) := by
  refine ⟨fun pins s σ H R I h => ?_⟩
  refine Call_ (ld_blt I hg hm PyProof.Rows.boot_zip (PyProof.Rows.callWith_type1 (thn (ha.run pos pins s σ H _ I h) fun us s1 ⟨vs, H1, I1, r1, q1⟩ => ?_) hs hpl))
  obtain ⟨sk, sk2, xs, ys, ex, hqx, hqy, q⟩ := q1
  subst ex
  cases r1 with
  | cons r rr =>
    cases rr with
    | cons r' rr =>
      cases rr
      obtain ⟨o, Hb, B, hB, hit⟩ := sk_begins I1 hqx r
      obtain ⟨o2, Hb2, B2, hB2, hit2⟩ := sk_begins I1 hqy r'
      refine PySem.zip_begins2 B B2 hB hB2 fun h' hz hTI hTO h1 h2 hsz hk => wpAny_pyIter_zip hz ?_
      have I2 : Inv X pins σ H1 { s1 with heap := h' } := I1.kept (t' := s1.toks) hk
      refine ⟨s1.heap.objs.size + 4, [s1.heap.objs.size + 4, s1.heap.objs.size + 2, s1.heap.objs.size + 3, s1.heap.objs.size, s1.heap.objs.size + 1], _, _, H1, rfl, I2, turn_zipG sk sk2 xs ys _ _ _ _ _ (by simp), ⟨Nat.zero_le _, Nat.zero_le _, hz, hTI, ⟨_, _, hTO⟩, hit h' _ h1, hit2 h' _ h2⟩, fun c hcm => ?_, q⟩
      have e' : c = s1.heap.objs.size + 4 ∨ c = s1.heap.objs.size + 2 ∨ c = s1.heap.objs.size + 3 ∨ c = s1.heap.objs.size ∨ c = s1.heap.objs.size + 1 := by simpa using hcm
      have hle : s1.heap.objs.size ≤ c := by
        rcases e' with z | z | z | z | z
        · rw [z]; exact Nat.le_add_right _ _
        · rw [z]; exact Nat.le_add_right _ _
        · rw [z]; exact Nat.le_add_right _ _
        · rw [z]; exact Nat.le_refl _
        · rw [z]; exact Nat.le_add_right _ _
      exact I1.fpOk hle (I1.hok.fresh hle)
def enumT : Nat → List T → List T
  | _, [] => []
  | n, x :: xs => .tpl [.int (n : Int), x] :: enumT (n + 1) xs
theorem enumT_get : ∀ (xs : List T) (n i : Nat), (enumT n xs)[i]? = (xs[i]?).map fun x => T.tpl [.int ((n + i : Nat) : Int), x]
  | [], _, _ => by simp [enumT]
  | x :: xs, n, 0 => by simp [enumT]
  | x :: xs, n, i + 1 => by
    simp only [enumT, List.getElem?_cons_succ]
    rw [enumT_get xs (n + 1) i]
    have : n + 1 + i = n + (i + 1) := by omega
    rw [this]
theorem enumT_len : ∀ (xs : List T) (n : Nat), (enumT n xs).length = xs.length
  | [], _ => rfl
  | x :: xs, n => by simp [enumT, enumT_len xs (n + 1)]
theorem yld_tup {R : Rel K mg g} {p : Addr} {xs : List T} {vs : List V} (hp : g.H p = none) (r : RepL K mg g xs vs) : ∃ g', g'.H = upd g.H p (.tup vs) ∧ g'.h = g.h ∧ Ext g g' ∧ Rel K mg g' ∧ Rep K mg g' (.tpl xs) (.ref p) :=
  ⟨g.lay p (.tup vs), rfl, rfl, lay_ext R hp, R.lay hp, rep_tpl R hp r⟩
theorem je_ok {sk : Sk} {vs : List V} {xs : List T} (r : RepL K mg g xs vs) (hs : ∀ g' : G, Sub g g' → sk.at K g'.H vs) : ItOk K mg g (enumT 0 xs) (JE K sk vs) := by
  refine ⟨fun i g1 s R l => ⟨hs g1 s, by rw [enumT_len, r.length] at l; exact l⟩, fun i g1 x H' s R il y => ?_, fun i g1 s R l => ⟨hs g1 s, by rw [enumT_len, r.length] at l; exact l⟩⟩
  obtain ⟨q, z, rfl, hq, rfl, hz⟩ := y
  obtain ⟨t, e1, r1⟩ := (r.sub s).get' hz
  obtain ⟨g', e2, e3, e4, R', r'⟩ := yld_tup (R := R) (xs := [.int (i : Int), t]) hq (RepL.cons rInt (RepL.cons r1 RepL.nil))
  refine ⟨g', e2, e3, e4, R', _, ?_, r'⟩
  rw [enumT_get, e1]
  simp
def zipT (xs ys : List T) : List T := (xs.zip ys).map fun q => .tpl [q.1, q.2]
theorem jz_ok {sk sk2 : Sk} {vs ws : List V} {xs ys : List T} (r : RepL K mg g xs vs) (r2 : RepL K mg g ys ws) (hs : ∀ g' : G, Sub g g' → sk.at K g'.H vs) (hs2 : ∀ g' : G, Sub g g' → sk2.at K g'.H ws) : ItOk K mg g (zipT xs ys) (JZ K sk sk2 vs ws) := by
  have ln : (zipT xs ys).length = min vs.length ws.length := by unfold zipT; rw [List.length_map, List.length_zip, r.length, r2.length]
  refine ⟨fun i g1 s R l => ⟨hs g1 s, hs2 g1 s, by omega, by omega⟩, fun i g1 x H' s R il y => ?_, fun i g1 s R l => ⟨hs g1 s, hs2 g1 s, by omega⟩⟩
  obtain ⟨q, z, z2, rfl, hq, rfl, hz, hz2⟩ := y
  obtain ⟨t, e1, r1⟩ := (r.sub s).get' hz
  obtain ⟨t2, f1, rr1⟩ := (r2.sub s).get' hz2
  obtain ⟨g', e2, e3, e4, R', r'⟩ := yld_tup (R := R) (xs := [t, t2]) hq (RepL.cons r1 (RepL.cons rr1 RepL.nil))
  refine ⟨g', e2, e3, e4, R', _, ?_, r'⟩
  unfold zipT
  have z : (xs.zip ys)[i]? = some (t, t2) := List.getElem?_zip_eq_some.mpr ⟨e1, f1⟩
  rw [List.getElem?_map, z]
  rfl
def RL.bindL (r : RL) (f : List T → MH → RL) : RL := match r with
  | .ok t h => f t h
  | .ex x h => .ex x h
  | .stuck => .stuck
theorem wpI_bindL {Rr : It → Hp → Prop} {Q' : List V → Hp → Prop} {r : RL} {f : List T → MH → RL} (h : wpI K mg W g σ Rr (r.bindL f)) (k : ∀ g' ts vs, Ext g g' → Rel K mg g' → RepL K mg g' ts vs → wpI K mg W g' σ Rr (f ts g'.h) → Q' vs g'.H) : wpL K mg W g σ Q' r := by
  cases r with
  | ok t h' => exact fun g' v q e R r => k g' t v e R r (by subst q; exact wpI.ext h e)
  | ex x h' => exact h
  | stuck => exact h
def iEn : List T → MH → RL := fun ts h => match ts with
  | [t] => match srcOf t with
    | some xs => .ok (enumT 0 xs) h
    | none => .stuck
  | _ => .stuck
def iZp : List T → MH → RL := fun ts h => match ts with
  | [t, u] => match srcOf t, srcOf u with
    | some xs, some ys => .ok (zipT xs ys) h
    | _, _ => .stuck
  | _ => .stuck
def mIA (f : List T → MH → RL) (mr : MA) : MI := fun s h => (mr s h).bindL f
theorem sub_refl (g : G) : Sub g g := ⟨fun _ _ h => h, fun _ _ h n => ⟨h, n⟩⟩
theorem si_enum (hm : X.mg "enumerate" = none) (ha : SA X W [a] mr) (hg : Gl X "enumerate" := by rfl) (hs : starEach [a] X.env = [(false, eval a X.env)] := by rfl) :
    SI X W (.Tuple elts kk tpos) (.Call (.Name "enumerate" p) [a] [] pos) (mIA iEn mr) := by
  refine weakI (pi_enumG hm ha hg hs) ?_
  rintro σ H Rr ⟨g, s, rfl, R, S, h⟩
  refine ⟨g, s, rfl, R, S, wpI_bindL h fun g1 ts vs e1 R1 r1 h1 => ?_⟩
  unfold iEn at h1
  split at h1
  · obtain ⟨v, rfl, rv⟩ := r1.one
    split at h1
    · rename_i xs q
      obtain ⟨sk, ws, e, l, hs⟩ := sk_sub rv q
      exact ⟨sk, ws, by rw [e], hs g1 (sub_refl _), h1 g1 _ rfl (Ext.refl _) R1 (je_ok l hs)⟩
    · exact h1.elim
  · exact h1.elim
theorem si_zip (hm : X.mg "zip" = none) (ha : SA X W [a, b] mr) (hg : Gl X "zip" := by rfl)
    (hs : starEach [a, b] X.env = (false, eval a X.env) :: starEach [b] X.env := by rfl) (hpl : (backTo pos (starEach [b] X.env)).any (·.1) = false := by rfl) :
    SI X W (.Tuple elts kk tpos) (.Call (.Name "zip" p) [a, b] [] pos) (mIA iZp mr) := by
  refine weakI (pi_zipG hm ha hg hs hpl) ?_
  rintro σ H Rr ⟨g, s, rfl, R, S, h⟩
  refine ⟨g, s, rfl, R, S, wpI_bindL h fun g1 ts vs e1 R1 r1 h1 => ?_⟩
  unfold iZp at h1
  split at h1
  · simp only [RepL] at r1
    obtain ⟨v, w', rfl, rv, v2, w2, rfl, rv2, rfl⟩ := r1
    split at h1
    · rename_i xs ys q q2
      obtain ⟨sk, ws, e, l, hs⟩ := sk_sub rv q
      obtain ⟨sk2, ws2, e2, l2, hs2⟩ := sk_sub rv2 q2
      exact ⟨sk, sk2, ws, ws2, by rw [e, e2], hs g1 (sub_refl _), hs2 g1 (sub_refl _), h1 g1 _ rfl (Ext.refl _) R1 (jz_ok l l2 hs hs2)⟩
    · exact h1.elim
  · exact h1.elim
/-! ### range -/
def intsT (lo : Int) : Nat → List T
  | 0 => []
  | n + 1 => .int lo :: intsT (lo + 1) n
theorem intsT_len : ∀ (n : Nat) (lo : Int), (intsT lo n).length = n
  | 0, _ => rfl
  | n + 1, lo => by simp [intsT, intsT_len n (lo + 1)]
theorem intsT_get : ∀ (n : Nat) (lo : Int) (i : Nat), i < n → (intsT lo n)[i]? = some (.int (lo + i))
  | 0, _, _, h => absurd h (Nat.not_lt_zero _)
  | n + 1, lo, 0, h => by simp [intsT]
  | n + 1, lo, i + 1, h => by
    simp only [intsT, List.getElem?_cons_succ]
    rw [intsT_get n (lo + 1) i (by omega)]
    have : lo + 1 + (i : Int) = lo + ((i + 1 : Nat) : Int) := by omega
    rw [this]
theorem jr_ok {lo : Int} {n : Nat} : ItOk K mg g (intsT lo n) (Itr lo n) := by
  refine ⟨fun i g1 s R l => by rw [intsT_len] at l; exact l, fun i g1 x H' s R il y => ?_, fun i g1 s R l => by rw [intsT_len] at l; exact l⟩
  obtain ⟨rfl, rfl⟩ := y
  rw [intsT_len] at il
  exact ⟨g1, rfl, rfl, Ext.refl _, R, _, intsT_get n lo i il, rInt⟩
def rgOk (i : Int) : Bool := decide (-1000000 ≤ i) && decide (i ≤ 1000000)
def iRg1 : List T → MH → RL := fun ts h => match ts with
  | [.int n] => if rgOk n then .ok (intsT 0 n.toNat) h else .stuck
  | _ => .stuck
def iRg2 : List T → MH → RL := fun ts h => match ts with
  | [.int a, .int b] => if rgOk a && rgOk b then .ok (intsT a (b - a).toNat) h else .stuck
  | _ => .stuck
theorem rg_b {i : Int} (h : rgOk i = true) : -(2 ^ 62) ≤ i ∧ i < 2 ^ 62 := by
  unfold rgOk at h
  simp only [Bool.and_eq_true, decide_eq_true_eq] at h
  omega
theorem si_range1 {tg : Expr} (hm : X.mg "range" = none) (ha : SA X W [a] mr) (hg : Gl X "range" := by rfl) (hs : starEach [a] X.env = [(false, eval a X.env)] := by rfl) :
    SI X W tg (.Call (.Name "range" p) [a] [] pos) (mIA iRg1 mr) := by
  refine weakI (pi_range1 hg hm ha hs) ?_
  rintro σ H Rr ⟨g, s, rfl, R, S, h⟩
  refine ⟨g, s, rfl, R, S, wpI_bindL h fun g1 ts vs e1 R1 r1 h1 => ?_⟩
  unfold iRg1 at h1
  split at h1
  · rename_i n
    obtain ⟨v, rfl, rv⟩ := r1.one
    rw [rep_int rv]
    split at h1
    · rename_i q
      obtain ⟨b1, b2⟩ := rg_b q
      exact ⟨n, rfl, b1, b2, h1 g1 _ rfl (Ext.refl _) R1 jr_ok⟩
    · exact h1.elim
  · exact h1.elim
theorem si_range2 {tg : Expr} (hm : X.mg "range" = none) (ha : SA X W [a, b] mr) (hg : Gl X "range" := by rfl) (hs : starEach [a, b] X.env = [(false, eval a X.env), (false, eval b X.env)] := by rfl) (hs2 : starEach [b] X.env = [(false, eval b X.env)] := by rfl) :
    SI X W tg (.Call (.Name "range" p) [a, b] [] pos) (mIA iRg2 mr) := by
  refine weakI (pi_range2 hg hm ha hs hs2) ?_
  rintro σ H Rr ⟨g, s, rfl, R, S, h⟩
  refine ⟨g, s, rfl, R, S, wpI_bindL h fun g1 ts vs e1 R1 r1 h1 => ?_⟩
  unfold iRg2 at h1
  split at h1
  · rename_i i j
    rw [rep_int2 r1]
    split at h1
    · rename_i q
      obtain ⟨q1, q2⟩ := Bool.and_eq_true_iff.mp q
      exact ⟨i, j, rfl, ⟨(rg_b q1).1, (rg_b q1).2, (rg_b q2).1, (rg_b q2).2⟩, h1 g1 _ rfl (Ext.refl _) R1 jr_ok⟩
    · exact h1.elim
  · exact h1.elim
end
end Mi
end part_Mi4
section part_Mi5
set_option maxRecDepth 100000
set_option maxHeartbeats 2000000
/-! Mi, part 5: targets, comprehensions, statements. -/
namespace Mi
open PySem PySem.Spec PyProof.Rows L2
inductive GR where
  | ok (s : SM) (h : MH) | stuck
abbrev MG := T → SM → MH → GR
section
variable {X : Cx} {K : PySem.W.Frag} {mg : Str → Option Value} {W : WX} {g : G} {σ : L2.St} {Q : VK} {D : Ends}
variable {a b c e : Expr} {ma mb mc me mt : ME} {mr : MA} {pos p : Pos} {es : List Expr} {x : Str}
/-! ### targets -/
def wpG (K : PySem.W.Frag) (mg : Str → Option Value) (tl : List Nat) (g : G) (σ : L2.St) (Q : L2.St → Hp → Prop) : GR → Prop
  | .ok s' h' => ∀ g' σ', g'.h = h' → Ext g g' → Rel K mg g' → RepS K mg g' s' σ' → (∀ vs : List Nat, (∀ i ∈ tl, i ∈ vs) → wipe σ' vs = wipe σ vs) → Q σ' g'.H
  | .stuck => False
def tMG (K : PySem.W.Frag) (mg : Str → Option Value) (tl : List Nat) (m : MG) : TG := fun v σ H Q => ∃ g s t, g.H = H ∧ Rel K mg g ∧ RepS K mg g s σ ∧ Rep K mg g t v ∧ wpG K mg tl g σ Q (m t s g.h)
abbrev SG (X : Cx) (tg : Expr) (tl : List Nat) (m : MG) : Prop := PG X tg (tMG X.K X.mg tl m)
theorem weakG {X : Cx} {e : Expr} {t t' : TG} (h : PG X e t) (k : ∀ v σ H Q, t' v σ H Q → t v σ H Q) : PG X e t' := ⟨fun pins s σ H v u Q I r q => h.run pins s σ H v u Q I r (k v σ H Q q)⟩
theorem set_none_comm (σ : L2.St) (i j : Nat) (v : Option V) (h : i ≠ j) : (σ.set i v).set j none = (σ.set j none).set i v := by
  apply List.ext_getElem?
  intro k
  simp only [List.getElem?_set, List.length_set]
  by_cases h1 : j = k <;> by_cases h2 : i = k
  · exact absurd (h2.trans h1.symm) h
  · simp [h1, h2]
  · simp [h1, h2]
  · simp [h1, h2]
theorem wipe_set {σ : L2.St} {i : Nat} {v : Option V} : ∀ {vs : List Nat}, i ∈ vs → wipe (σ.set i v) vs = wipe σ vs
  | [], h => by cases h
  | j :: vs, h => by
    show (wipe (σ.set i v) vs).set j none = (wipe σ vs).set j none
    by_cases hi : i ∈ vs
    · rw [wipe_set hi]
    · have e : i = j := (List.mem_cons.mp h).resolve_right hi
      subst e
      have key : ∀ (ws : List Nat), i ∉ ws → wipe (σ.set i v) ws = (wipe σ ws).set i v := by
        intro ws
        induction ws with
        | nil => intro _; rfl
        | cons w ws ih =>
          intro hw
          show (wipe (σ.set i v) ws).set w none = ((wipe σ ws).set w none).set i v
          rw [ih (fun z => hw (List.mem_cons_of_mem _ z)), set_none_comm _ _ _ _ (fun z => hw (by rw [z]; exact List.mem_cons_self))]
      rw [key vs hi, List.set_set]
theorem wipe_wipe (σ : L2.St) : ∀ vs ws : List Nat, (∀ i ∈ ws, i ∈ vs) → wipe (wipe σ ws) vs = wipe σ vs
  | vs, [], _ => rfl
  | vs, w :: ws, h => by
    show wipe ((wipe σ ws).set w none) vs = wipe σ vs
    rw [wipe_set (h w List.mem_cons_self), wipe_wipe σ vs ws fun i hi => h i (List.mem_cons_of_mem _ hi)]
def gN (i : Nat) : MG := fun t s h => .ok (s.set i (some t)) h
theorem sg_name {i : Nat} (hN : X.N.Nodup) (hi : X.N[i]? = some x := by rfl) (hx : Loc X.env.scope x := by first | exact Or.inl rfl | exact Or.inr rfl) (hf : X.fn x = true ∨ X.env.scope.names.lookup x = some .local := by first | exact .inl rfl | exact .inr rfl) : SG X (.Name x pos) [i] (gN i) := by
  refine weakG (pg_name hN hi hx hf) ?_
  rintro v σ H Q ⟨g, s, t, rfl, R, S, r, h⟩
  exact h g (σ.set i (some v)) rfl (Ext.refl g) R (S.set r i) fun vs hv => wipe_set (hv i List.mem_cons_self)
abbrev MGs := List T → SM → MH → GR
def tMGs (K : PySem.W.Frag) (mg : Str → Option Value) (tl : List Nat) (m : MGs) : TGs := fun vs σ H Q => ∃ g s ts, g.H = H ∧ Rel K mg g ∧ RepS K mg g s σ ∧ RepL K mg g ts vs ∧ wpG K mg tl g σ Q (m ts s g.h)
abbrev SGs (X : Cx) (tg : List Expr) (tl : List Nat) (m : MGs) : Prop := PGs X tg (tMGs X.K X.mg tl m)
theorem weakGs {X : Cx} {e : List Expr} {t t' : TGs} (h : PGs X e t) (k : ∀ v σ H Q, t' v σ H Q → t v σ H Q) : PGs X e t' := ⟨fun pins s σ H v u Q I r q => h.run pins s σ H v u Q I r (k v σ H Q q)⟩
def gsNil : MGs := fun ts s h => match ts with
  | [] => .ok s h
  | _ => .stuck
def gsCons (m : MG) (ms : MGs) : MGs := fun ts s h => match ts with
  | t :: r => match m t s h with
    | .ok s1 h1 => ms r s1 h1
    | .stuck => .stuck
  | [] => .stuck
theorem sgs_nil : SGs X [] [] gsNil := by
  refine weakGs pgs_nil ?_
  rintro vs σ H Q ⟨g, s, ts, rfl, R, S, r, h⟩
  unfold gsNil at h
  split at h
  · simp only [RepL] at r
    exact ⟨r, h g σ rfl (Ext.refl g) R S fun vs _ => rfl⟩
  · exact h.elim
theorem sgs_cons {m : MG} {ms : MGs} {tl tl2 : List Nat} (h1 : SG X e tl m) (h2 : SGs X es tl2 ms) (hs : (assignEach (e :: es) X.env).map (·.2) = assign e X.env :: (assignEach es X.env).map (·.2) := by rfl) : SGs X (e :: es) (tl ++ tl2) (gsCons m ms) := by
  refine weakGs (pgs_cons h1 h2 hs) ?_
  rintro vs σ H Q ⟨g, s, ts, rfl, R, S, r, h⟩
  unfold gsCons at h
  split at h
  · rename_i t r'
    simp only [RepL] at r
    obtain ⟨v, w, rfl, r1, r2⟩ := r
    refine ⟨v, w, rfl, g, s, t, rfl, R, S, r1, ?_⟩
    cases q : m t s g.h with
    | ok s1 h1 =>
      rw [q] at h
      dsimp only at h
      intro g1 σ1 q1 e1 R1 S1 w1
      refine ⟨g1, s1, r', rfl, R1, S1, r2.mono e1, ?_⟩
      rw [q1]
      cases q2 : ms r' s1 h1 with
      | ok s2 h2 =>
        rw [q2] at h
        exact fun g2 σ2 q3 e2 R2 S2 w2 => h g2 σ2 q3 (e1.trans e2) R2 S2 fun vs hv => (w2 vs fun i hi => hv i (List.mem_append_right _ hi)).trans (w1 vs fun i hi => hv i (List.mem_append_left _ hi))
      | stuck => rw [q2] at h; exact h.elim
    | stuck => rw [q] at h; exact h.elim
  · exact h.elim
def gT (n : Nat) (ms : MGs) : MG := fun t s h => match t with
  | .tup xs => if xs.length = n then ms xs s h else .stuck
  | .tpl xs => if xs.length = n then ms xs s h else .stuck
  | _ => .stuck
theorem sg_tup {ms : MGs} {tl : List Nat} {k n : Nat} (hc : X.calm = true) (h : SGs X es tl ms) (hn : (assignEach es X.env).length = n := by rfl) (hst : (assignEach es X.env).findIdx? (·.1) = none := by rfl) : SG X (.Tuple es k pos) tl (gT n ms) := by
  refine weakG (pg_tup hc h hn hst) ?_
  rintro v σ H Q ⟨g, s, t, rfl, R, S, r, h⟩
  unfold gT at h
  split at h
  · rename_i xs
    split at h
    · rename_i q
      obtain ⟨p, vs, rfl, h1, l1⟩ := r.sqT
      exact ⟨p, vs, rfl, h1, by rw [← l1.length]; exact q, g, s, xs, rfl, R, S, l1, h⟩
    · exact h.elim
  · rename_i xs
    split at h
    · rename_i q
      obtain ⟨p, vs, rfl, h1, l1⟩ := r.sqP
      exact ⟨p, vs, rfl, h1, by rw [← l1.length]; exact q, g, s, xs, rfl, R, S, l1, h⟩
    · exact h.elim
  · exact h.elim
/-! ### comprehensions -/
def wipeM (s : SM) : List Nat → SM
  | [] => s
  | v :: vs => (wipeM s vs).set v none
theorem RepS.wipe {s : SM} (S : RepS K mg g s σ) : ∀ vs : List Nat, RepS K mg g (wipeM s vs) (L2.wipe σ vs)
  | [] => S
  | v :: vs => by
    have S1 := RepS.wipe S vs
    refine ⟨by show ((wipeM s vs).set v none).length = ((L2.wipe σ vs).set v none).length; rw [List.length_set, List.length_set, S1.1], fun i t h => ?_⟩
    have h' : ((wipeM s vs).set v none)[i]? = some (some t) := h
    by_cases e : v = i
    · subst e
      rw [List.getElem?_set] at h'
      split at h'
      · split at h' <;> cases h'
      · rename_i q; exact absurd rfl q
    · rw [List.getElem?_set_ne e] at h'
      obtain ⟨w, h1, h2⟩ := S1.2 i t h'
      refine ⟨w, ?_, h2⟩
      show ((L2.wipe σ vs).set v none)[i]? = some (some w)
      rw [List.getElem?_set_ne e]; exact h1
def lcFrom (mgt : MG) (mt me : ME) (s0 : SM) : List T → List T → MH → R
  | [], acc, h => .ok (.lst acc) h
  | x :: xs, acc, h => match mgt x s0 h with
    | .ok s1 h1 => match mt s1 h1 with
      | .ok (.bl true) h2 => match me s1 h2 with
        | .ok y h3 => if acc.length < big then lcFrom mgt mt me s0 xs (acc ++ [y]) h3 else .stuck
        | _ => .stuck
      | .ok (.bl false) h2 => lcFrom mgt mt me s0 xs acc h2
      | _ => .stuck
    | .stuck => .stuck
def RL.bindR (r : RL) (f : List T → MH → R) : R := r.bind f
def mLc (mi : MI) (mgt : MG) (mt me : ME) (own : List Nat) : ME := fun s h => (mi s h).bind fun xs h1 => lcFrom mgt mt me (wipeM s own) xs [] h1
def W0 : WX := fun _ _ _ _ => False
/-- a state of a comprehension's walk -/
structure LcAt (K : PySem.W.Frag) (mg : Str → Option Value) (W : WX) (g1 : G) (Dl : Addr) (σ : L2.St) (Q : VK) (r : List T → List T → MH → R) (xs : List T) (i : Nat) (H : Hp) : Prop where
  ex : ∃ (gi : G) (acc : List T) (accV : List V), gi.H = H ∧ Rel K mg gi ∧ Sub g1 gi ∧ gi.pv = Dl :: g1.pv ∧ (∀ a ∈ g1.pv, gi.H a = g1.H a) ∧ gi.H Dl = some (.lst accV) ∧ RepL K mg gi acc accV ∧ i ≤ xs.length ∧ wpR K mg W g1 σ Q (r (xs.drop i) acc gi.h)
theorem blk_ne {g1 : G} {Dl : Addr} (R : Rel K mg g1) (hD : g1.H Dl = none) : ∀ a ∈ g1.pv, a ≠ Dl := fun a ha e => by
  obtain ⟨u, q⟩ := R.pvt a ha
  rw [e, hD] at q; cases q
/-- an object kept apart is written -/
theorem pv_put {Dl : Addr} {o : HO} (R : Rel K mg g) (hD : Dl ∈ g.pv) : Sub g { g with H := upd g.H Dl o } ∧ Rel K mg { g with H := upd g.H Dl o } := by
  have hs : Sub g { g with H := upd g.H Dl o } := ⟨fun _ _ h => h, fun a u h n => ⟨by
    show upd g.H Dl o a = some u
    rw [upd_ne (fun e => n (.inl (by rw [e]; exact hD)))]; exact h, n⟩⟩
  refine ⟨hs, R.len, R.inj, R.npv, fun a ha => ?_, fun i a ha => ?_, fun i a w h1 h2 => ?_⟩
  rotate_left
  rotate_left
  · by_cases wd : w = MO.dead
    · subst wd; trivial
    refine (R.obj i a w h1 h2).sub hs fun u hu => ?_
    have e : a ≠ Dl := fun e => R.npv Dl hD i (by rw [← e]; exact ⟨h1, w, h2, wd⟩)
    show upd g.H Dl o a = some u
    rw [upd_ne e]; exact hu
  · by_cases e : a = Dl
    · subst e; exact ⟨o, upd_same⟩
    · obtain ⟨u, q⟩ := R.pvt a ha; exact ⟨u, by show upd g.H Dl o a = some u; rw [upd_ne e]; exact q⟩
  · obtain ⟨u, q⟩ := R.tr i a ha
    have e : a ≠ Dl := fun e => R.npv Dl hD i (by rw [← e]; exact ha)
    exact ⟨u, by show upd g.H Dl o a = some u; rw [upd_ne e]; exact q⟩
/-- a new object is kept apart -/
theorem pv_new {Dl : Addr} {o : HO} (R : Rel K mg g) (hD : g.H Dl = none) : Sub g ⟨g.rho, g.h, Dl :: g.pv, upd g.H Dl o⟩ ∧ Rel K mg ⟨g.rho, g.h, Dl :: g.pv, upd g.H Dl o⟩ := by
  have hs : Sub g ⟨g.rho, g.h, Dl :: g.pv, upd g.H Dl o⟩ := ⟨fun _ _ h => h, fun a u h n => ⟨by
    show upd g.H Dl o a = some u
    rw [upd_ne (ne_of_none h hD)]; exact h, fun z => by
      rcases z with z | z
      · rcases List.mem_cons.mp z with e | z
        · rw [e, hD] at h; cases h
        · exact n (.inl z)
      · exact n (.inr z)⟩⟩
  have hn : ∀ (i : Nat) a, g.live i a → a ≠ Dl := fun i a ha e => by
    obtain ⟨u, q⟩ := R.tr i a ha
    rw [e, hD] at q; cases q
  refine ⟨hs, R.len, R.inj, fun a ha i hm => ?_, fun a ha => ?_, fun i a ha => ?_, fun i a w h1 h2 => (R.obj i a w h1 h2).sub hs fun u hu => ?_⟩
  · rcases List.mem_cons.mp (show a ∈ Dl :: g.pv from ha) with e | z
    · exact hn i a hm e
    · exact R.npv a z i hm
  · rcases List.mem_cons.mp (show a ∈ Dl :: g.pv from ha) with e | z
    · subst e; exact ⟨o, upd_same⟩
    · obtain ⟨u, q⟩ := R.pvt a z
      exact ⟨u, by show upd g.H Dl o a = some u; rw [upd_ne (ne_of_none q hD)]; exact q⟩
  · obtain ⟨u, q⟩ := R.tr i a ha
    exact ⟨u, by show upd g.H Dl o a = some u; rw [upd_ne (hn i a ha)]; exact q⟩
  · show upd g.H Dl o a = some u
    rw [upd_ne (ne_of_none hu hD)]; exact hu
/-- what was kept apart becomes a value -/
theorem pv_out {Dl : Addr} {ps : List Addr} (R : Rel K mg g) (hp : g.pv = Dl :: ps) (hn : Dl ∉ ps) : Sub g { g with pv := ps } ∧ Rel K mg { g with pv := ps } ∧ ¬ G.hid { g with pv := ps } Dl := by
  have hs : Sub g { g with pv := ps } := ⟨fun _ _ h => h, fun a u h n => ⟨h, fun z => n (by
    rcases z with z | z
    · exact .inl (by rw [hp]; exact List.mem_cons_of_mem _ z)
    · exact .inr z)⟩⟩
  refine ⟨hs, ⟨R.len, R.inj, fun a ha => R.npv a (by rw [hp]; exact List.mem_cons_of_mem _ ha), fun a ha => R.pvt a (by rw [hp]; exact List.mem_cons_of_mem _ ha), R.tr, fun i a w h1 h2 => (R.obj i a w h1 h2).sub hs fun u hu => hu⟩, ?_⟩
  rintro (z | ⟨i, o, h1, h2, h3⟩)
  · exact hn z
  · exact R.npv Dl (by rw [hp]; exact List.mem_cons_self) i ⟨h1, o, h2, h3⟩
theorem lc_run {mgt : MG} {tl vs : List Nat} {J : It} {xs : List T} {g1 : G} {s : SM} (R1 : Rel K mg g1) (S1 : RepS K mg g1 s σ) (it : ItOk K mg g1 xs J) (htl : ∀ i ∈ tl, i ∈ vs)
    (h : wpR K mg W g1 σ Q (lcFrom mgt mt me (wipeM s vs) xs [] g1.h)) (Dl : Addr) (hD : g1.H Dl = none) :
    ∃ Wd : Nat → Nat → Hp → Prop, (∃ m, Wd 0 m (upd g1.H Dl (.lst []))) ∧ ∀ i m H, Wd i m H →
      (J.stop i H ∧ Q (.ref Dl) H) ∨ (J.go i H ∧ ∃ Nx : Hp → Prop, (∀ H', Nx H' → ∃ m', m' < m ∧ Wd (i + 1) m' H') ∧ ∀ x H', J.yld i H x H' → tMG K mg tl mgt x (wipe σ vs) H' fun σ2 H2 => wipe σ2 vs = wipe σ vs ∧ tMT K mg W0 mt σ2 H2 fun b H3 =>
        if b = true then tM K mg W0 me σ2 H3 fun y H4 => ∃ acc, H4 Dl = some (.lst acc) ∧ acc.length < sizeLine ∧ Nx (upd H4 Dl (.lst (acc ++ [y]))) else Nx H3) := by
  have hpn : Dl ∉ g1.pv := fun z => blk_ne R1 hD Dl z rfl
  refine ⟨fun i m H => m = xs.length - i ∧ LcAt K mg W g1 Dl σ Q (lcFrom mgt mt me (wipeM s vs)) xs i H, ⟨xs.length, rfl, ?_⟩, fun i m H hW => ?_⟩
  · obtain ⟨s1, r1⟩ := pv_new (o := .lst []) R1 hD
    exact ⟨⟨_, [], [], rfl, r1, s1, rfl, fun a ha => by
      show upd g1.H Dl (.lst []) a = g1.H a
      rw [upd_ne (blk_ne R1 hD a ha)], upd_same, RepL.nil, Nat.zero_le _, by rw [List.drop_zero]; exact h⟩⟩
  · obtain ⟨rfl, ⟨gi, acc, accV, rfl, Ri, si, hpv, hpk, hDi, la, hi, hw⟩⟩ := hW
    by_cases hlt : i < xs.length
    · refine .inr ⟨it.go i gi si Ri hlt, fun H' => LcAt K mg W g1 Dl σ Q (lcFrom mgt mt me (wipeM s vs)) xs (i + 1) H', fun H' hn => ⟨xs.length - (i + 1), by omega, rfl, hn⟩, fun x H' hy => ?_⟩
      obtain ⟨g', rfl, eh, e1, R', t, ht, rt⟩ := it.yld i gi x H' si Ri hlt hy
      have edrop : xs.drop i = t :: xs.drop (i + 1) := by
        rw [List.drop_eq_getElem_cons hlt]
        have : xs[i] = t := by
          have := List.getElem?_eq_getElem hlt
          rw [ht] at this; exact (Option.some.inj this).symm
        rw [this]
      rw [edrop] at hw
      unfold lcFrom at hw
      have S' : RepS K mg g' (wipeM s vs) (wipe σ vs) := ((S1.sub si).mono e1).wipe vs
      refine ⟨g', wipeM s vs, t, rfl, R', S', rt, ?_⟩
      rw [eh]
      cases q : mgt t (wipeM s vs) gi.h with
      | stuck => rw [q] at hw; exact hw.elim
      | ok s2 h2 =>
        rw [q] at hw
        dsimp only at hw
        intro g2 σ2 q2 e2 R2 S2 w2
        refine ⟨(w2 vs htl).trans (wipe_wipe σ vs vs fun _ z => z), g2, s2, rfl, R2, S2, ?_⟩
        rw [q2]
        have chain : ∀ g3 : G, Ext g' g3 → Sub g1 g3 ∧ g3.pv = Dl :: g1.pv ∧ (∀ a ∈ g1.pv, g3.H a = g1.H a) ∧ g3.H Dl = some (.lst accV) ∧ RepL K mg g3 acc accV := fun g3 e3 => by
          have e := e1.trans e3
          refine ⟨⟨fun i a z => e.rho i a (si.rho i a z), fun a u z n => let ⟨z1, n1⟩ := si.keep a u z n; e.keep a u z1 n1⟩, e.pv.trans hpv, fun a ha => (e.pvk a (by rw [hpv]; exact List.mem_cons_of_mem _ ha)).trans (hpk a ha), (e.pvk Dl (by rw [hpv]; exact List.mem_cons_self)).trans hDi, la.mono e⟩
        cases q3 : mt s2 h2 with
        | stuck => rw [q3] at hw; exact hw.elim
        | ex x h3 => rw [q3] at hw; exact hw.elim
        | ok tb h3 =>
          cases tb with
          | bl bb =>
            rw [q3] at hw
            intro g3 q4 e3 R3
            cases bb with
            | false =>
              refine iteF ?_
              obtain ⟨c1, c2, c3, c4, c5⟩ := chain g3 (e2.trans e3)
              exact ⟨⟨g3, acc, accV, rfl, R3, c1, c2, c3, c4, c5, hlt, by rw [q4]; exact hw⟩⟩
            | true =>
              refine iteT ⟨g3, s2, rfl, R3, S2.mono e3, ?_⟩
              rw [q4]
              dsimp only at hw
              cases q5 : me s2 h3 with
              | stuck => rw [q5] at hw; exact hw.elim
              | ex x h4 => rw [q5] at hw; exact hw.elim
              | ok y h4 =>
                rw [q5] at hw
                dsimp only at hw
                intro g4 v q6 e4 R4 r4
                split at hw
                · rename_i hl
                  obtain ⟨c1, c2, c3, c4, c5⟩ := chain g4 ((e2.trans e3).trans e4)
                  refine ⟨accV, c4, big_lt (by rw [← la.length]; exact hl), ?_⟩
                  obtain ⟨s5, R5⟩ := pv_put (o := .lst (accV ++ [v])) R4 (by rw [c2]; exact List.mem_cons_self)
                  refine ⟨⟨_, acc ++ [y], accV ++ [v], rfl, R5, ⟨fun i a z => s5.rho i a (c1.rho i a z), fun a u z n => let ⟨z1, n1⟩ := c1.keep a u z n; s5.keep a u z1 n1⟩, c2, fun a ha => ?_, upd_same, (c5.sub s5).append (RepL.cons (Rep.sub s5 y v r4) RepL.nil), hlt, ?_⟩⟩
                  · show upd g4.H Dl _ a = g1.H a
                    rw [upd_ne (blk_ne R1 hD a ha)]; exact c3 a ha
                  · show wpR K mg W g1 σ Q (lcFrom mgt mt me (wipeM s vs) (xs.drop (i + 1)) (acc ++ [y]) g4.h)
                    rw [q6]; exact hw
                · exact hw.elim
          | _ => rw [q3] at hw; exact hw.elim
    · have e : i = xs.length := by omega
      subst e
      refine .inl ⟨it.stop _ gi si Ri (Nat.le_refl _), ?_⟩
      rw [List.drop_length] at hw
      unfold lcFrom at hw
      obtain ⟨s5, R5, n5⟩ := pv_out Ri hpv hpn
      refine hw { gi with pv := g1.pv } (.ref Dl) rfl ⟨si.rho, rfl, hpk, fun a u z n => let ⟨z1, n1⟩ := si.keep a u z n; s5.keep a u z1 n1⟩ R5 ?_
      simp only [Rep]
      exact ⟨Dl, accV, rfl, ⟨hDi, n5⟩, la.sub s5⟩
theorem wpI_lc {r : RL} {f : List T → MH → R} {Rr : It → Hp → Prop} (h : wpR K mg W g σ Q (r.bind f)) (k : ∀ g' xs J, Ext g g' → Rel K mg g' → ItOk K mg g' xs J → wpR K mg W g' σ Q (f xs g'.h) → Rr J g'.H) : wpI K mg W g σ Rr r := by
  cases r with
  | ok t h' => exact fun g' J q e R it => k g' t J e R it (by subst q; exact wpR.ext h e)
  | ex x h' => exact h
  | stuck => exact h
theorem use_lc {mi : MI} {mgt : MG} {tl vs : List Nat} (htl : ∀ i ∈ tl, i ∈ vs) {H : Hp} (h : tM K mg W (mLc mi mgt mt me vs) σ H Q) : tLc (tMI K mg W mi) (tMG K mg tl mgt) (tMT K mg W0 mt) (tM K mg W0 me) vs σ H Q := by
  obtain ⟨g, s, rfl, R, S, h⟩ := h
  exact ⟨g, s, rfl, R, S, wpI_lc h fun g1 xs J e1 R1 it h1 => fun Dl hD => lc_run R1 (S.mono e1) it htl h1 Dl hD⟩
def subN (a b : List Nat) : Bool := a.all fun i => b.contains i
theorem subN_ok {a b : List Nat} (h : subN a b = true) : ∀ i ∈ a, i ∈ b := fun i hi => by
  have := List.all_eq_true.mp h i hi
  simpa using this
theorem se_lc {elt tg iter : Expr} {ifs : List Expr} {scope : Scope} {own : List (Str × Nat)} {mi : MI} {mgt : MG} {tl : List Nat} (hc : X.calm = true) (hN : X.N.Nodup) (hi : SI X W tg iter mi) (ok : BlkOk X.N X.env.scope scope own) (htl : subN tl (own.map (·.2)) = true)
    (hg : ∀ (s : Shared) (H : Hp) (C : Addr) (cl : List (Str × Addr)) (fp : List Addr), SG (X.blk s H scope (compEnvC scope cl C X.env) fp) tg tl mgt)
    (ht : ∀ (s : Shared) (H : Hp) (C : Addr) (cl : List (Str × Addr)) (fp : List Addr), PTs (X.blk s H scope (compEnvC scope cl C X.env) fp) ifs (tMT X.K X.mg W0 mt))
    (he : ∀ (s : Shared) (H : Hp) (C : Addr) (cl : List (Str × Addr)) (fp : List Addr), SE (X.blk s H scope (compEnvC scope cl C X.env) fp) W0 elt me) (hs : ∀ x, foldedSetIterable iter X.env x = pure x := by intro _; rfl) :
    SE X W (.ListComp elt [⟨tg, iter, ifs, 0⟩] scope pos) (mLc mi mgt mt me (own.map (·.2))) :=
  weakE (pe_lc hc hN hi ok hg ht he hs) fun _ _ _ h => use_lc (subN_ok htl) h
theorem weakTs {X : Cx} {ifs : List Expr} {t t' : TT} (h : PTs X ifs t) (k : ∀ σ H Q, t' σ H Q → t σ H Q) : PTs X ifs t' := ⟨fun pins s σ H Q I q => h.run pins s σ H Q I (k σ H Q q)⟩
theorem sts_nil : PTs X [] (tMT X.K X.mg W (mC (.bl true))) := by
  refine weakTs pts_nil ?_
  rintro σ H Q ⟨g, s, rfl, R, S, h⟩
  exact wpT_here h R
theorem sts_one (h : ST X W c mc) : PTs X [c] (tMT X.K X.mg W mc) := pts_one h
end
end Mi
end part_Mi5
section part_Mi6
set_option maxRecDepth 100000
set_option maxHeartbeats 2000000
/-! Mi, part 6: statements, defs, calls. -/
namespace Mi
open PySem PySem.Spec PyProof.Rows L2
section
variable {X : Cx} {K : PySem.W.Frag} {mg : Str → Option Value} {W : WX} {g g' : G} {σ : L2.St} {Q : VK} {D : Ends}
variable {a b c e : Expr} {ma mb mc me mt : ME} {mr : MA} {pos p : Pos} {es : List Expr} {x : Str} {st : Stmt} {rest : List Stmt} {m m' : MS}
abbrev SS (X : Cx) (W : WX) (st : Stmt) (m : MS) : Prop := PS X st (tSM X.K X.mg W m)
abbrev SSs (X : Cx) (W : WX) (sts : List Stmt) (m : MS) : Prop := PSs X sts (tSM X.K X.mg W m)
/-- an expression's outcome within a statement -/
def R.toS (r : R) (s : SM) (f : T → MH → SR) : SR := match r with
  | .ok t h => f t h
  | .ex x h => .ex x s h
  | .stuck => .stuck
theorem wpS_bind {r : R} {s : SM} {f : T → MH → SR} {Q' : VK} (S : RepS K mg g s σ) (h : wpS K mg W g D (r.toS s f)) (k : ∀ g' t v, Ext g g' → Rel K mg g' → Rep K mg g' t v → wpS K mg W g' D (f t g'.h) → Q' v g'.H) : wpR K mg W g σ Q' r := by
  cases r with
  | ok t h' => exact fun g' v q e R r => k g' t v e R r (by subst q; exact wpS.ext h e)
  | ex x h' => exact fun g' cls d q e R r => h g' σ cls d q e R (S.mono e) r
  | stuck => exact h
theorem wpS_bindT {r : R} {s : SM} {f : T → MH → SR} {Q' : Bool → Hp → Prop} (S : RepS K mg g s σ) (h : wpS K mg W g D (r.toS s f)) (hb : ∀ t h, (∀ b, t ≠ .bl b) → f t h = .stuck) (k : ∀ g' b, Ext g g' → Rel K mg g' → wpS K mg W g' D (f (.bl b) g'.h) → Q' b g'.H) : wpT K mg W g σ Q' r := by
  cases r with
  | ok t h' =>
    by_cases hx : ∃ b, t = .bl b
    · obtain ⟨b, rfl⟩ := hx
      exact fun g' q e R => k g' b e R (by subst q; exact wpS.ext h e)
    · have z := hb t h' (fun b e => hx ⟨b, e⟩)
      have h2 : wpS K mg W g D (f t h') := h
      rw [z] at h2
      exact h2.elim
  | ex x h' => exact fun g' cls d q e R r => h g' σ cls d q e R (S.mono e) r
  | stuck => exact h
def mNx : MS := fun s h => .nx s h
theorem sss_nil : SSs X W [] mNx := by
  refine weakSs pss_nil ?_
  rintro D σ H ⟨g, s, rfl, R, S, h⟩
  exact h g σ rfl (Ext.refl g) R S
def mSq (m m' : MS) : MS := fun s h => match m s h with
  | .nx s1 h1 => m' s1 h1
  | r => r
theorem sss_cons (h1 : SS X W st m) (h2 : SSs X W rest m') : SSs X W (st :: rest) (mSq m m') := by
  refine weakSs (pss_cons h1 h2) ?_
  rintro D σ H ⟨g, s, rfl, R, S, h⟩
  refine ⟨g, s, rfl, R, S, ?_⟩
  unfold mSq at h
  cases q : m s g.h with
  | nx s1 h1 =>
    rw [q] at h
    intro g1 σ1 q1 e1 R1 S1
    exact ⟨g1, s1, rfl, R1, S1, by rw [q1]; exact wpS.ext h e1⟩
  | rt t h1 => rw [q] at h; exact h
  | bk s1 h1 => rw [q] at h; exact h
  | ct s1 h1 => rw [q] at h; exact h
  | ex x s1 h1 => rw [q] at h; exact h
  | stuck => rw [q] at h; exact h.elim
theorem sss_one (h1 : SS X W st m) : SSs X W [st] m := pss_one h1
def mPass : MS := mNx
theorem ss_pass : SS X W (.Pass pos) mNx := by
  refine weakS ps_pass ?_
  rintro D σ H ⟨g, s, rfl, R, S, h⟩
  exact h g σ rfl (Ext.refl g) R S
def mBk : MS := fun s h => .bk s h
def mCt : MS := fun s h => .ct s h
theorem ss_break : SS X W (.Break pos) mBk := by
  refine weakS ps_break ?_
  rintro D σ H ⟨g, s, rfl, R, S, h⟩
  exact h g σ rfl (Ext.refl g) R S
theorem ss_continue : SS X W (.Continue pos) mCt := by
  refine weakS ps_continue ?_
  rintro D σ H ⟨g, s, rfl, R, S, h⟩
  exact h g σ rfl (Ext.refl g) R S
/-- a statement that is never reached -/
def mNever : MS := fun _ _ => .stuck
theorem ss_never : SS X W st mNever := by
  refine weakS ps_never ?_
  rintro D σ H ⟨g, s, rfl, R, S, h⟩
  exact h.elim
theorem sss_never {sts : List Stmt} : SSs X W sts mNever := by
  refine weakSs pss_never ?_
  rintro D σ H ⟨g, s, rfl, R, S, h⟩
  exact h.elim
def mEx (me : ME) : MS := fun s h => (me s h).toS s fun _ h1 => .nx s h1
theorem ss_expr (he : SE X W e me) (hs : swapsWith e none pos.line X.env = pure false := by rfl) : SS X W (.Expr e pos) (mEx me) := by
  refine weakS (ps_expr he hs) ?_
  rintro D σ H ⟨g, s, rfl, R, S, h⟩
  exact ⟨g, s, rfl, R, S, wpS_bind S h fun g1 t v e1 R1 r1 h1 => h1 g1 σ rfl (Ext.refl _) R1 (S.mono e1)⟩
def mRet (me : ME) : MS := fun s h => (me s h).toS s fun t h1 => .rt t h1
theorem ss_ret (he : SE X W e me) : SS X W (.Return (some e) pos) (mRet me) := by
  refine weakS (ps_ret he) ?_
  rintro D σ H ⟨g, s, rfl, R, S, h⟩
  exact ⟨g, s, rfl, R, S, wpS_bind S h fun g1 t v e1 R1 r1 h1 => h1 g1 v rfl (Ext.refl _) R1 r1⟩
def mRetN : MS := fun s h => .rt .non h
theorem ss_retN : SS X W (.Return none pos) mRetN := by
  refine weakS ps_retN ?_
  rintro D σ H ⟨g, s, rfl, R, S, h⟩
  exact h g .non rfl (Ext.refl _) R rNon
def fIfS (m m' : MS) (s : SM) : T → MH → SR := fun t h => match t with
  | .bl true => m s h
  | .bl false => m' s h
  | _ => .stuck
def mIfS (mc : ME) (m m' : MS) : MS := fun s h => (mc s h).toS s (fIfS m m' s)
theorem ss_if {A B : List Stmt} (hc : ST X W c mc) (ha : SSs X W A m) (hb : SSs X W B m') : SS X W (.If c A B pos) (mIfS mc m m') := by
  refine weakS (ps_if hc ha hb) ?_
  rintro D σ H ⟨g, s, rfl, R, S, h⟩
  refine ⟨g, s, rfl, R, S, wpS_bindT S h (fun t h k => by cases t <;> first | exact absurd rfl (k _) | rfl) fun g1 b e1 R1 h1 => ?_⟩
  cases b with
  | true => exact iteT ⟨g1, s, rfl, R1, S.mono e1, h1⟩
  | false => exact iteF ⟨g1, s, rfl, R1, S.mono e1, h1⟩
/-! ### assignment -/
def mSet (i : Nat) (me : ME) : MS := fun s h => (me s h).toS s fun t h1 => .nx (s.set i (some t)) h1
theorem use_set {i : Nat} {H : Hp} (h : tSM K mg W (mSet i me) D σ H) : tAsg (tM K mg W me) (gName i) D σ H := by
  obtain ⟨g, s, rfl, R, S, h⟩ := h
  exact ⟨g, s, rfl, R, S, wpS_bind S h fun g1 t v e1 R1 r1 h1 => h1 g1 _ rfl (Ext.refl _) R1 ((S.mono e1).set r1 i)⟩
theorem ss_set {i : Nat} {pos' : Pos} (hN : X.N.Nodup) (he : SE X W e me) (hi : X.N[i]? = some x := by rfl) (hx : Loc X.env.scope x := by first | exact Or.inl rfl | exact Or.inr rfl) (hs : swapsWith e (some (.Name x pos')) pos.line X.env = pure false := by rfl) (hf : X.fn x = true ∨ X.env.scope.names.lookup x = some .local := by first | exact .inl rfl | exact .inr rfl) :
    SS X W (.Assign [.Name x pos'] e pos) (mSet i me) := weakS (ps_set hN hi hx he hs hf) fun _ _ _ h => use_set h
theorem ss_setLc {i : Nat} {py : Pos} {tg iter : Expr} {ifs : List Expr} {scope : Scope} {own : List (Str × Nat)} {mi : MI} {mgt : MG} {tl : List Nat} (hc : X.calm = true) (hN : X.N.Nodup) (hi : SI X W tg iter mi) (ok : BlkOk X.N X.env.scope scope own) (htl : subN tl (own.map (·.2)) = true)
    (hg : ∀ (s : Shared) (H : Hp) (C : Addr) (cl : List (Str × Addr)) (fp : List Addr), SG (X.blk s H scope (compEnvC scope cl C X.env) fp) tg tl mgt)
    (ht : ∀ (s : Shared) (H : Hp) (C : Addr) (cl : List (Str × Addr)) (fp : List Addr), PTs (X.blk s H scope (compEnvC scope cl C X.env) fp) ifs (tMT X.K X.mg W0 mt))
    (he : ∀ (s : Shared) (H : Hp) (C : Addr) (cl : List (Str × Addr)) (fp : List Addr), SE (X.blk s H scope (compEnvC scope cl C X.env) fp) W0 e me)
    (hsw : swapsWith (.ListComp e [⟨tg, iter, ifs, 0⟩] scope p) (some (.Name x py)) pos.line X.env = pure true) (hy : X.N[i]? = some x := by rfl) (hyl : X.env.scope.names.lookup x = some .local := by rfl) (hs : ∀ x, foldedSetIterable iter X.env x = pure x := by intro _; rfl) :
    SS X W (.Assign [.Name x py] (.ListComp e [⟨tg, iter, ifs, 0⟩] scope p) pos) (mSet i (mLc mi mgt mt me (own.map (·.2)))) :=
  weakS (ps_setLc hc hN hy hyl hsw hi ok hg ht he hs) fun D σ H h => use_set (me := mLc mi mgt mt me (own.map (·.2))) h |> fun z => by
    obtain ⟨g, s, rfl, R, S, h⟩ := h
    exact use_lc (W := W) (subN_ok htl) ⟨g, s, rfl, R, S, wpS_bind S h fun g1 t v e1 R1 r1 h1 => h1 g1 _ rfl (Ext.refl _) R1 ((S.mono e1).set r1 i)⟩
/-- a, b = x, y with plain local names -/
def mPar (i j : Nat) (mr : MA) : MS := fun s h => match mr s h with
  | .ok [t, u] h1 => .nx ((s.set i (some t)).set j (some u)) h1
  | .ok _ _ => .stuck
  | .ex x h1 => .ex x s h1
  | .stuck => .stuck
theorem ss_par {i j : Nat} {y : Str} {px py pt : Pos} {kt k2 : Nat} {pt2 : Pos} (hc : X.calm = true) (hN : X.N.Nodup) (ha : SA X W [a, b] mr)
    (hw : swappedStores [.Tuple [.Name x px, .Name y py] kt pt] (.Tuple [a, b] k2 pt2) X.env = pure (some [x, y]) := by rfl) (hi : X.N[i]? = some x := by rfl) (hj : X.N[j]? = some y := by rfl) (hij : i ≠ j := by decide)
    (hx : X.env.scope.names.lookup x = some .local := by rfl) (hy : X.env.scope.names.lookup y = some .local := by rfl) (hs : swapsWithSole [.Tuple [.Name x px, .Name y py] kt pt] (.Tuple [a, b] k2 pt2) pos.line X.env = pure false := by rfl) :
    SS X W (.Assign [.Tuple [.Name x px, .Name y py] kt pt] (.Tuple [a, b] k2 pt2) pos) (mPar i j mr) := by
  refine weakS (ps_par hc hN hi hj hij hx hy ha hw hs) ?_
  rintro D σ H ⟨g, s, rfl, R, S, h⟩
  refine ⟨g, s, rfl, R, S, ?_⟩
  unfold mPar at h
  cases q : mr s g.h with
  | ok ts h1 =>
    rw [q] at h
    match ts, h with
    | [t, u], h =>
      intro g1 vs q1 e1 R1 r1
      simp only [RepL] at r1
      obtain ⟨v, w, rfl, rv, v2, w2, rfl, rv2, rfl⟩ := r1
      exact ⟨v, v2, rfl, h g1 _ q1 e1 R1 (((S.mono e1).set rv i).set rv2 j)⟩
    | [], h => exact h.elim
    | [_], h => exact h.elim
    | _ :: _ :: _ :: _, h => exact h.elim
  | ex x h1 =>
    rw [q] at h
    exact fun g1 cls d q e R r => h g1 σ cls d q e R (S.mono e) r
  | stuck => rw [q] at h; exact h.elim
/-- target = value -/
def mAs (me : ME) (mgt : MG) : MS := fun s h => (me s h).toS s fun t h1 => match mgt t s h1 with
  | .ok s1 h2 => .nx s1 h2
  | .stuck => .stuck
theorem ss_asg {tg : Expr} {tl : List Nat} {mgt : MG} (he : SE X W e me) (hg : SG X tg tl mgt) (hs : swapsWithSole [tg] e pos.line X.env = pure false := by rfl) (hw : swappedStores [tg] e X.env = pure none := by rfl)
    (h1 : (assignEach [tg] X.env).map (·.2) = [assign tg X.env] := by rfl) : SS X W (.Assign [tg] e pos) (mAs me mgt) := by
  refine weakS (ps_asg he hg hs hw h1) ?_
  rintro D σ H ⟨g, s, rfl, R, S, h⟩
  refine ⟨g, s, rfl, R, S, wpS_bind S h fun g1 t v e1 R1 r1 h1 => ⟨g1, s, t, rfl, R1, S.mono e1, r1, ?_⟩⟩
  cases q : mgt t s g1.h with
  | ok s1 h2 =>
    rw [q] at h1
    exact fun g2 σ2 q2 e2 R2 S2 _ => h1 g2 σ2 q2 e2 R2 S2
  | stuck => rw [q] at h1; exact h1.elim
/-- name op= e -/
def mAug (i : Nat) (f : T → T → MH → R) (me : ME) : MS := fun s h => match s[i]? with
  | some (some t) => (me s h).toS s fun u h1 => (f t u h1).toS s fun z h2 => .nx (s.set i (some z)) h2
  | _ => .stuck
theorem ss_aug {i : Nat} {op : Operator} {pos' : Pos} {f : T → T → MH → R} {r : R2} (hN : X.N.Nodup) (ho : OpR X (inplaceOp op) r) (hm : OpM X f r) (he : SE X W e me) (hi : X.N[i]? = some x := by rfl) (hx : Loc X.env.scope x := by first | exact Or.inl rfl | exact Or.inr rfl) (hf : X.fn x = true ∨ X.env.scope.names.lookup x = some .local := by first | exact .inl rfl | exact .inr rfl) :
    SS X W (.AugAssign (.Name x pos') op e pos) (mAug i f me) := by
  refine weakS (ps_aug hN hi hx he (ti := r) (fun pins s σ H x y v u Q I rx ry h => ho pins s σ H x y v u Q I rx ry h) hf) ?_
  rintro D σ H ⟨g, s, rfl, R, S, h⟩
  unfold mAug at h
  split at h
  · rename_i t q
    obtain ⟨v, hv, rv⟩ := S.2 i t q
    refine ⟨v, hv, g, s, rfl, R, S, wpS_bind S h fun g1 u w e1 R1 r1 h1 => ?_⟩
    refine hm W g1 σ t u v w _ R1 (rv.mono e1) r1 (wpS_bind (S.mono e1) h1 fun g2 z y e2 R2 r2 h2 => ?_)
    exact h2 g2 _ rfl (Ext.refl _) R2 (((S.mono e1).mono e2).set r2 i)
  · exact h.elim
/-! ### for -/
def forFrom (mgt : MG) (mb : MS) : List T → SM → MH → SR
  | [], s, h => .nx s h
  | x :: xs, s, h => match mgt x s h with
    | .ok s1 h1 => match mb s1 h1 with
      | .nx s2 h2 => forFrom mgt mb xs s2 h2
      | .ct s2 h2 => forFrom mgt mb xs s2 h2
      | .bk s2 h2 => .nx s2 h2
      | r => r
    | .stuck => .stuck
def mFor (mi : MI) (mgt : MG) (mb : MS) : MS := fun s h => match mi s h with
  | .ok xs h1 => forFrom mgt mb xs s h1
  | .ex x h1 => .ex x s h1
  | .stuck => .stuck
structure FoAt (K : PySem.W.Frag) (mg : Str → Option Value) (W : WX) (g1 : G) (D : Ends) (r : List T → SM → MH → SR) (xs : List T) (i : Nat) (σ : L2.St) (H : Hp) : Prop where
  ex : ∃ (gi : G) (s : SM), gi.H = H ∧ Rel K mg gi ∧ Ext g1 gi ∧ RepS K mg gi s σ ∧ i ≤ xs.length ∧ wpS K mg W gi D (r (xs.drop i) s gi.h)
theorem for_run {mgt : MG} {mb : MS} {tl : List Nat} {J : It} {xs : List T} {g1 : G} {s : SM} (R1 : Rel K mg g1) (S1 : RepS K mg g1 s σ) (it : ItOk K mg g1 xs J) (h : wpS K mg W g1 D (forFrom mgt mb xs s g1.h)) :
    ∃ Wd : Nat → Nat → L2.St → Hp → Prop, (∃ m, Wd 0 m σ g1.H) ∧ ∀ i m σ H, Wd i m σ H →
      (J.stop i H ∧ D.nx σ H) ∨ (J.go i H ∧ ∃ N : L2.St → Hp → Prop, (∀ σ' H', N σ' H' → ∃ m', m' < m ∧ Wd (i + 1) m' σ' H') ∧ ∀ x H', J.yld i H x H' → tMG K mg tl mgt x σ H' fun σ2 H2 => tSM K mg W mb { D with nx := N, ct := N, bk := D.nx } σ2 H2) := by
  refine ⟨fun i m σ H => m = xs.length - i ∧ FoAt K mg W g1 D (forFrom mgt mb) xs i σ H, ⟨xs.length, rfl, ⟨g1, s, rfl, R1, Ext.refl _, S1, Nat.zero_le _, by rw [List.drop_zero]; exact h⟩⟩, fun i m σ H hW => ?_⟩
  obtain ⟨rfl, ⟨gi, s, rfl, Ri, ei, Si, hi, hw⟩⟩ := hW
  by_cases hlt : i < xs.length
  · refine .inr ⟨it.go i gi ei.sub Ri hlt, fun σ' H' => FoAt K mg W g1 D (forFrom mgt mb) xs (i + 1) σ' H', fun σ' H' hn => ⟨xs.length - (i + 1), by omega, rfl, hn⟩, fun x H' hy => ?_⟩
    obtain ⟨g', rfl, eh, e1, R', t, ht, rt⟩ := it.yld i gi x H' ei.sub Ri hlt hy
    have edrop : xs.drop i = t :: xs.drop (i + 1) := by
      rw [List.drop_eq_getElem_cons hlt]
      have : xs[i] = t := by
        have := List.getElem?_eq_getElem hlt
        rw [ht] at this; exact (Option.some.inj this).symm
      rw [this]
    rw [edrop] at hw
    unfold forFrom at hw
    refine ⟨g', s, t, rfl, R', Si.mono e1, rt, ?_⟩
    rw [eh]
    cases q : mgt t s gi.h with
    | stuck => rw [q] at hw; exact hw.elim
    | ok s2 h2 =>
      rw [q] at hw
      dsimp only at hw
      intro g2 σ2 q2 e2 R2 S2 _
      refine ⟨g2, s2, rfl, R2, S2, ?_⟩
      rw [q2]
      cases q3 : mb s2 h2 with
      | nx s3 h3 =>
        rw [q3] at hw
        exact fun g3 σ3 q4 e3 R3 S3 => ⟨g3, s3, rfl, R3, ((ei.trans e1).trans e2).trans e3, S3, hlt, by rw [q4]; exact wpS.ext hw ((e1.trans e2).trans e3)⟩
      | ct s3 h3 =>
        rw [q3] at hw
        exact fun g3 σ3 q4 e3 R3 S3 => ⟨g3, s3, rfl, R3, ((ei.trans e1).trans e2).trans e3, S3, hlt, by rw [q4]; exact wpS.ext hw ((e1.trans e2).trans e3)⟩
      | bk s3 h3 =>
        rw [q3] at hw
        exact fun g3 σ3 q4 e3 R3 S3 => hw g3 σ3 q4 ((e1.trans e2).trans e3) R3 S3
      | rt t3 h3 =>
        rw [q3] at hw
        exact fun g3 v q4 e3 R3 r3 => hw g3 v q4 ((e1.trans e2).trans e3) R3 r3
      | ex x3 s3 h3 =>
        rw [q3] at hw
        exact fun g3 σ3 cls d q4 e3 R3 S3 r3 => hw g3 σ3 cls d q4 ((e1.trans e2).trans e3) R3 S3 r3
      | stuck => rw [q3] at hw; exact hw.elim
  · have e : i = xs.length := by omega
    subst e
    refine .inl ⟨it.stop _ gi ei.sub Ri (Nat.le_refl _), ?_⟩
    rw [List.drop_length] at hw
    exact hw gi σ rfl (Ext.refl _) Ri Si
theorem ss_for {tg iter : Expr} {body : List Stmt} {mi : MI} {mgt : MG} {tl : List Nat} {mb : MS} (hp : PassesOwn (model X.prog X.w) X.A X.env X.xe) (hc : X.calm = true) (hi : SI X W tg iter mi) (hg : SG X tg tl mgt) (hb : SSs X W body mb)
    (hs : ∀ x, foldedSetIterable iter X.env x = pure x := by intro _; rfl) : SS X W (.For tg iter body [] pos) (mFor mi mgt mb) := by
  refine weakS (ps_for hp hc hi hg hb hs) ?_
  rintro D σ H ⟨g, s, rfl, R, S, h⟩
  refine ⟨g, s, rfl, R, S, ?_⟩
  unfold mFor at h
  cases q : mi s g.h with
  | ok xs h1 =>
    rw [q] at h
    exact fun g1 J q1 e1 R1 it => for_run R1 (S.mono e1) it (by rw [q1]; exact wpS.ext h e1)
  | ex x h1 =>
    rw [q] at h
    exact fun g1 cls d q1 e1 R1 r1 => h g1 σ cls d q1 e1 R1 (S.mono e1) r1
  | stuck => rw [q] at h; exact h.elim
/-! ### while: by fuel -/
def whFrom (mc : ME) (mb : MS) : Nat → SM → MH → SR
  | 0, _, _ => .stuck
  | n + 1, s, h => (mc s h).toS s fun t h1 => match t with
    | .bl true => match mb s h1 with
      | .nx s2 h2 => whFrom mc mb n s2 h2
      | .ct s2 h2 => whFrom mc mb n s2 h2
      | .bk s2 h2 => .nx s2 h2
      | r => r
    | .bl false => .nx s h1
    | _ => .stuck
def mWh (n : Nat) (mc : ME) (mb : MS) : MS := fun s h => whFrom mc mb n s h
theorem ss_while {body : List Stmt} {mb : MS} {n : Nat} (hp : PassesOwn (model X.prog X.w) X.A X.env X.xe) (hc : ST X W c mc) (hb : SSs X W body mb) : SS X W (.While c body [] pos) (mWh n mc mb) := by
  refine weakS (ps_while hp hc hb) ?_
  rintro D σ H ⟨g0, s0, rfl, R0, S0, h0⟩
  refine ⟨fun m σ H => ∃ (g : G) (s : SM), g.H = H ∧ Rel X.K X.mg g ∧ RepS X.K X.mg g s σ ∧ wpS X.K X.mg W g D (whFrom mc mb m s g.h), ⟨n, g0, s0, rfl, R0, S0, h0⟩, fun m σ H hW => ?_⟩
  obtain ⟨g, s, rfl, R, S, h⟩ := hW
  cases m with
  | zero => exact h.elim
  | succ m =>
    unfold whFrom at h
    refine ⟨g, s, rfl, R, S, wpS_bindT S h (fun t h k => by cases t <;> first | exact absurd rfl (k _) | rfl) fun g1 b e1 R1 h1 => ?_⟩
    cases b with
    | false => exact iteF (h1 g1 σ rfl (Ext.refl _) R1 (S.mono e1))
    | true =>
      refine iteT ⟨fun σ' H' => ∃ (g : G) (s : SM), g.H = H' ∧ Rel X.K X.mg g ∧ RepS X.K X.mg g s σ' ∧ wpS X.K X.mg W g D (whFrom mc mb m s g.h), fun σ' H' hn => ⟨m, Nat.lt_succ_self _, hn⟩, g1, s, rfl, R1, S.mono e1, ?_⟩
      dsimp only at h1
      cases q3 : mb s g1.h with
      | nx s3 h3 =>
        rw [q3] at h1
        exact fun g3 σ3 q4 e3 R3 S3 => ⟨g3, s3, rfl, R3, S3, by rw [q4]; exact wpS.ext h1 e3⟩
      | ct s3 h3 =>
        rw [q3] at h1
        exact fun g3 σ3 q4 e3 R3 S3 => ⟨g3, s3, rfl, R3, S3, by rw [q4]; exact wpS.ext h1 e3⟩
      | bk s3 h3 => rw [q3] at h1; exact h1
      | rt t3 h3 => rw [q3] at h1; exact h1
      | ex x3 s3 h3 => rw [q3] at h1; exact h1
      | stuck => rw [q3] at h1; exact h1.elim
end
end Mi
end part_Mi6
section part_Mi7
set_option maxRecDepth 100000
set_option maxHeartbeats 2000000
/-! Mi, part 7: defs and calls. -/
namespace Mi
open PySem PySem.Spec PyProof.Rows L2
mutual
def closed : T → Bool
  | .non => true
  | .bl _ => true
  | .int _ => true
  | .str _ => true
  | .tup xs => closedL xs
  | .lst xs => closedL xs
  | .frl xs => closedL xs
  | .dct _ vs => closedL vs
  | .obj _ _ vs => closedL vs
  | .ref _ => false
  | .exn _ _ vs => closedL vs
  | .cls _ => true
  | .fn _ _ _ => true
  | .fnc _ _ _ _ => false
  | .tpl _ => false
def closedL : List T → Bool
  | [] => true
  | t :: ts => closed t && closedL ts
end
theorem closedL_mem : ∀ {ts : List T}, closedL ts = true → ∀ t ∈ ts, closed t = true
  | [], _, t, h => by cases h
  | u :: ts, h, t, ht => by
    simp only [closedL, Bool.and_eq_true] at h
    rcases List.mem_cons.mp ht with e | e
    · rw [e]; exact h.1
    · exact closedL_mem h.2 t e
section
variable {X : Cx} {K : PySem.W.Frag} {mg : Str → Option Value} {W : WX} {g g' : G} {σ : L2.St} {Q : VK} {D : Ends}
variable {a b c e : Expr} {ma mb mc me mt : ME} {mr : MA} {pos p : Pos} {es : List Expr} {x : Str}
theorem RepL.monoC {P : T → Prop} : ∀ {ts : List T} {vs : List V}, (∀ t ∈ ts, P t) → (∀ t ∈ ts, P t → ∀ v, Rep K mg g t v → Rep K mg g' t v) → RepL K mg g ts vs → RepL K mg g' ts vs
  | [], vs, _, _, h => by simpa only [RepL] using h
  | t :: ts, vs, hp, f, h => by
    simp only [RepL] at h ⊢
    obtain ⟨v, r, e, h1, h2⟩ := h
    exact ⟨v, r, e, f t List.mem_cons_self (hp t List.mem_cons_self) v h1, RepL.monoC (fun t ht => hp t (List.mem_cons_of_mem _ ht)) (fun t ht => f t (List.mem_cons_of_mem _ ht)) h2⟩
/-- a closed tree's representation leans on no changeable object's number -/
theorem Rep.subC (k : ∀ a o, g.H a = some o → ¬ g.hid a → g'.H a = some o ∧ ¬ g'.hid a) : ∀ t, closed t = true → ∀ v, Rep K mg g t v → Rep K mg g' t v := by
  intro t
  induction t using T.ind with
  | non => intro _ v h; simpa only [Rep] using h
  | bl b => intro _ v h; simpa only [Rep] using h
  | int i => intro _ v h; simpa only [Rep] using h
  | str s => intro _ v h; simpa only [Rep] using h
  | tup xs ih =>
    intro c v h; simp only [Rep] at h ⊢; simp only [closed] at c
    obtain ⟨p, vs, e1, h1, h2⟩ := h
    refine ⟨p, vs, e1, ?_, RepL.monoC (closedL_mem c) ih h2⟩
    rcases h1 with ⟨⟨o, h1, hd⟩, n⟩ | h1
    · exact .inl ⟨⟨o, (k _ _ h1 n).1, hd⟩, (k _ _ h1 n).2⟩
    · exact .inr h1
  | tpl xs _ => intro c; simp only [closed] at c; cases c
  | lst xs ih =>
    intro c v h; simp only [Rep] at h ⊢; simp only [closed] at c
    obtain ⟨p, vs, e1, ⟨h1, n⟩, h2⟩ := h
    exact ⟨p, vs, e1, k _ _ h1 n, RepL.monoC (closedL_mem c) ih h2⟩
  | frl xs ih =>
    intro c v h; simp only [Rep] at h ⊢; simp only [closed] at c
    obtain ⟨p, vs, e1, h1, h2⟩ := h
    refine ⟨p, vs, e1, ?_, RepL.monoC (closedL_mem c) ih h2⟩
    rcases h1 with ⟨⟨o, h1⟩, n⟩ | h1
    · exact .inl ⟨⟨o, (k _ _ h1 n).1⟩, (k _ _ h1 n).2⟩
    · exact .inr h1
  | dct ks vs ih1 ih2 =>
    intro c v h; simp only [Rep] at h ⊢; simp only [closed] at c
    obtain ⟨p, kvs, e1, ⟨h1, n⟩, e2, h2⟩ := h
    exact ⟨p, kvs, e1, k _ _ h1 n, e2, RepL.monoC (closedL_mem c) ih2 h2⟩
  | obj cc ns vs ih =>
    intro c v h; simp only [Rep] at h ⊢; simp only [closed] at c
    obtain ⟨p, C, dx, fs, e1, ⟨h1, n⟩, e2, e3, h2⟩ := h
    exact ⟨p, C, dx, fs, e1, k _ _ h1 n, e2, e3, RepL.monoC (closedL_mem c) ih h2⟩
  | ref i => intro c; simp only [closed] at c; cases c
  | cls c => intro _ v h; simpa only [Rep] using h
  | fn kk I C =>
    intro _ v h; simp only [Rep] at h ⊢
    exact h.subH fun a o z1 z2 _ => k a o z1 z2
  | fnc kk I C n => intro c; simp only [closed] at c; cases c
  | exn cc ns vs ih =>
    intro c v h; simp only [Rep] at h ⊢; simp only [closed] at c
    obtain ⟨p, C, d, fs, e1, ⟨h1, n⟩, ⟨h2, n2⟩, e2, e3, h3⟩ := h
    exact ⟨p, C, d, fs, e1, k _ _ h1 n, k _ _ h2 n2, e2, e3, RepL.monoC (closedL_mem c) ih h3⟩
theorem RepL.subC (k : ∀ a o, g.H a = some o → ¬ g.hid a → g'.H a = some o ∧ ¬ g'.hid a) {ts : List T} {vs : List V} (c : closedL ts = true) (h : RepL K mg g ts vs) : RepL K mg g' ts vs :=
  RepL.monoC (closedL_mem c) (fun t _ c v => Rep.subC k t c v) h
/-! ### the hidden places as a list -/
def liveAds : List Addr → List MO → List Addr
  | a :: as, .dead :: os => liveAds as os
  | a :: as, _ :: os => a :: liveAds as os
  | _, _ => []
theorem liveAds_mem : ∀ {as : List Addr} {os : List MO} {a : Addr}, a ∈ liveAds as os ↔ ∃ (i : Nat) (o : MO), as[i]? = some a ∧ os[i]? = some o ∧ o ≠ MO.dead
  | [], os, a => by simp [liveAds]
  | b :: as, [], a => by simp [liveAds]
  | b :: as, o :: os, a => by
    have ih := liveAds_mem (as := as) (os := os) (a := a)
    have split : (∃ (i : Nat) (o' : MO), (b :: as)[i]? = some a ∧ (o :: os)[i]? = some o' ∧ o' ≠ MO.dead) ↔ ((b = a ∧ o ≠ MO.dead) ∨ ∃ (i : Nat) (o' : MO), as[i]? = some a ∧ os[i]? = some o' ∧ o' ≠ MO.dead) := by
      constructor
      · rintro ⟨i, o', h1, h2, h3⟩
        cases i with
        | zero => simp at h1 h2; subst h1 h2; exact .inl ⟨rfl, h3⟩
        | succ i => exact .inr ⟨i, o', by simpa using h1, by simpa using h2, h3⟩
      · rintro (⟨e, h⟩ | ⟨i, o', h1, h2, h3⟩)
        · exact ⟨0, o, by simp [e], by simp, h⟩
        · exact ⟨i + 1, o', by simpa using h1, by simpa using h2, h3⟩
    rw [split, ← ih]
    cases o with
    | dead => simp [liveAds]
    | lst xs => simp [liveAds, eq_comm]
    | dct ks ts => simp [liveAds, eq_comm]
    | ins c ns ts => simp [liveAds, eq_comm]
    | tab q P => simp [liveAds, eq_comm]
    | cel ot => simp [liveAds, eq_comm]
def G.hidL (g : G) : List Addr := g.pv ++ liveAds g.rho g.h
theorem hidL_mem {a : Addr} : a ∈ g.hidL ↔ g.hid a := by
  unfold G.hidL G.hid
  rw [List.mem_append, liveAds_mem]
/-- the ghost of a call that sees no changeable object -/
def G.pure (g : G) : G := ⟨[], [], g.hidL, g.H⟩
theorem hid_pure {H : Hp} {a : Addr} : G.hid ⟨[], [], g.hidL, H⟩ a ↔ g.hid a := by
  constructor
  · rintro (h | ⟨i, o, h, _⟩)
    · exact hidL_mem.mp h
    · simp at h
  · exact fun h => .inl (hidL_mem.mpr h)
theorem Rel.hid_there (R : Rel K mg g) {a : Addr} (h : g.hid a) : ∃ o, g.H a = some o := by
  rcases h with h | ⟨i, o, h1, h2, h3⟩
  · exact R.pvt a h
  · exact R.tr i a ⟨h1, o, h2, h3⟩
theorem live_nil {l : List Addr} {H : Hp} {i : Nat} {a : Addr} : ¬ G.live ⟨[], [], l, H⟩ i a := fun ⟨h, _⟩ => by simp at h
theorem Rel.pure (R : Rel K mg g) : Rel K mg g.pure :=
  ⟨rfl, fun i j a h => (live_nil h).elim, fun a _ i h => live_nil h, fun a ha => R.hid_there (hidL_mem.mp ha), fun i a h => (live_nil h).elim, fun i a o h => by simp [G.pure] at h⟩
/-- behind such a call -/
theorem pure_back {gc : G} (R : Rel K mg g) (e : Ext g.pure gc) : Ext g { g with H := gc.H } ∧ Rel K mg { g with H := gc.H } := by
  have kp : ∀ a o, g.H a = some o → gc.H a = some o := fun a o h => by
    by_cases q : g.hid a
    · have := e.pvk a (show a ∈ g.pure.pv from hidL_mem.mpr q)
      rw [this]; exact h
    · exact (e.keep a o h (fun z => q (hid_pure.mp z))).1
  have hs : Sub g { g with H := gc.H } := ⟨fun _ _ h => h, fun a o h n => ⟨kp a o h, n⟩⟩
  refine ⟨⟨hs.rho, rfl, fun a ha => ?_, hs.keep⟩, R.len, R.inj, R.npv, fun a ha => ?_, fun i a ha => ?_, fun i a o h1 h2 => (R.obj i a o h1 h2).sub hs fun u hu => kp a u hu⟩
  · exact e.pvk a (show a ∈ g.pure.pv from hidL_mem.mpr (.inl ha))
  · obtain ⟨o, h⟩ := R.pvt a ha; exact ⟨o, kp a o h⟩
  · obtain ⟨o, h⟩ := R.tr i a ha; exact ⟨o, kp a o h⟩
theorem rep_back {gc : G} (e : Ext g.pure gc) {t : T} {v : V} (c : closed t = true) (r : Rep K mg gc t v) : Rep K mg { g with H := gc.H } t v :=
  Rep.subC (g := gc) (g' := { g with H := gc.H }) (fun a o h n => ⟨h, fun z => n (.inl (by rw [e.pv]; exact hidL_mem.mpr z))⟩) t c v r
theorem rep_fwd {t : T} {v : V} (c : closed t = true) (r : Rep K mg g t v) : Rep K mg g.pure t v :=
  Rep.subC (g := g) (g' := g.pure) (fun a o h n => ⟨h, fun z => n (hid_pure (g := g) (H := g.H) |>.mp z)⟩) t c v r
theorem repL_fwd {ts : List T} {vs : List V} (c : closedL ts = true) (r : RepL K mg g ts vs) : RepL K mg g.pure ts vs :=
  RepL.subC (g := g) (g' := g.pure) (fun a o h n => ⟨h, fun z => n (hid_pure (g := g) (H := g.H) |>.mp z)⟩) c r
theorem repX_back {gc : G} (e : Ext g.pure gc) {x : Exc} {cls : Value} {d : Option Addr} (c : closedL x.vs = true) (r : RepX K mg gc x cls d) : RepX K mg { g with H := gc.H } x cls d := by
  obtain ⟨C, da, fs, e1, e2, e3, ⟨h1, n⟩, e4, h2⟩ := r
  have kn : ∀ a o, gc.H a = some o → ¬ gc.hid a → (G.mk g.rho g.h g.pv gc.H).H a = some o ∧ ¬ (G.mk g.rho g.h g.pv gc.H).hid a := fun a o h n => ⟨h, fun z => n (.inl (by rw [e.pv]; exact hidL_mem.mpr z))⟩
  exact ⟨C, da, fs, e1, e2, e3, kn _ _ h1 n, e4, RepL.subC kn c h2⟩
/-! ### promises -/
abbrev MF := List T → MH → R
def wpD (K : PySem.W.Frag) (mg : Str → Option Value) (g : G) (Q : VK) (E : XK) : R → Prop
  | .ok t h' => ∀ g' v, g'.h = h' → Ext g g' → Rel K mg g' → Rep K mg g' t v → Q v g'.H
  | .ex x h' => ∀ g' cls d, g'.h = h' → Ext g g' → Rel K mg g' → RepX K mg g' x cls d → E cls d g'.H
  | .stuck => False
def spM (K : PySem.W.Frag) (mg : Str → Option Value) (n : Nat) (m : MF) : Sp := fun vs H Q E => ∃ g ts, g.H = H ∧ Rel K mg g ∧ RepL K mg g ts vs ∧ ts.length = n ∧ wpD K mg g Q E (m ts g.h)
theorem spM_len {n : Nat} {m : MF} {vs : List V} {H : Hp} {E : XK} (h : spM K mg n m vs H Q E) : vs.length = n := by
  obtain ⟨g, ts, _, _, r, l, _⟩ := h
  rw [← r.length]; exact l
/-- a def's mirror, by its body's -/
def mDef (N : Nat) (mb : MS) : MF := fun ts h => match mb (ts.map some ++ List.replicate (N - ts.length) none) h with
  | .nx _ h1 => .ok .non h1
  | .rt t h1 => .ok t h1
  | .ex x _ h1 => .ex x h1
  | _ => .stuck
theorem repS_start {N : List Str} {ts : List T} {vs : List V} (r : RepL K mg g ts vs) : RepS K mg g (ts.map some ++ List.replicate (N.length - ts.length) none) (L2.start N vs) := by
  unfold L2.start
  refine ⟨by simp only [List.length_append, List.length_map, List.length_replicate, r.length], fun i t h => ?_⟩
  by_cases l : i < ts.length
  · rw [List.getElem?_append_left (by simpa using l)] at h
    rw [List.getElem?_append_left (by rw [List.length_map, ← r.length]; exact l)]
    rw [List.getElem?_map] at h ⊢
    cases q : ts[i]? with
    | none => rw [q] at h; cases h
    | some u =>
      rw [q] at h
      have h : some (some u) = some (some t) := h
      cases h
      obtain ⟨v, e, rv⟩ := r.get q
      exact ⟨v, by rw [e]; rfl, rv⟩
  · rw [List.getElem?_append_right (by simpa using Nat.le_of_not_lt l)] at h
    have := List.mem_of_getElem? h
    simp at this
/-- THE RULE for a def -/
theorem def_ok {P : Program} {w : World} {base : Heap} {x qual : Str} {params : Arguments} {body : List Stmt} {scope : Scope} {dvs : List V} {kws : List (Str × V)} {f : Addr} {fd : FuncData} {N ps : List Str} {k n : Nat} {mb : MS}
    (F : FunD K x qual params body scope dvs kws f fd) (S : FnScope N ps scope) (hn : ps.length = n)
    (hbody : ∀ (cdv : Value) (A : Around) (outer : List Env) (s : Shared) (H : Hp) (E : XK), Room k (A.deeper (envOfC qual scope s.heap.objs.size f cdv)) →
      SSs (cxOf (L2.CX P w) P w K mg base N qual scope f cdv A outer s H E) (fun cls d _ H => E cls d H) body mb) :
    FnOk P w K mg base (L2.CX P w) (k + 1) f fd ps (spM K mg n (mDef N.length mb)) := by
  refine F.ok S (fun vs H Q E h => (spM_len h).trans hn.symm) fun cdv A outer s H vs Q E hr h => ⟨_, hbody cdv A outer s H E hr, ?_⟩
  obtain ⟨g, ts, rfl, R, r, l, h⟩ := h
  refine ⟨g, _, rfl, R, repS_start r, ?_⟩
  unfold mDef at h
  cases q : mb (ts.map some ++ List.replicate (N.length - ts.length) none) g.h with
  | nx s' h' =>
    rw [q] at h
    exact fun g' σ' q1 e R' S' => h g' .non q1 e R' rNon
  | rt t h' => rw [q] at h; exact fun g' v q1 e R' r' => h g' v q1 e R' r'
  | bk s' h' => rw [q] at h; exact h.elim
  | ct s' h' => rw [q] at h; exact h.elim
  | ex y s' h' => rw [q] at h; exact fun g' σ' cls d q1 e R' S' r' => h g' cls d q1 e R' r'
  | stuck => rw [q] at h; exact h.elim
/-- a weaker level -/
theorem FnOk.up {P : Program} {w : World} {K : PySem.W.Frag} {mg : Str → Option Value} {base : Heap} {CX : CXT} {j k : Nat} {f : Addr} {fd : FuncData} {ps : List Str} {sp : Sp} (F : FnOk P w K mg base CX j f fd ps sp) (h : j ≤ k) : FnOk P w K mg base CX k f fd ps sp := F.mono h
/-! ### calls -/
abbrev FnM (X : Cx) (k : Nat) (f : Addr) (fd : FuncData) (ps : List Str) (n : Nat) (m : MF) : Prop := FnOk X.prog X.w X.K X.mg X.base (L2.CX X.prog X.w) k f fd ps (spM X.K X.mg n m)
/-- a call that may change what the caller sees -/
theorem call_st {n : Nat} {m : MF} {ts : List T} {vs : List V} (R : Rel K mg g) (r : RepL K mg g ts vs) (hn : ts.length = n) (h : wpR K mg W g σ Q (m ts g.h)) : spM K mg n m vs g.H Q (WE W σ) := by
  refine ⟨g, ts, rfl, R, r, hn, ?_⟩
  cases q : m ts g.h with
  | ok t h' => rw [q] at h; exact h
  | ex x h' => rw [q] at h; exact h
  | stuck => rw [q] at h; exact h
def pureR (r : R) (h : MH) : R := match r with
  | .ok t _ => if closed t then .ok t h else .stuck
  | .ex x _ => if closedL x.vs then .ex x h else .stuck
  | .stuck => .stuck
def fP (n : Nat) (m : MF) : List T → MH → R := fun ts h => if ts.length = n ∧ closedL ts = true then pureR (m ts []) h else .stuck
def fS (n : Nat) (m : MF) : List T → MH → R := fun ts h => if ts.length = n then m ts h else .stuck
theorem call_pu {n : Nat} {m : MF} {ts : List T} {vs : List V} (R : Rel K mg g) (r : RepL K mg g ts vs) (h : wpR K mg W g σ Q (fP n m ts g.h)) : spM K mg n m vs g.H Q (WE W σ) := by
  unfold fP at h
  split at h
  · rename_i q
    obtain ⟨hn, hc⟩ := q
    refine ⟨g.pure, ts, rfl, R.pure, repL_fwd hc r, hn, ?_⟩
    show wpD K mg g.pure Q (WE W σ) (m ts [])
    unfold pureR at h
    cases q2 : m ts [] with
    | ok t h' =>
      rw [q2] at h
      dsimp only at h
      split at h
      · rename_i ct
        intro gc v _ e _ rv
        obtain ⟨e1, R1⟩ := pure_back R e
        exact h { g with H := gc.H } v rfl e1 R1 (rep_back e ct rv)
      · exact h.elim
    | ex x h' =>
      rw [q2] at h
      dsimp only at h
      split at h
      · rename_i ct
        intro gc cls d _ e _ rv
        obtain ⟨e1, R1⟩ := pure_back R e
        exact h { g with H := gc.H } cls d rfl e1 R1 (repX_back e ct rv)
      · exact h.elim
    | stuck => rw [q2] at h; exact h.elim
  · exact h.elim
/-- how a value is called -/
def Calls2 (X : Cx) (W : WX) (n : Nat) (m : MF) (f : List T → MH → R) : Prop := ∀ g σ ts vs Q, Rel X.K X.mg g → RepL X.K X.mg g ts vs → wpR X.K X.mg W g σ Q (f ts g.h) → spM X.K X.mg n m vs g.H Q (WE W σ)
theorem calls_st {n : Nat} {m : MF} : Calls2 X W n m (fS n m) := fun g σ ts vs Q R r h => by
  unfold fS at h
  split at h
  · rename_i q; exact call_st R r q h
  · exact h.elim
theorem calls_pu {n : Nat} {m : MF} : Calls2 X W n m (fP n m) := fun g σ ts vs Q R r h => call_pu R r h
/-- the defaults that fill up -/
def withD (dts : List T) (f : List T → MH → R) : List T → MH → R := fun ts h => f (ts ++ dts) h
theorem se_call {f : Addr} {fd : FuncData} {ps : List Str} {n k : Nat} {m : MF} {fm : List T → MH → R} {ds : List Value} {dvs : List V} {dts : List T} (F : FnM X k f fd ps n m) (hr : Room k X.A) (tk : Takes X W) (hm : X.mg x = some (.ref f)) (hk : PySem.W.keepIn X.K (.ref f) = true) (hb : Binds X.K fd ps ds) (hd : Vals dvs ds)
    (hdt : ∀ g, RepL X.K X.mg g dts dvs) (cl : Calls2 X W n m fm) (ha : SA X W (e :: es) mr) (hg : Gl X x := by rfl)
    (hdb : (x == ("__debug__" : Str)) = false := by decide) (he : starEach (e :: es) X.env = (false, eval e X.env) :: starEach es X.env := by rfl) (hpl : (backTo pos (starEach es X.env)).any (·.1) = false := by rfl) :
    SE X W (.Call (.Name x p) (e :: es) [] pos) (mA (withD dts fm) mr) := by
  refine weakE (pe_callSD F hr hg hm hk hb hd (fun σ => passAt tk σ) ha hdb he hpl) ?_
  rintro σ H Q ⟨g, s, rfl, R, S, h⟩
  exact ⟨g, s, rfl, R, S, wpL_of h fun g1 ts vs e1 R1 r1 h1 => cl g1 σ (ts ++ dts) (vs ++ dvs) Q R1 (r1.append (hdt g1)) h1⟩
end
end Mi
end part_Mi7
section part_Mi8
set_option maxRecDepth 100000
set_option maxHeartbeats 2000000
/-! Mi, part 8: times, in, chains, f-strings, isinstance, index, live lists, calls by keywords, globals, freezing. -/
namespace Mi
open PySem PySem.Spec PyProof.Rows L2
section
variable {X : Cx} {K : PySem.W.Frag} {mg : Str → Option Value} {W : WX} {g g' : G} {σ : L2.St} {Q : VK} {D : Ends}
variable {a b c e : Expr} {ma mb mc me mt : ME} {mr : MA} {pos p : Pos} {es : List Expr} {x : Str} {m : MS} {sts : List Stmt}
/-! ### times -/
def mulOk (i j : Int) : Bool := (decide (-18446744073709551616 < i) && decide (i < 18446744073709551616)) || (decide (-18446744073709551616 < j) && decide (j < 18446744073709551616))
theorem mulOk_of {i j : Int} (h : mulOk i j = true) : CMul i j := by
  unfold mulOk at h
  simp only [Bool.or_eq_true, Bool.and_eq_true, decide_eq_true_eq] at h
  unfold CMul
  omega
def strMulOk (s : Str) (i : Int) : Bool := decide (s.length ≤ 1000) && decide (-1000 ≤ i) && decide (i ≤ 1000)
theorem op_mul_str : OpR X (binaryOp .Mult) (fun x y H Q => ∃ s i, x = .str s ∧ y = .int i ∧ strMulOk s i = true ∧ Q (.str (Txt.mul s i)) H) := by
  intro pins s σ H x y v u Q I rx ry h
  obtain ⟨z, i, rfl, rfl, hc, q⟩ := h
  obtain ⟨t, rfl⟩ := rx
  obtain ⟨t', rfl⟩ := ry
  unfold strMulOk at hc
  simp only [Bool.and_eq_true, decide_eq_true_eq] at hc
  obtain ⟨⟨h1, h2⟩, h3⟩ := hc
  exact PySem.SB.mul (PyProof.Rows.mulOk_of 1000 1000 h1 (by omega) (by omega) (by omega) (by omega)) fun t' k => ⟨.str _, H, I.tok _, ⟨_, rfl⟩, q⟩
def repOk (xs : List T) (i : Int) : Bool := decide (-1000 ≤ i) && decide (i ≤ 1000) && decide (xs.length ≤ 100)
def fMul : T → T → MH → R := fun t u h => match t, u with
  | .int i, .int j => if mulOk i j then .ok (.int (i * j)) h else .stuck
  | .str s, .int i => if strMulOk s i then .ok (.str (Txt.mul s i)) h else .stuck
  | .lst xs, .int i => if repOk xs i then .ok (.lst (List.replicate i.toNat xs).flatten) h else .stuck
  | _, _ => .stuck
abbrev rMulV : R2 := fun x y H Q => (rI CMul fun i j => .int (i * j)) x y H Q ∨ (fun x y H Q => (∃ s i, x = .str s ∧ y = .int i ∧ strMulOk s i = true ∧ Q (.str (Txt.mul s i)) H) ∨ rRep x y H Q) x y H Q
theorem op_mulV : OpR X (binaryOp .Mult) rMulV := op_mul.or (op_mul_str.or op_rep)
theorem RepL.rep {xs : List T} {vs : List V} (r : RepL K mg g xs vs) : ∀ n : Nat, RepL K mg g (List.replicate n xs).flatten (List.replicate n vs).flatten
  | 0 => RepL.nil
  | n + 1 => by
    rw [List.replicate_succ, List.replicate_succ, List.flatten_cons, List.flatten_cons]
    exact r.append (RepL.rep r n)
theorem mMulV : OpM X fMul rMulV := by
  intro W g σ t u x y Q R r1 r2 h
  unfold fMul at h
  split at h
  · rename_i i j
    rw [rep_int r1, rep_int r2]
    split at h
    · rename_i q; exact .inl ⟨i, j, rfl, rfl, mulOk_of q, wpR_here h R rInt⟩
    · exact h.elim
  · rename_i s i
    rw [rep_str r1, rep_int r2]
    split at h
    · rename_i q; exact .inr (.inl ⟨s, i, rfl, rfl, q, wpR_here h R rStr⟩)
    · exact h.elim
  · rename_i xs i
    rw [rep_int r2]
    obtain ⟨p, vs, rfl, h1, l1⟩ := rep_lst_at r1
    split at h
    · rename_i q
      unfold repOk at q
      simp only [Bool.and_eq_true, decide_eq_true_eq] at q
      obtain ⟨⟨q1, q2⟩, q3⟩ := q
      refine .inr (.inr ⟨p, i, vs, rfl, rfl, h1, by omega, by omega, ?_, fun p' hp => wpR_lst h R (l1.rep _) hp⟩)
      have h1 : vs.length ≤ 100 := by rw [← l1.length]; exact q3
      have h2 : i.toNat ≤ 1000 := by omega
      have := Nat.mul_le_mul h1 h2
      rw [sizeLine_eq]
      omega
    · exact h.elim
  · exact h.elim
/-! ### in -/
def rInDT (K : PySem.W.Frag) (neg : Bool) : R2 := fun x y H Q => ∃ d ds, Dp K H x d ∧ Dp K H y (.tuple ds) ∧ SeqAt.shaped d = true ∧ SeqAt.shaped (.tuple ds) = true ∧ Q (.bl (if neg then !(ds.any fun z => PyData.eqv z d) else ds.any fun z => PyData.eqv z d)) H
theorem op_inDT (hu : X.A.units + 65 < cLine) : OpR X (compareOp .In) (rInDT X.K false) := by
  intro pins s σ H x y v u Q I rx ry h
  obtain ⟨d, ds, hd, he, sd, se, q⟩ := h
  obtain ⟨as, r1⟩ := Dp.reads I d x v hd rx
  obtain ⟨bs, r2⟩ := Dp.reads I (.tuple ds) y u he ry
  exact SeqAt.in_tuple_reads r2 r1 (SeqAt.canLay_of_shaped se) (SeqAt.canLay_of_shaped sd) (room_in_shaped sd hu) ⟨.bl _, H, I, rfl, q⟩
theorem op_notInDT (hu : X.A.units + 65 < cLine) : OpR X (compareOp .NotIn) (rInDT X.K true) := by
  intro pins s σ H x y v u Q I rx ry h
  obtain ⟨d, ds, hd, he, sd, se, q⟩ := h
  obtain ⟨as, r1⟩ := Dp.reads I d x v hd rx
  obtain ⟨bs, r2⟩ := Dp.reads I (.tuple ds) y u he ry
  exact SeqAt.notIn_tuple_reads r2 r1 (SeqAt.canLay_of_shaped se) (SeqAt.canLay_of_shaped sd) (room_in_shaped sd hu) ⟨.bl _, H, I, rfl, q⟩

def strIn (i j : Str) : Bool := match i.cps.toList with
  | [c] => decide (c ∈ j.cps.toList)
  | _ => !(Builtin.Str.occurrences j i 0 j.length 1).isEmpty
theorem strIn_eq (i j : Str) : strIn i j = !(Builtin.Str.occurrences j i 0 j.length 1).isEmpty := by
  unfold strIn
  split
  · rename_i c q
    have e : i = ⟨#[c]⟩ := by
      cases i with | mk z =>
      simp only at q
      congr 1
      exact Array.toList_inj.mp q
    rw [e]
    exact (PySem.StrLaws.found_one j c).symm
  · rfl
def fIn (neg : Bool) : T → T → MH → R := fun t u h => match u with
  | .str y => match t with
    | .str x => .ok (.bl (if neg then !strIn x y else strIn x y)) h
    | _ => .stuck
  | _ => match toD t, seqOf u h with
    | some d, some xs => match toDs xs with
      | some ds => if SeqAt.shaped d && SeqAt.shaped (.list ds) && SeqAt.shaped (.tuple ds) then .ok (.bl (if neg then !(ds.any fun z => PyData.eqv z d) else ds.any fun z => PyData.eqv z d)) h else .stuck
      | none => .stuck
    | _, _ => .stuck
abbrev rInV (K : PySem.W.Frag) (neg : Bool) : R2 := fun x y H Q => (∃ i j, x = .str i ∧ y = .str j ∧ Q (.bl (if neg then !strIn i j else strIn i j)) H) ∨ (fun x y H Q => (if neg then rNotInD K x y H Q else rInD K x y H Q) ∨ rInDT K neg x y H Q) x y H Q
theorem op_inV (hu : X.A.units + 65 < cLine) : OpR X (compareOp .In) (rInV X.K false) := by
  refine OpR.or ?_ ((op_inD hu).or (op_inDT hu))
  intro pins s σ H x y v u Q I rx ry h
  obtain ⟨i, j, e1, e2, q⟩ := h
  exact op_in_str pins s σ H x y v u Q I rx ry ⟨i, j, e1, e2, by rw [← strIn_eq]; exact q⟩
theorem op_notinV (hu : X.A.units + 65 < cLine) : OpR X (compareOp .NotIn) (rInV X.K true) := by
  refine OpR.or ?_ ((op_notInD hu).or (op_notInDT hu))
  intro pins s σ H x y v u Q I rx ry h
  obtain ⟨i, j, e1, e2, q⟩ := h
  exact op_notin_str pins s σ H x y v u Q I rx ry ⟨i, j, e1, e2, by rw [← strIn_eq]; exact q⟩
theorem dp_seq {t : T} {v : V} {xs : List T} {ds : List PyData} (R : Rel K mg g) (r : Rep K mg g t v) (h : seqOf t g.h = some xs) (hd : toDs xs = some ds) : Dp K g.H v (.list ds) ∨ Dp K g.H v (.tuple ds) := by
  obtain ⟨q, vs, rfl, h1, l1⟩ := seq_of R r h
  have z := dpAll_of (fun t _ v d r e => dp_of t v d r e) l1 hd
  rcases h1 with h1 | h1
  · exact .inl (.lst h1 z)
  · exact .inr (.tup h1 z)
theorem mInV {neg : Bool} : OpM X (fIn neg) (rInV X.K neg) := by
  intro W g σ t u x y Q R r1 r2 h
  unfold fIn at h
  split at h
  · rename_i j
    rw [rep_str r2]
    split at h
    · rename_i i
      rw [rep_str r1]
      exact .inl ⟨i, j, rfl, rfl, wpR_here h R rBl⟩
    · exact h.elim
  · split at h
    · rename_i d xs hd hs
      split at h
      · rename_i ds he
        split at h
        · rename_i q
          simp only [Bool.and_eq_true] at q
          obtain ⟨⟨q1, q2⟩, q3⟩ := q
          rcases dp_seq R r2 hs he with z | z
          · refine .inr (.inl ?_)
            cases neg with
            | false => exact ⟨d, ds, dp_of t x d r1 hd, z, q1, q2, wpR_here h R rBl⟩
            | true => exact ⟨d, ds, dp_of t x d r1 hd, z, q1, q2, wpR_here h R rBl⟩
          · exact .inr (.inr ⟨d, ds, dp_of t x d r1 hd, z, q1, q3, wpR_here h R rBl⟩)
        · exact h.elim
      · exact h.elim
    · exact h.elim
/-! ### chains -/
def mChain (f f' : T → T → MH → R) (ma mb mc : ME) : ME := fun s h => (ma s h).bind fun t h1 => (mb s h1).bind fun u h2 => (f t u h2).bind fun k h3 => match k with
  | .bl true => (mc s h3).bind fun w h4 => f' u w h4
  | .bl false => .ok (.bl false) h3
  | _ => .stuck
def BlM (f : T → T → MH → R) : Prop := ∀ t u h, (∃ b, f t u h = .ok (.bl b) h) ∨ f t u h = .stuck
theorem use_chain {f f' : T → T → MH → R} {r r' : R2} (hm : OpM X f r) (hm' : OpM X f' r') (hb : BlM f) {H : Hp} (h : tM X.K X.mg W (mChain f f' ma mb mc) σ H Q) : tChain r r' (tM X.K X.mg W ma) (tM X.K X.mg W mb) (tM X.K X.mg W mc) σ H Q := by
  obtain ⟨g, s, rfl, R, S, h⟩ := h
  refine ⟨g, s, rfl, R, S, wpR_bind h fun g1 t x e1 R1 r1 h1 => ⟨g1, s, rfl, R1, S.mono e1, wpR_bind h1 fun g2 u y e2 R2 r2 h2 => ?_⟩⟩
  refine hm W g2 σ t u x y _ R2 (r1.mono e2) r2 (wpR_bind h2 fun g3 k z e3 R3 r3 h3 => ?_)
  rcases hb t u g2.h with ⟨b, q⟩ | q
  · cases k with
    | bl kb =>
      refine ⟨kb, rep_bl r3, ?_⟩
      cases kb with
      | false => exact wpR_here h3 R3 rBl
      | true =>
        refine ⟨g3, s, rfl, R3, (S.mono (e1.trans e2)).mono e3, ?_⟩
        exact wpR_bind h3 fun g4 w wv e4 R4 r4 h4 => hm' W g4 σ u w y wv Q R4 ((r2.mono e3).mono e4) r4 h4
    | _ => exact h3.elim
  · rw [q] at h2; exact h2.elim
theorem se_chain {op op' : CmpOp} {f f' : T → T → MH → R} {r r' : R2} (ho : OpR X (compareOp op) r) (hm : OpM X f r) (hb' : BlM f) (ho' : OpR X (compareOp op') r') (hm' : OpM X f' r') (ha : SE X W a ma) (hb : SE X W b mb) (hc : SE X W c mc)
    (hk : lastMarks [op, op'] [b, c] = false := by with_unfolding_all rfl) : SE X W (.Compare a [op, op'] [b, c] pos) (mChain f f' ma mb mc) :=
  weakE (pe_chain ho ho' ha hb hc hk) fun _ _ _ h => use_chain hm hm' hb' h
/-! ### f-strings -/
def fFmt : T → MH → R := fun t h => match t with
  | .str y => if y.length ≤ big then .ok (.str y) h else .stuck
  | .int i => if i.natAbs.log2 < 1920 then .ok (.str (toString i)) h else .stuck
  | _ => .stuck
def fFmtR : T → MH → R := fun t h => match t with
  | .str y => if (reprText y).length ≤ big then .ok (.str (reprText y)) h else .stuck
  | .int i => if i.natAbs.log2 < 1920 then .ok (.str (toString i)) h else .stuck
  | _ => .stuck
theorem se_fmt (ha : SE X W a ma) : SE X W (.FormattedValue a (-1) none pos) (m1 fFmt ma) := by
  refine weakE (pe_fmt ha) ?_
  rintro σ H Q ⟨g, s, rfl, R, S, h⟩
  refine ⟨g, s, rfl, R, S, wpR_bind h fun g1 t x e1 R1 r1 h1 => ?_⟩
  unfold fFmt at h1
  split at h1
  · split at h1
    · rename_i q; exact .inl ⟨_, rep_str r1, big_le q, wpR_here h1 R1 rStr⟩
    · exact h1.elim
  · split at h1
    · rename_i q; exact .inr ⟨_, rep_int r1, q, wpR_here h1 R1 rStr⟩
    · exact h1.elim
  · exact h1.elim
theorem se_fmtR (ha : SE X W a ma) : SE X W (.FormattedValue a 114 none pos) (m1 fFmtR ma) := by
  refine weakE (pe_fmtR ha) ?_
  rintro σ H Q ⟨g, s, rfl, R, S, h⟩
  refine ⟨g, s, rfl, R, S, wpR_bind h fun g1 t x e1 R1 r1 h1 => ?_⟩
  unfold fFmtR at h1
  split at h1
  · split at h1
    · rename_i q; exact .inl ⟨_, rep_str r1, big_le q, wpR_here h1 R1 rStr⟩
    · exact h1.elim
  · split at h1
    · rename_i q; exact .inr ⟨_, rep_int r1, q, wpR_here h1 R1 rStr⟩
    · exact h1.elim
  · exact h1.elim
abbrev SJ (X : Cx) (W : WX) (es : List Expr) (ms : List ME) : Prop := PJ X es (ms.map (tM X.K X.mg W))
theorem sj_nil : SJ X W [] [] := .nil
theorem sj_cons {ms : List ME} (h : SE X W e me) (r : SJ X W es ms) : SJ X W (e :: es) (me :: ms) := .cons h r
def fJ (k : Str → ME) (acc : Str) (s : SM) : T → MH → R := fun t h1 => match t with
  | .str y => if (acc ++ y).length ≤ big then k (acc ++ y) s h1 else .stuck
  | _ => .stuck
def mJ : List ME → Str → ME
  | [], acc => fun _ h => .ok (.str acc) h
  | m :: ms, acc => fun s h => (m s h).bind (fJ (mJ ms) acc s)
theorem use_J : ∀ {ms : List ME} {acc : Str} {H : Hp} {Q : VK}, tM K mg W (mJ ms acc) σ H Q → tJs (ms.map (tM K mg W)) acc σ H fun out H1 => Q (.str out) H1
  | [], acc, H, Q, h => by
    obtain ⟨g, s, rfl, R, S, h⟩ := h
    exact wpR_here h R rStr
  | m :: ms, acc, H, Q, h => by
    obtain ⟨g, s, rfl, R, S, h⟩ := h
    refine ⟨g, s, rfl, R, S, wpR_bind h fun g1 t x e1 R1 r1 h1 => ?_⟩
    unfold fJ at h1
    split at h1
    · rename_i y
      split at h1
      · rename_i q; exact ⟨y, rep_str r1, big_le q, use_J ⟨g1, s, rfl, R1, S.mono e1, h1⟩⟩
      · exact h1.elim
    · exact h1.elim
theorem se_fstr {v1 v2 : Expr} {rest : List Expr} {ms : List ME} (h : SJ X W (v1 :: v2 :: rest) ms) : SE X W (.JoinedStr (v1 :: v2 :: rest) pos) (mJ ms Str.empty) :=
  weakE (pe_joined h) fun _ _ _ h => use_J h
theorem se_fstr1 (h : SE X W e me) : SE X W (.JoinedStr [e] pos) me := pe_joined1 h
/-! ### isinstance of a built-in type -/
inductive Ty5 where
  | non | bl | int | str | tup | lst | dct
  deriving DecidableEq
def Ty5.name : Ty5 → String
  | .non => "NoneType"
  | .bl => "bool"
  | .int => "int"
  | .str => "str"
  | .tup => "tuple"
  | .lst => "list"
  | .dct => "dict"
def tyOfT (t : T) (h : MH) : Option Ty5 := match t with
  | .non => some .non
  | .bl _ => some .bl
  | .int _ => some .int
  | .str _ => some .str
  | .tup _ => some .tup
  | .lst _ => some .lst
  | .frl _ => some .lst
  | .dct _ _ => some .dct
  | .obj _ _ _ => none
  | .exn _ _ _ => none
  | .cls _ => none
  | .fn _ _ _ => none
  | .fnc _ _ _ _ => none
  | .tpl _ => none
  | .ref i => match h[i]? with
    | some (.lst _) => some .lst
    | some (.dct _ _) => some .dct
    | _ => none
def isi5 (a c : Ty5) : Bool := decide (a = c) || (decide (a = .bl) && decide (c = .int))
theorem isi5_ok (a c : Ty5) : kitB a.name c.name = some (isi5 a c) := by cases a <;> cases c <;> decide +kernel
theorem tyx_of {t : T} {v : V} {a : Ty5} (R : Rel K mg g) (r : Rep K mg g t v) (h : tyOfT t g.h = some a) : TyX K g.H v (.type a.name) := by
  unfold tyOfT at h
  cases t with
  | non => cases h; rw [rep_non r]; exact .base .non
  | bl b => cases h; rw [rep_bl r]; exact .base (.bl b)
  | int b => cases h; rw [rep_int r]; exact .base (.int b)
  | str b => cases h; rw [rep_str r]; exact .base (.str b)
  | tup xs =>
    cases h
    obtain ⟨q, vs, rfl, h1, l1⟩ := r.sqT
    rcases h1 with h1 | ⟨o, its, n, h1, h2, _⟩
    · rcases h1 with h1 | ⟨o, h1⟩
      · exact .base (.tup h1)
      · exact .fTuple h1
    · exact .kTuple h1 h2
  | lst xs =>
    cases h
    obtain ⟨q, vs, rfl, h1, l1⟩ := rep_lst_at r
    exact .base (.lst h1)
  | frl xs =>
    cases h
    obtain ⟨q, vs, rfl, h1, l1⟩ := r.sqF
    rcases h1 with h1 | ⟨o, its, n, h1, h2, _⟩
    · rcases h1 with h1 | ⟨o, h1⟩
      · exact .base (.lst h1)
      · exact .base (.frz h1)
    · exact .kList h1 h2
  | dct ks vs =>
    cases h
    simp only [Rep] at r
    obtain ⟨p, kvs, rfl, ⟨h1, _⟩, _⟩ := r
    exact .base (.dK h1)
  | obj c ns vs => cases h
  | exn c ns vs => cases h
  | cls c => cases h
  | fn k I C => cases h
  | fnc k I C n => cases h
  | tpl xs => cases h
  | ref i =>
    dsimp only at h
    split at h
    · rename_i xs q
      cases h
      obtain ⟨p, vs, rfl, _, h1, _⟩ := R.lst_at r q
      exact .base (.lst h1)
    · rename_i ks vs q
      cases h
      simp only [Rep] at r
      obtain ⟨p, rfl, hp⟩ := r
      obtain ⟨kvs, h1, _⟩ := R.obj i p _ hp q
      exact .base (.dK h1)
    · cases h
def fIsi (c : Ty5) : T → MH → R := fun t h => match tyOfT t h with
  | some a => .ok (.bl (isi5 a c)) h
  | none => .stuck
theorem se_isi {pa pc : Pos} {y : Str} (c : Ty5) (hmi : X.mg "isinstance" = none) (hmc : X.mg y = none) (ha : SE X W a ma) (hg : Gl X "isinstance" := by rfl) (hgc : Gl X y := by rfl) (hv : bootBuiltins y = some (.type c.name) := by decide +kernel)
    (hn : y ≠ "__name__" := by decide) (hdc : (y == ("__debug__" : Str)) = false := by decide)
    (he : starEach [a, .Name y pc] X.env = (false, eval a X.env) :: starEach [.Name y pc] X.env := by rfl) (he2 : starEach [.Name y pc] X.env = [(false, eval (.Name y pc) X.env)] := by rfl) (hpl : (backTo pos (starEach [.Name y pc] X.env)).any (·.1) = false := by rfl) :
    SE X W (.Call (.Name "isinstance" pa) [a, .Name y pc] [] pos) (m1 (fIsi c) ma) := by
  refine weakE (pe_callB (id := "isinstance") call_isi hg hmi (by decide +kernel) (pa_cons ha (pa_cons (pe_bltn hgc hmc hv (v := .ty c.name) rfl hn hdc) pa_nil he2) he) (by decide) (by decide) he hpl) ?_
  rintro σ H Q ⟨g, s, rfl, R, S, h⟩
  refine ⟨g, s, rfl, R, S, wpR_bind h fun g1 t x e1 R1 r1 h1 => ?_⟩
  unfold fIsi at h1
  split at h1
  · rename_i a' q
    exact ⟨x, .ty c.name, .type a'.name, .type c.name, isi5 a' c, rfl, .ty _, tyx_of R1 r1 q, kit_ty (isi5_ok a' c), wpR_here h1 R1 rBl⟩
  · exact h1.elim
end
end Mi
end part_Mi8
section part_Mi9
set_option maxRecDepth 100000
set_option maxHeartbeats 2000000
/-! Mi, part 9: index, live lists, stores, calls by keywords, globals, freezing. -/
namespace Mi
open PySem PySem.Spec PyProof.Rows L2
section
variable {X : Cx} {K : PySem.W.Frag} {mg : Str → Option Value} {W : WX} {g g' : G} {σ : L2.St} {Q : VK} {D : Ends}
variable {a b c e : Expr} {ma mb mc me mt : ME} {mr : MA} {pos p : Pos} {es : List Expr} {x : Str} {m : MS} {sts : List Stmt}
/-! ### l.index(x) -/
def idxD (d : PyData) : List PyData → Option Nat
  | [] => none
  | z :: ds => if PyData.eqv z d then some 0 else (idxD d ds).map (· + 1)
theorem idxD_ok {d : PyData} : ∀ {ds : List PyData} {j : Nat}, idxD d ds = some j → ∃ z, ds[j]? = some z ∧ PyData.eqv z d = true ∧ ∀ (m : Nat) (z' : PyData), m < j → ds[m]? = some z' → PyData.eqv z' d = false
  | [], j, h => by cases h
  | z :: ds, j, h => by
    unfold idxD at h
    split at h
    · rename_i q
      cases h
      exact ⟨z, rfl, q, fun m z' hm => absurd hm (Nat.not_lt_zero _)⟩
    · rename_i q
      cases e : idxD d ds with
      | none => rw [e] at h; cases h
      | some i =>
        rw [e] at h
        cases h
        obtain ⟨y, h1, h2, h3⟩ := idxD_ok e
        refine ⟨y, h1, h2, fun m z' hm hz => ?_⟩
        cases m with
        | zero =>
          cases (show some z = some z' from hz)
          simpa using q
        | succ m => exact h3 m z' (Nat.lt_of_succ_lt_succ hm) hz
def fIndex : T → List T → MH → R := fun t ts h => match ts with
  | [u] => if isTupT t then .stuck else match toD u, seqOf t h with
    | some d, some xs => match toDs xs with
      | some ds => if SeqAt.shaped d && SeqAt.shaped (.list ds) then (match idxD d ds with
        | some j => .ok (.int (j : Nat)) h
        | none => .stuck) else .stuck
      | none => .stuck
    | _, _ => .stuck
  | _ => .stuck
theorem dp_lstOf {t : T} {v : V} {xs : List T} {ds : List PyData} (R : Rel K mg g) (r : Rep K mg g t v) (hT : isTupT t = false) (h : seqOf t g.h = some xs) (hd : toDs xs = some ds) : ∃ q, v = .ref q ∧ Dp K g.H v (.list ds) := by
  have z : ∀ {vs}, RepL K mg g xs vs → DpAll K g.H vs ds := fun l1 => dpAll_of (fun t _ v d r e => dp_of t v d r e) l1 hd
  cases t with
  | tup ys => cases hT
  | lst ys => cases h; obtain ⟨q, vs, e, h1, l1⟩ := r.sqL; exact ⟨q, e, e ▸ .lst h1 (z l1)⟩
  | frl ys => cases h; obtain ⟨q, vs, e, h1, l1⟩ := r.sqF; exact ⟨q, e, e ▸ .lst h1 (z l1)⟩
  | ref i =>
    unfold seqOf at h
    dsimp only at h
    split at h
    · rename_i ys q
      cases h
      obtain ⟨q, vs, e, _, h1, l1⟩ := R.lst_at r q
      exact ⟨q, e, e ▸ .lst (SqL.of h1) (z l1)⟩
    · cases h
  | _ => cases h
theorem meIndex : MeM X fIndex (rIndexD X.K) := by
  intro W g σ t ts x vs Q R r rs h
  unfold fIndex at h
  split at h
  · rename_i u
    obtain ⟨v, rfl, rv⟩ := rs.one
    split at h
    · exact h.elim
    · rename_i hT
      split at h
      · rename_i d xs hd hs
        split at h
        · rename_i ds he
          split at h
          · rename_i q
            simp only [Bool.and_eq_true] at q
            split at h
            · rename_i j hj
              obtain ⟨z, h1, h2, h3⟩ := idxD_ok hj
              obtain ⟨l, rfl, hl⟩ := dp_lstOf R r (by simpa using hT) hs he
              exact ⟨l, v, d, ds, j, z, rfl, rfl, hl, dp_of u v d rv hd, q.2, q.1, h1, h2, h3, wpR_here h R rInt⟩
            · exact h.elim
          · exact h.elim
        · exact h.elim
      · exact h.elim
  · exact h.elim
/-! ### a new changeable list -/
theorem wpR_new {xs : List T} {vs : List V} {p : Addr} (h : wpR K mg W g σ Q (.ok (.ref g.h.length) (g.h ++ [.lst xs]))) (R : Rel K mg g) (r : RepL K mg g xs vs) (hp : g.H p = none) : Q (.ref p) (upd g.H p (.lst vs)) := by
  obtain ⟨g', e1, e2, ex, R', rr⟩ := ref_lay (o := .lst xs) (ho := .lst vs) R hp (fun g2 s2 hq => ⟨vs, hq, r.sub s2⟩) (by intro z; cases z)
  rw [← e1]
  exact h g' _ e2 ex R' rr
def fLstN : List T → MH → R := fun ts h => if ts.length ≤ big then .ok (.ref h.length) (h ++ [.lst ts]) else .stuck
theorem se_lstN {es : List Expr} {mr : MA} (h : SA X W es mr) : SE X W (.List es pos) (mA fLstN mr) := by
  refine weakE (pe_lst h) ?_
  rintro σ H Q ⟨g, s, rfl, R, S, h⟩
  refine ⟨g, s, rfl, R, S, wpL_of h fun g1 ts vs e1 R1 r1 h1 => ?_⟩
  unfold fLstN at h1
  split at h1
  · rename_i q; exact ⟨big_le (by rw [← r1.length]; exact q), fun p hp => wpR_new h1 R1 r1 hp⟩
  · exact h1.elim
/-! ### l[i] = v of a changeable list -/
def gSt (mo mi : ME) : MG := fun t s h => match mo s h with
  | .ok o h1 => match mi s h1 with
    | .ok (.int k) h2 => match liveL o h2 with
      | some (j, xs) => match ixN xs.length k with
        | some n => .ok s (h2.set j (.lst (xs.set n t)))
        | none => .stuck
      | none => .stuck
    | _ => .stuck
  | _ => .stuck
theorem sg_sub {o i : Expr} {mo mi : ME} (ho : SE X W0 o mo) (hi : SE X W0 i mi)
    (ha : ∀ v, assign (.Subscript o i pos) X.env v = (do
      let ov ← holding [v] (eval o X.env)
      let iv ← holding [v, ov] (eval i X.env)
      standAt pos
      holding [v, ov, iv] (setItem ov iv v)
      release [v, ov, iv] []) := by intro _; rfl) : SG X (.Subscript o i pos) [] (gSt mo mi) := by
  refine weakG (pg_sub ho hi set_list ha) ?_
  rintro v σ H Q ⟨g, s, t, rfl, R, S, rv, h⟩
  refine ⟨g, s, rfl, R, S, ?_⟩
  unfold gSt at h
  cases q : mo s g.h with
  | ok to h1 =>
    rw [q] at h
    dsimp only at h
    rintro g1 vo rfl e1 R1 r1
    refine ⟨g1, s, rfl, R1, S.mono e1, ?_⟩
    cases q2 : mi s g1.h with
    | ok ti h2 =>
      rw [q2] at h
      rintro g2 vi rfl e2 R2 r2
      split at h
      · rename_i k _ q3
        cases q3
        split at h
        · rename_i j xs hl
          split at h
          · rename_i n hn
            obtain ⟨pl, vs, rfl, hp, hh, hH, l1⟩ := live_of R2 (r1.mono e2) hl
            have rv2 := (rv.mono e1).mono e2
            refine ⟨pl, vs, k, n, rfl, rep_int r2, hH, by rw [← l1.length]; exact hn, ?_⟩
            obtain ⟨g3, z1, z2, ex, R'⟩ := R2.put (o' := .lst (xs.set n t)) (ho := .lst (vs.set n v)) hp hh (by intro z; cases z) (by intro z; cases z) (fun g4 s4 hq => ⟨_, hq, (l1.sub s4).set n (Rep.sub s4 t v rv2)⟩)
            rw [← z1]
            exact h g3 σ z2 ((e1.trans e2).trans ex) R' (((S.mono e1).mono e2).mono ex) fun _ _ => rfl
          · exact h.elim
        · exact h.elim
      · exact h.elim
    | ex y h2 => rw [q2] at h; exact h.elim
    | stuck => rw [q2] at h; exact h.elim
  | ex y h1 => rw [q] at h; exact h.elim
  | stuck => rw [q] at h; exact h.elim
end
end Mi
end part_Mi9
section part_Mi10
set_option maxRecDepth 100000
set_option maxHeartbeats 2000000
/-! Mi, part 10: freezing, globals, what a def is (Has), calls by position, by keywords. -/
namespace Mi
open PySem PySem.Spec PyProof.Rows L2
section
variable {X : Cx} {K : PySem.W.Frag} {mg : Str → Option Value} {W : WX} {g g' : G} {σ : L2.St} {Q : VK} {D : Ends}
variable {a b c e : Expr} {ma mb mc me mt : ME} {mr mk : MA} {pos p : Pos} {es : List Expr} {x : Str} {m : MS} {st : Stmt} {sts : List Stmt} {kws : List Keyword}
/-! ### freezing -/
theorem frz_g (R : Rel K mg g) {j : Nat} {q : Addr} {o : MO} (h1 : g.rho[j]? = some q) (h2 : g.h[j]? = some o) (h3 : o ≠ MO.dead) :
    let g' : G := ⟨g.rho, g.h.set j .dead, g.pv, g.H⟩
    Ext g g' ∧ Rel K mg g' ∧ ¬ g'.hid q := by
  intro g'
  have hh : ∀ a, g'.hid a → g.hid a := by
    rintro a (z | ⟨i, o', z1, z2, z3⟩)
    · exact .inl z
    · have z2' : (g.h.set j .dead)[i]? = some o' := z2
      by_cases e : j = i
      · subst e
        rw [List.getElem?_set] at z2'
        split at z2'
        · split at z2'
          · cases z2'; exact absurd rfl z3
          · cases z2'
        · rename_i w; exact absurd rfl w
      · rw [List.getElem?_set_ne e] at z2'
        exact .inr ⟨i, o', z1, z2', z3⟩
  have hv : ∀ i a, g'.live i a → g.live i a := by
    rintro i a ⟨z1, o', z2, z3⟩
    have z2' : (g.h.set j .dead)[i]? = some o' := z2
    by_cases e : j = i
    · subst e
      rw [List.getElem?_set] at z2'
      split at z2'
      · split at z2'
        · cases z2'; exact absurd rfl z3
        · cases z2'
      · rename_i w; exact absurd rfl w
    · rw [List.getElem?_set_ne e] at z2'
      exact ⟨z1, o', z2', z3⟩
  have hs : Sub g g' := ⟨fun _ _ h => h, fun a u h n => ⟨h, fun z => n (hh a z)⟩⟩
  refine ⟨⟨hs.rho, rfl, fun _ _ => rfl, hs.keep⟩, ⟨?_, fun i j a z1 z2 => R.inj i j a (hv i a z1) (hv j a z2), fun a ha i z => R.npv a ha i (hv i a z), R.pvt, fun i a z => R.tr i a (hv i a z), ?_⟩, ?_⟩
  · show g.rho.length = (g.h.set j .dead).length
    rw [List.length_set]; exact R.len
  · intro i a u z1 z2
    have z2' : (g.h.set j .dead)[i]? = some u := z2
    by_cases e : j = i
    · subst e
      rw [List.getElem?_set] at z2'
      split at z2'
      · split at z2'
        · cases z2'; trivial
        · cases z2'
      · rename_i w; exact absurd rfl w
    · rw [List.getElem?_set_ne e] at z2'
      exact (R.obj i a u z1 z2').sub hs fun w hw => hw
  · rintro (z | ⟨i, o', z1, z2, z3⟩)
    · exact R.npv q z j ⟨h1, o, h2, h3⟩
    · have e : i = j := R.inj i j q (hv i q ⟨z1, o', z2, z3⟩) ⟨h1, o, h2, h3⟩
      subst e
      have z2' : (g.h.set i .dead)[i]? = some o' := z2
      rw [List.getElem?_set] at z2'
      split at z2'
      · split at z2'
        · cases z2'; exact z3 rfl
        · cases z2'
      · rename_i w; exact w rfl
/-- a changeable object as a value, its number dead -/
def fzT (t : T) (h : MH) : T × MH := match t with
  | .ref j => match h[j]? with
    | some (.lst xs) => (.lst xs, h.set j .dead)
    | some (.dct ks vs) => (.dct ks vs, h.set j .dead)
    | some (.ins c ns vs) => (.obj c ns vs, h.set j .dead)
    | _ => (t, h)
  | _ => (t, h)
theorem fz_ok (R : Rel K mg g) {t : T} {v : V} (r : Rep K mg g t v) : ∃ g' : G, g'.H = g.H ∧ g'.h = (fzT t g.h).2 ∧ Ext g g' ∧ Rel K mg g' ∧ Rep K mg g' (fzT t g.h).1 v := by
  unfold fzT
  split
  · rename_i j
    simp only [Rep] at r
    obtain ⟨q, rfl, hq⟩ := r
    split
    · rename_i xs z
      obtain ⟨vs, h1, l1⟩ := R.obj j q _ hq z
      obtain ⟨e, R', n⟩ := frz_g R hq z (by intro w; cases w)
      exact ⟨⟨g.rho, g.h.set j .dead, g.pv, g.H⟩, rfl, rfl, e, R', by simp only [Rep]; exact ⟨q, vs, rfl, ⟨h1, n⟩, l1.mono e⟩⟩
    · rename_i ks ts z
      obtain ⟨kvs, h1, h2, l1⟩ := R.obj j q _ hq z
      obtain ⟨e, R', n⟩ := frz_g R hq z (by intro w; cases w)
      exact ⟨⟨g.rho, g.h.set j .dead, g.pv, g.H⟩, rfl, rfl, e, R', by simp only [Rep]; exact ⟨q, kvs, rfl, ⟨h1, n⟩, h2, l1.mono e⟩⟩
    · rename_i cc ns ts z
      obtain ⟨C, dx, fs, h1, h2, h3, l1⟩ := R.obj j q _ hq z
      obtain ⟨e, R', n⟩ := frz_g R hq z (by intro w; cases w)
      exact ⟨⟨g.rho, g.h.set j .dead, g.pv, g.H⟩, rfl, rfl, e, R', by simp only [Rep]; exact ⟨q, C, dx, fs, rfl, ⟨h1, n⟩, h2, h3, l1.mono e⟩⟩
    · exact ⟨g, rfl, rfl, Ext.refl g, R, by simp only [Rep]; exact ⟨q, rfl, hq⟩⟩
  · exact ⟨g, rfl, rfl, Ext.refl g, R, r⟩
/-- the slot i is frozen ahead -/
def mFz (i : Nat) (m : MS) : MS := fun s h => match s[i]? with
  | some (some t) => m (s.set i (some (fzT t h).1)) (fzT t h).2
  | _ => m s h
theorem sss_fz (i : Nat) (hm : SSs X W sts m) : SSs X W sts (mFz i m) := by
  refine weakSs hm ?_
  rintro D σ H ⟨g, s, rfl, R, S, h⟩
  unfold mFz at h
  split at h
  · rename_i t q
    obtain ⟨v, e1, r⟩ := S.2 i t q
    obtain ⟨g', e2, e3, ex, R', r'⟩ := fz_ok R r
    refine ⟨g', _, e2, R', ?_, by rw [e3]; exact h.ext ex⟩
    have := (S.mono ex).set r' i
    have e4 : σ.set i (some v) = σ := by
      apply List.ext_getElem?
      intro k
      by_cases w : i = k
      · subst w
        rw [List.getElem?_set]
        split
        · split
          · exact e1.symm
          · rename_i w1 w2
            have := (List.getElem?_eq_some_iff.mp e1).1
            exact absurd this w2
        · rename_i w1; exact absurd rfl w1
      · rw [List.getElem?_set_ne w]
    rw [e4] at this
    exact this
  · exact ⟨g, s, rfl, R, S, h⟩
/-- return, the value frozen -/
def mRetF (me : ME) : MS := fun s h => (me s h).toS s fun t h1 => .rt (fzT t h1).1 (fzT t h1).2
theorem ss_retF (he : SE X W e me) : SS X W (.Return (some e) pos) (mRetF me) := by
  refine weakS (ss_ret he) ?_
  rintro D σ H ⟨g, s, rfl, R, S, h⟩
  refine ⟨g, s, rfl, R, S, ?_⟩
  unfold mRetF at h
  unfold mRet
  cases q : me s g.h with
  | ok t h1 =>
    rw [q] at h
    intro g1 v e1 ex R1 r1
    have e1' : g1.h = h1 := e1
    obtain ⟨g', e2, e3, ex', R', r'⟩ := fz_ok R1 r1
    rw [← e2]
    exact h g' v (by rw [e3, e1']) (ex.trans ex') R' (by rw [← e1']; exact r')
  | ex y h1 => rw [q] at h; exact h
  | stuck => rw [q] at h; exact h
/-! ### globals -/
theorem se_glob {t : T} {v : V} {u : Value} (hm : X.mg x = some u) (hr : RelV v u) (r : ∀ g, Rep X.K X.mg g t v) (hg : Gl X x := by rfl) (hd : (x == ("__debug__" : Str)) = false := by decide) : SE X W (.Name x pos) (mC t) :=
  se_c (pe_glob hg hm hr hd) r
/-! ### defs -/
def Has (P : Program) (w : World) (K : PySem.W.Frag) (mg : Str → Option Value) (base : Heap) (k : Nat) (x qual : Str) (st : Stmt) (ps : List Str) (m : MF) : Prop :=
  ∃ (f : Addr) (fd : FuncData), FunD K x qual (defArgs st) (defBody st) (defScope st) [] [] f fd ∧ mg x = some (.ref f) ∧ FnOk P w K mg base (L2.CX P w) k f fd ps (spM K mg ps.length m)
abbrev HasX (X : Cx) := Has X.prog X.w X.K X.mg X.base
theorem Has.up {P : Program} {w : World} {K : PySem.W.Frag} {mg : Str → Option Value} {base : Heap} {j k : Nat} {x qual : Str} {st : Stmt} {ps : List Str} {m : MF} (h : Has P w K mg base j x qual st ps m) (l : j ≤ k) : Has P w K mg base k x qual st ps m := by
  obtain ⟨f, fd, F, hm, ok⟩ := h
  exact ⟨f, fd, F, hm, ok.mono l⟩
abbrev PosB (st : Stmt) (x qual : Str) (ps : List Str) : Prop := ∀ (kV doc pm : Value) (an : Option Addr) (cdv ct : Value) (us : List Value), us.length = ps.length → bindArgs (PySem.W.fnOf x qual (defArgs st) (defBody st) (defScope st) .none kV doc pm an cdv ct) ⟨us, []⟩ = pure (ps.zip us)
/-- THE RULE for a call by position -/
theorem se_hcall {k : Nat} {qual : Str} {st : Stmt} {ps : List Str} {mf : MF} {fm : List T → MH → R} (h : HasX X k x qual st ps mf) (hr : Room k X.A) (tk : Takes X W) (cl : Calls2 X W ps.length mf fm) (hb : PosB st x qual ps) (ha : SA X W (e :: es) mr) (hg : Gl X x := by rfl)
    (hdb : (x == ("__debug__" : Str)) = false := by decide) (he : starEach (e :: es) X.env = (false, eval e X.env) :: starEach es X.env := by rfl) (hpl : (backTo pos (starEach es X.env)).any (·.1) = false := by rfl) :
    SE X W (.Call (.Name x p) (e :: es) [] pos) (mA fm mr) := by
  obtain ⟨f, fd, F, hm, ok⟩ := h
  have := se_call (dts := []) (p := p) (pos := pos) ok hr tk hm F.kp (F.bindsN hb) .nil (fun _ => RepL.nil) cl ha hg hdb he hpl
  have e1 : withD [] fm = fm := by
    funext ts h
    show fm (ts ++ []) h = fm ts h
    rw [List.append_nil]
  rw [e1] at this
  exact this
/-! ### keywords -/
def pick {α : Type} (is : List Nat) (l : List α) : List α := is.filterMap fun i => l[i]?
theorem pick_vals {vs : List V} {us : List Value} (r : Vals vs us) : ∀ is : List Nat, Vals (pick is vs) (pick is us)
  | [] => .nil
  | i :: is => by
    unfold pick
    simp only [List.filterMap_cons]
    have hl := r.length
    by_cases l : i < vs.length
    · rw [List.getElem?_eq_getElem l, List.getElem?_eq_getElem (by omega)]
      refine .cons ?_ (pick_vals r is)
      obtain ⟨u, e, z⟩ := r.get (List.getElem?_eq_getElem l)
      rw [List.getElem?_eq_getElem (by omega)] at e
      cases e
      exact z
    · rw [List.getElem?_eq_none (by omega), List.getElem?_eq_none (by omega)]
      exact pick_vals r is
theorem pick_repL {ts : List T} {vs : List V} (r : RepL K mg g ts vs) : ∀ is : List Nat, RepL K mg g (pick is ts) (pick is vs)
  | [] => RepL.nil
  | i :: is => by
    unfold pick
    simp only [List.filterMap_cons]
    have hl := r.length
    by_cases l : i < ts.length
    · obtain ⟨v, e, z⟩ := r.get (List.getElem?_eq_getElem l)
      rw [List.getElem?_eq_getElem l, e]
      exact RepL.cons z (pick_repL r is)
    · rw [List.getElem?_eq_none (by omega), List.getElem?_eq_none (by omega)]
      exact pick_repL r is
abbrev KwB (st : Stmt) (x qual : Str) (ps : List Str) (n : Nat) (ks : List Str) (is : List Nat) : Prop := ∀ (kV doc pm : Value) (an : Option Addr) (cdv ct : Value) (us ws : List Value), us.length = n → ws.length = ks.length →
  bindArgs (PySem.W.fnOf x qual (defArgs st) (defBody st) (defScope st) .none kV doc pm an cdv ct) ⟨us, ks.zip ws⟩ = pure (ps.zip (pick is (us ++ ws)))
theorem kbn_of {qual : Str} {st : Stmt} {ps ks : List Str} {n : Nat} {is : List Nat} {f : Addr} {fd : FuncData} (F : FunD K x qual (defArgs st) (defBody st) (defScope st) [] [] f fd) (h : KwB st x qual ps n ks is) : KBn K fd ps n ks (fun us ws => pick is (us ++ ws)) (fun vs zs => pick is (vs ++ zs)) := by
  obtain ⟨oc, od, dV, kV, doc, pm, an, cdv, ct, osl, rfl, _, _, hd, _⟩ := F.ex
  rcases hd with ⟨_, rfl⟩ | ⟨z, _⟩
  · exact ⟨fun s us ws _ l1 l2 M A E Q q => by rw [h kV doc pm an cdv ct us ws l1 l2]; exact wpAny_pure q, fun r rz => pick_vals (r.append rz) is⟩
  · exact absurd rfl z
abbrev SK (X : Cx) (W : WX) (kws : List Keyword) (m : MA) : Prop := PK X kws (tMA X.K X.mg W m)
variable {nm : Option Str} {kpos : Pos}
theorem sk_nil : SK X W [] aNil := by
  refine ⟨fun pos pins s σ H Q I h => pk_nil.run pos pins s σ H Q I ?_⟩
  obtain ⟨g, s', rfl, R, S, h⟩ := h
  exact h g [] rfl (Ext.refl g) R RepL.nil
theorem use_cons {H : Hp} {Q : List V → Hp → Prop} (h : tMA K mg W (aCons ma mr) σ H Q) : tCons (tM K mg W ma) (tMA K mg W mr) σ H Q := by
  obtain ⟨g, s, rfl, R, S, h⟩ := h
  refine ⟨g, s, rfl, R, S, ?_⟩
  unfold aCons at h
  cases q : ma s g.h with
  | ok t h1 =>
    rw [q] at h
    intro g1 v e1 ex R1 r1
    refine ⟨g1, s, rfl, R1, S.mono ex, ?_⟩
    dsimp only at h
    rw [e1]
    cases q2 : mr s h1 with
    | ok ts h2 =>
      rw [q2] at h
      intro g2 vs e2 ex2 R2 r2
      exact h g2 (v :: vs) e2 (ex.trans ex2) R2 (RepL.cons (r1.mono ex2) r2)
    | ex x h2 => 
      rw [q2] at h
      exact fun g2 cls d e2 ex2 R2 r2 => h g2 cls d e2 (ex.trans ex2) R2 r2
    | stuck => rw [q2] at h; exact h.elim
  | ex x h1 => rw [q] at h; exact h
  | stuck => rw [q] at h; exact h.elim
theorem sk_cons (ha : SE X W e me) (hr : SK X W kws mk) : SK X W (⟨nm, e, kpos⟩ :: kws) (aCons me mk) :=
  ⟨fun pos pins s σ H Q I h => (pk_cons ha hr).run pos pins s σ H Q I (use_cons h)⟩
def mKw (n nk : Nat) (is : List Nat) (fm : List T → MH → R) (mr mk : MA) : ME := fun s h => (mr s h).bind fun ts h1 => (mk s h1).bind fun us h2 => if ts.length = n ∧ us.length = nk then fm (pick is (ts ++ us)) h2 else .stuck
section
variable {k n : Nat} {f : Addr} {fd : FuncData} {ps ks : List Str} {sp : Sp} {E : L2.St → XK} {gg : List Value → List Value → List Value} {gV : List V → List V → List V} {CX : CXT} {t tk : TA}
theorem run_fnNS {pins : List (Addr × Obj)} {H : Hp} {s : Shared} {us ws : List Value} {vs zs : List V} (F : FnOk X.prog X.w X.K X.mg X.base CX k f fd ps sp) (hr : Room k X.A) (hb : KBn X.K fd ps n ks gg gV) (hx : PassesAt CX X σ (E σ))
    (I : Inv X pins σ H s) (r : Vals vs us) (rz : Vals zs ws) (l1 : vs.length = n) (l2 : zs.length = ks.length) (h : sp (gV vs zs) H Q (E σ)) : wpAny (model X.prog X.w) X.A (call (.ref f) us (ks.zip ws)) (EP X pins σ Q) X.xe s := by
  have r2 := hb.rel r rz
  refine wpAny_call (codeAny_mono (F.run X.A X.stack s H ⟨us, ks.zip ws⟩ (gg us ws) (gV vs zs) Q (E σ) hr I.env0 (hb.to s us ws I.kIn (r.length.symm.trans l1) (rz.length.symm.trans l2)) r2 h) fun r s' hq => ?_)
  cases r with
  | error e => exact hx pins H s e s' I hq
  | ok fl =>
    cases fl with
    | ret u => exact I.after hq
    | next => exact False.elim hq
    | brk => exact False.elim hq
    | cont => exact False.elim hq
def tCallNS (n m : Nat) (sp : Sp) (gV : List V → List V → List V) (E : L2.St → XK) (t tk : TA) : TE := fun σ H Q => t σ H fun vs H1 => tk σ H1 fun zs H2 => vs.length = n ∧ zs.length = m ∧ sp (gV vs zs) H2 Q (E σ)
theorem pe_callNS (F : FnOk X.prog X.w X.K X.mg X.base CX k f fd ps sp) (hr : Room k X.A) (hg : Gl X x) (hm : X.mg x = some (.ref f)) (hk : PySem.W.keepIn X.K (.ref f) = true) (hb : KBn X.K fd ps n ks gg gV) (hx : ∀ σ, PassesAt CX X σ (E σ))
    (ha : PA X (e :: es) t) (hkw : PK X kws tk) (hall : (backToKw pos (keywordEach kws X.env)).all (·.1.isSome) = true) (hks : (backToKw pos (keywordEach kws X.env)).filterMap (·.1) = ks)
    (hdb : (x == ("__debug__" : Str)) = false) (he : starEach (e :: es) X.env = (false, eval e X.env) :: starEach es X.env)
    (hpl : ((backTo pos (starEach (e :: es) X.env)).any (·.1) || (backToKw pos (keywordEach kws X.env)).any (·.1.isNone)) = false) :
    PE X (.Call (.Name x p) (e :: es) kws pos) (tCallNS n ks.length sp gV E t tk) := by
  refine ⟨fun pins s σ H Q I h => ?_⟩
  refine wpAny_Call_Name_kw (ld_glob I hg hm ?_ hdb)
  refine PySem.W.callWith_KW (h₀ := X.base) I.ok.mod.kin hk hall (thn (ha.run pos pins s σ H _ I h) fun us s1 ⟨vs, H1, I1, r, q⟩ => ?_) hpl he
  refine thn (hkw.run pos pins s1 σ H1 _ I1 q) fun ws s2 ⟨zs, H2, I2, rz, l1, l2, q2⟩ => ⟨I2.kIn, ?_⟩
  rw [hks]
  exact run_fnNS F hr hb (hx σ) I2 r rz l1 l2 q2
theorem pe_callNS0 (F : FnOk X.prog X.w X.K X.mg X.base CX k f fd ps sp) (hr : Room k X.A) (hg : Gl X x) (hm : X.mg x = some (.ref f)) (hk : PySem.W.keepIn X.K (.ref f) = true) (hb : KBn X.K fd ps 0 ks gg gV) (hx : ∀ σ, PassesAt CX X σ (E σ))
    (hkw : PK X kws tk) (hall : (backToKw pos (keywordEach kws X.env)).all (·.1.isSome) = true) (hks : (backToKw pos (keywordEach kws X.env)).filterMap (·.1) = ks)
    (hdb : (x == ("__debug__" : Str)) = false)
    (hpl : ((backTo pos (starEach [] X.env)).any (·.1) || (backToKw pos (keywordEach kws X.env)).any (·.1.isNone)) = false) :
    PE X (.Call (.Name x p) [] kws pos) (tCallNS 0 ks.length sp gV E tNil tk) := by
  refine ⟨fun pins s σ H Q I h => ?_⟩
  refine wpAny_Call_Name_kw (ld_glob I hg hm ?_ hdb)
  refine PySem.W.callWith_KW0 (h₀ := X.base) I.ok.mod.kin hk hall ?_ hpl
  refine thn (hkw.run pos pins s σ H _ I h) fun ws s2 ⟨zs, H2, I2, rz, l1, l2, q2⟩ => ⟨I2.kIn, ?_⟩
  rw [hks]
  exact run_fnNS (us := []) (vs := []) F hr hb (hx σ) I2 .nil rz l1 l2 q2
end
theorem wpL_kw {n nk : Nat} {is : List Nat} {mf : MF} {fm : List T → MH → R} {nn : Nat} (cl : Calls2 X W nn mf fm) {ts : List T} {vs : List V} {s : SM} (R : Rel X.K X.mg g) (S : RepS X.K X.mg g s σ) (r : RepL X.K X.mg g ts vs)
    (h : wpR X.K X.mg W g σ Q ((mk s g.h).bind fun us h2 => if ts.length = n ∧ us.length = nk then fm (pick is (ts ++ us)) h2 else .stuck)) :
    tMA X.K X.mg W mk σ g.H fun zs H2 => vs.length = n ∧ zs.length = nk ∧ spM X.K X.mg nn mf (pick is (vs ++ zs)) H2 Q (WE W σ) := by
  refine ⟨g, s, rfl, R, S, wpL_of h fun g2 us zs e2 R2 r2 h2 => ?_⟩
  split at h2
  · rename_i q
    exact ⟨r.length.symm.trans q.1, r2.length.symm.trans q.2, cl g2 σ _ _ Q R2 (pick_repL ((r.mono e2).append r2) is) h2⟩
  · exact h2.elim
theorem se_hkw {k n : Nat} {qual : Str} {st : Stmt} {ps ks : List Str} {is : List Nat} {mf : MF} {fm : List T → MH → R} (h : HasX X k x qual st ps mf) (hr : Room k X.A) (tk : Takes X W) (cl : Calls2 X W ps.length mf fm) (hb : KwB st x qual ps n ks is) (ha : SA X W (e :: es) mr) (hkw : SK X W kws mk) (hg : Gl X x := by rfl)
    (hall : (backToKw pos (keywordEach kws X.env)).all (·.1.isSome) = true := by rfl) (hks : (backToKw pos (keywordEach kws X.env)).filterMap (·.1) = ks := by rfl)
    (hdb : (x == ("__debug__" : Str)) = false := by decide) (he : starEach (e :: es) X.env = (false, eval e X.env) :: starEach es X.env := by rfl)
    (hpl : ((backTo pos (starEach (e :: es) X.env)).any (·.1) || (backToKw pos (keywordEach kws X.env)).any (·.1.isNone)) = false := by rfl) :
    SE X W (.Call (.Name x p) (e :: es) kws pos) (mKw n ks.length is fm mr mk) := by
  obtain ⟨f, fd, F, hm, ok⟩ := h
  refine weakE (pe_callNS ok hr hg hm F.kp (kbn_of F hb) (fun σ => passAt tk σ) ha hkw hall hks hdb he hpl) ?_
  rintro σ H Q ⟨g, s, rfl, R, S, h⟩
  exact ⟨g, s, rfl, R, S, wpL_of h fun g1 ts vs e1 R1 r1 h1 => wpL_kw cl R1 (S.mono e1) r1 h1⟩
theorem se_hkw0 {k : Nat} {qual : Str} {st : Stmt} {ps ks : List Str} {is : List Nat} {mf : MF} {fm : List T → MH → R} (h : HasX X k x qual st ps mf) (hr : Room k X.A) (tk : Takes X W) (cl : Calls2 X W ps.length mf fm) (hb : KwB st x qual ps 0 ks is) (hkw : SK X W kws mk) (hg : Gl X x := by rfl)
    (hall : (backToKw pos (keywordEach kws X.env)).all (·.1.isSome) = true := by rfl) (hks : (backToKw pos (keywordEach kws X.env)).filterMap (·.1) = ks := by rfl)
    (hdb : (x == ("__debug__" : Str)) = false := by decide)
    (hpl : ((backTo pos (starEach [] X.env)).any (·.1) || (backToKw pos (keywordEach kws X.env)).any (·.1.isNone)) = false := by rfl) :
    SE X W (.Call (.Name x p) [] kws pos) (mKw 0 ks.length is fm aNil mk) := by
  obtain ⟨f, fd, F, hm, ok⟩ := h
  refine weakE (pe_callNS0 ok hr hg hm F.kp (kbn_of F hb) (fun σ => passAt tk σ) hkw hall hks hdb hpl) ?_
  rintro σ H Q ⟨g, s, rfl, R, S, h⟩
  exact wpL_kw (ts := []) cl R S RepL.nil h
end
end Mi
end part_Mi10
section part_Mi11
set_option maxRecDepth 100000
set_option maxHeartbeats 2000000
/-! Mi, part 11: small things for printed walks. -/
namespace Mi
open PySem PySem.Spec PyProof.Rows L2
theorem hu65 {k : Nat} {A : Around} (r : Room k A) : A.units + 65 < cLine := by have := r.un; omega
theorem blCmp {fi : Int → Int → Bool} {fs : List Nat → List Nat → Bool} : BlM (fCmp fi fs) := fun t u h => by
  unfold fCmp
  split
  · exact .inl ⟨_, rfl⟩
  · exact .inl ⟨_, rfl⟩
  · exact .inr rfl
theorem blLt : BlM fLt := blCmp
theorem blLe : BlM fLe := blCmp
theorem blGt : BlM fGt := blCmp
theorem blGe : BlM fGe := blCmp
theorem blEq : BlM fEq := fun t u h => by
  unfold fEq with2
  repeat' split
  all_goals first | exact .inl ⟨_, rfl⟩ | exact .inr rfl
theorem blNe : BlM fNe := fun t u h => by
  unfold fNe with2
  repeat' split
  all_goals first | exact .inl ⟨_, rfl⟩ | exact .inr rfl
theorem blIs {neg : Bool} : BlM (fIs neg) := fun t u h => by
  unfold fIs
  repeat' split
  all_goals first | exact .inl ⟨_, rfl⟩ | exact .inr rfl
theorem blIn {neg : Bool} : BlM (fIn neg) := fun t u h => by
  unfold fIn
  repeat' split
  all_goals first | exact .inl ⟨_, rfl⟩ | exact .inr rfl
/-- nothing is promised -/
theorem fnOk_stuck {P : Program} {w : World} {K : PySem.W.Frag} {mg : Str → Option Value} {base : Heap} {x qual : Str} {params : Arguments} {body : List Stmt} {scope : Scope} {dvs : List V} {kws : List (Str × V)} {f : Addr} {fd : FuncData} {N ps : List Str} {k : Nat}
    (F : FunD K x qual params body scope dvs kws f fd) (S : FnScope N ps scope) : FnOk P w K mg base (L2.CX P w) (k + 1) f fd ps (spM K mg ps.length fun _ _ => .stuck) :=
  F.ok S (fun vs H Q E h => spM_len h) fun cdv A outer s H vs Q E hr h => by
    obtain ⟨g, ts, _, _, _, _, h⟩ := h
    exact h.elim
theorem blkOk_at {X : Cx} {N : List Str} {sc scope : Scope} {own : List (Str × Nat)} (hN : X.N = N) (hs : X.env.scope = sc) (h : blkC N sc scope own = true) : BlkOk X.N X.env.scope scope own := by
  subst hN hs
  exact blkOk_by h
/-- def_ok, what every body wants at hand -/
theorem def_ok2 {P : Program} {w : World} {K : PySem.W.Frag} {mg : Str → Option Value} {base : Heap} {x qual : Str} {params : Arguments} {body : List Stmt} {scope : Scope} {dvs : List V} {kws : List (Str × V)} {f : Addr} {fd : FuncData} {N ps : List Str} {k n : Nat} {mb : MS}
    (F : FunD K x qual params body scope dvs kws f fd) (S : FnScope N ps scope) (hn : ps.length = n)
    (hbody : ∀ (cdv : Value) (A : Around) (outer : List Env) (s : Shared) (H : Hp) (E : XK), Room k (A.deeper (envOfC qual scope s.heap.objs.size f cdv)) →
      Takes (cxOf (L2.CX P w) P w K mg base N qual scope f cdv A outer s H E) (fun cls d _ H => E cls d H) →
      PassesOwn (model P w) (A.deeper (envOfC qual scope s.heap.objs.size f cdv)) (envOfC qual scope s.heap.objs.size f cdv) (cxOf (L2.CX P w) P w K mg base N qual scope f cdv A outer s H E).xe →
      SSs (cxOf (L2.CX P w) P w K mg base N qual scope f cdv A outer s H E) (fun cls d _ H => E cls d H) body mb) :
    FnOk P w K mg base (L2.CX P w) (k + 1) f fd ps (spM K mg n (mDef N.length mb)) :=
  def_ok F S hn fun cdv A outer s H E hr => hbody cdv A outer s H E hr (takes_of rfl rfl rfl rfl) (passes_of rfl)
end Mi
end part_Mi11
section part_Mi12
set_option maxRecDepth 100000
set_option maxHeartbeats 2000000
/-! Mi, part 12: constants of the module, the law's promise, the head's facts. -/
namespace Mi
open PySem PySem.Spec PyProof.Rows L2
/-! the value u, read in K, is the tree t -/
mutual
def kT (K : PySem.W.Frag) : T → Value → Bool
  | .non, .none => true
  | .bl b, .bool c => decide (b = c)
  | .int i, .int j _ => decide (i = j)
  | .str x, .str y _ => decide (x = y)
  | .tup xs, .ref a => match K.lookup a with
    | some ⟨.type c, none, .seq its _, _⟩ => decide (c = "tuple") && (decide (its.size ≤ sizeLine) && kTs K xs its.toList)
    | _ => false
  | .frl xs, .ref a => match K.lookup a with
    | some ⟨.type c, none, .seq its _, _⟩ => decide (c = "list") && (decide (its.size ≤ sizeLine) && kTs K xs its.toList)
    | _ => false
  | _, _ => false
def kTs (K : PySem.W.Frag) : List T → List Value → Bool
  | [], [] => true
  | t :: ts, u :: us => kT K t u && kTs K ts us
  | _, _ => false
end
def kV (K : PySem.W.Frag) (x : Str) (t : T) : Bool := match PySem.W.nsIn K mainGlobals x with
  | some (some u) => kT K t u
  | _ => false
theorem bb {a b : Bool} (h : (a && b) = true) : a = true ∧ b = true := Bool.and_eq_true_iff.mp h
theorem kTs_of {K : PySem.W.Frag} {mg : Str → Option Value} : ∀ {ts : List T} {us : List Value}, (∀ t ∈ ts, ∀ u, kT K t u = true → ∃ v, RelV v u ∧ ∀ g, Rep K mg g t v) → kTs K ts us = true → ∃ vs, Vals vs us ∧ ∀ g, RepL K mg g ts vs
  | [], [], _, _ => ⟨[], .nil, fun _ => RepL.nil⟩
  | [], _ :: _, _, h => by simp [kTs] at h
  | _ :: _, [], _, h => by simp [kTs] at h
  | t :: ts, u :: us, f, h => by
    simp only [kTs] at h
    obtain ⟨h1, h2⟩ := bb h
    obtain ⟨v, r, q⟩ := f t List.mem_cons_self u h1
    obtain ⟨vs, rs, qs⟩ := kTs_of (fun t ht => f t (List.mem_cons_of_mem _ ht)) h2
    exact ⟨v :: vs, .cons r rs, fun g => RepL.cons (q g) (qs g)⟩
theorem kT_of {K : PySem.W.Frag} {mg : Str → Option Value} : ∀ (t : T) (u : Value), kT K t u = true → ∃ v, RelV v u ∧ ∀ g, Rep K mg g t v := by
  intro t
  induction t using T.ind with
  | non => intro u h; cases u <;> first | exact ⟨.non, rfl, fun g => rNon⟩ | (simp [kT] at h)
  | bl b => intro u h; cases u <;> first | (simp [kT] at h; subst h; exact ⟨.bl _, rfl, fun g => rBl⟩) | (simp [kT] at h)
  | int i => intro u h; cases u <;> first | (simp [kT] at h; subst h; exact ⟨.int _, ⟨_, rfl⟩, fun g => rInt⟩) | (simp [kT] at h)
  | str x => intro u h; cases u <;> first | (simp [kT] at h; subst h; exact ⟨.str _, ⟨_, rfl⟩, fun g => rStr⟩) | (simp [kT] at h)
  | tup xs ih =>
    intro u h
    cases u with
    | ref a =>
      simp only [kT] at h
      split at h
      · rename_i c its n sl q
        obtain ⟨h1, h2⟩ := bb h
        obtain ⟨h2, h3⟩ := bb h2
        obtain ⟨vs, rs, qs⟩ := kTs_of ih h3
        refine ⟨.ref a, rfl, fun g => ?_⟩
        simp only [Rep]
        exact ⟨a, vs, rfl, .inr ⟨_, its, n, q, congrArg Value.type (of_decide_eq_true h1), rfl, rfl, of_decide_eq_true h2, rs⟩, qs g⟩
      · cases h
    | _ => simp [kT] at h
  | lst xs ih => intro u h; cases u <;> simp [kT] at h
  | frl xs ih =>
    intro u h
    cases u with
    | ref a =>
      simp only [kT] at h
      split at h
      · rename_i c its n sl q
        obtain ⟨h1, h2⟩ := bb h
        obtain ⟨h2, h3⟩ := bb h2
        obtain ⟨vs, rs, qs⟩ := kTs_of ih h3
        refine ⟨.ref a, rfl, fun g => ?_⟩
        simp only [Rep]
        exact ⟨a, vs, rfl, .inr ⟨_, its, n, q, congrArg Value.type (of_decide_eq_true h1), rfl, rfl, of_decide_eq_true h2, rs⟩, qs g⟩
      · cases h
    | _ => simp [kT] at h
  | dct ks vs _ _ => intro u h; cases u <;> simp [kT] at h
  | obj c ns vs _ => intro u h; cases u <;> simp [kT] at h
  | ref i => intro u h; cases u <;> simp [kT] at h
  | exn c ns vs _ => intro u h; cases u <;> simp [kT] at h
  | cls c => intro u h; cases u <;> simp [kT] at h
  | fn k I C => intro u h; cases u <;> simp [kT] at h
  | fnc k I C n => intro u h; cases u <;> simp [kT] at h
  | tpl xs _ => intro u h; cases u <;> simp [kT] at h
abbrev GlobAt (K : PySem.W.Frag) (mg : Str → Option Value) (x : Str) (t : T) : Prop := ∃ (v : V) (u : Value), mg x = some u ∧ RelV v u ∧ ∀ g, Rep K mg g t v
theorem kV_of {K : PySem.W.Frag} {mg : Str → Option Value} {h : Heap} {x : Str} {t : T} (X : K.In h) (G : h.Ns mainGlobals mg) (e : kV K x t = true) : GlobAt K mg x t := by
  unfold kV at e
  split at e
  · rename_i u q
    obtain ⟨v, r, z⟩ := kT_of t u e
    exact ⟨v, u, PySem.W.mg_of X G q, r, z⟩
  · cases e
/-- the law's promise -/
theorem law_sp {K : PySem.W.Frag} {mg : Str → Option Value} {m : MF} {ns : List Int} {H : Hp} {a : Addr} (hm : ∃ h', m [.frl (ns.map T.int)] [] = .ok (.bl true) h') (hO : Only H) (hS : SqL K H a (ns.map V.int)) :
    spM K mg 1 m [.ref a] H (fun v _ => v = .bl true) (fun _ _ _ => False) := by
  obtain ⟨h', e⟩ := hm
  refine ⟨⟨[], [], [], H⟩, [.frl (ns.map T.int)], rfl, ⟨rfl, fun i j a h => (live_nil h).elim, fun a h => by simp at h, fun a h => by simp at h, fun i a h => (live_nil h).elim, fun i a o h => by simp at h⟩, RepL.cons ?_ RepL.nil, rfl, ?_⟩
  · have nh : ¬ G.hid ⟨[], [], [], H⟩ a := by
      rintro (z | ⟨i, o, z, _⟩)
      · simp at z
      · simp at z
    simp only [Rep]
    refine ⟨a, ns.map V.int, rfl, ?_, RepL.ints ns⟩
    rcases hS with (hS | hS) | hS
    · rcases hO a with z | ⟨o, xs, z⟩
      · have hS' : H a = some (HO.lst (ns.map V.int)) := hS
        rw [z] at hS'; cases hS'
      · have hS' : H a = some (HO.lst (ns.map V.int)) := hS
        rw [z] at hS'; cases hS'
    · exact .inl ⟨hS, nh⟩
    · exact .inr hS
  · rw [e]
    exact fun g' v _ _ _ r => rep_bl r
/-- a def without exceptions -/
theorem fnOk_nox {P : Program} {w : World} {K : PySem.W.Frag} {mg : Str → Option Value} {base : Heap} {k : Nat} {f : Addr} {fd : FuncData} {ps : List Str} {sp : Sp} (F : FnOk P w K mg base (L2.CX P w) k f fd ps sp) :
    FnOk P w K mg base CX0 k f fd ps (fun vs H Q _ => sp vs H Q fun _ _ _ => False) :=
  ⟨fun vs H Q E q => F.len vs H Q _ q, fun A outer s H args us vs Q E hr he hb hv hs => codeAny_mono (F.run A outer s H args us vs Q _ hr he hb hv hs) fun r s' hq => by
    cases r with
    | ok fl => cases fl <;> exact hq
    | error e =>
      obtain ⟨_, _, _, _, _, _, _, _, _, _, _, _, z⟩ := hq
      exact z.elim⟩
theorem funD_one {K : PySem.W.Frag} {x qual : Str} {params : Arguments} {body : List Stmt} {scope : Scope} {dvs dvs' : List V} {kws kws' : List (Str × V)} {f : Addr} {fd fd' : FuncData} (F : FunD K x qual params body scope dvs kws f fd) (F' : FunD K x qual params body scope dvs' kws' f fd') : fd = fd' := by
  obtain ⟨_, _, _, _, _, _, _, _, _, _, rfl, h, _⟩ := F.ex
  obtain ⟨_, _, _, _, _, _, _, _, _, _, rfl, h', _⟩ := F'.ex
  rw [h] at h'
  injection h' with h'
  injection h' with _ _ h' _
  injection h'
/-- the law's def, as the head wants it -/
theorem law_at {P : Program} {w : World} {K : PySem.W.Frag} {mg : Str → Option Value} {base : Heap} {k : Nat} {x qual : Str} {st : Stmt} {ps : List Str} {m : MF} {f : Addr} {fd : FuncData} (F : FunD K x qual (defArgs st) (defBody st) (defScope st) [] [] f fd) (hm : mg x = some (.ref f)) (h : Has P w K mg base k x qual st ps m) :
    FnOk P w K mg base CX0 k f fd ps (fun vs H Q _ => spM K mg ps.length m vs H Q fun _ _ _ => False) := by
  obtain ⟨f', fd', F', hm', ok⟩ := h
  cases hm.symm.trans hm'
  cases funD_one F F'
  exact fnOk_nox ok
/-! ### the head's facts -/
theorem says_d {fa : List He.Fa} {fn : List He.DefD} {ex : PySem.W.Frag → Bool} {w : World} {h : Heap} {K : PySem.W.Frag} (c : He.SaysX fa fn [] [] ex w h K) : He.SaysD fa fn K := congrArg Prod.fst c.t
end Mi
end part_Mi12
section part_Mi13
set_option maxRecDepth 100000
set_option maxHeartbeats 2000000
/-! Mi, part 13: two roads to one expression; objects: made, read, written, their methods. -/
namespace Mi
open PySem PySem.Spec PyProof.Rows L2
section
variable {X : Cx} {K : PySem.W.Frag} {mg : Str → Option Value} {W : WX} {g g' : G} {σ : L2.St} {Q : VK} {D : Ends}
variable {a b c e : Expr} {ma mb mc me mt m1' m2' : ME} {mr mk : MA} {pos p apos : Pos} {es : List Expr} {x : Str} {m m' : MS} {st : Stmt} {sts : List Stmt} {kws : List Keyword}
/-! ### alternatives -/
def R.orElse (r r' : R) : R := match r with
  | .stuck => r'
  | r => r
def mAlt (ma mb : ME) : ME := fun s h => (ma s h).orElse (mb s h)
theorem se_alt (ha : SE X W e ma) (hb : SE X W e mb) : SE X W e (mAlt ma mb) := by
  refine ⟨fun pins s σ H Q I h => ?_⟩
  obtain ⟨g, t, e1, R, S, h⟩ := h
  unfold mAlt at h
  cases q : ma t g.h with
  | ok u h1 => rw [q] at h; exact ha.run pins s σ H Q I ⟨g, t, e1, R, S, by rw [q]; exact h⟩
  | ex y h1 => rw [q] at h; exact ha.run pins s σ H Q I ⟨g, t, e1, R, S, by rw [q]; exact h⟩
  | stuck => rw [q] at h; exact hb.run pins s σ H Q I ⟨g, t, e1, R, S, h⟩
theorem st_alt (ha : ST X W e ma) (hb : ST X W e mb) : ST X W e (mAlt ma mb) := by
  refine ⟨fun pins s σ H Q I h => ?_⟩
  obtain ⟨g, t, e1, R, S, h⟩ := h
  unfold mAlt at h
  cases q : ma t g.h with
  | ok u h1 => rw [q] at h; exact ha.run pins s σ H Q I ⟨g, t, e1, R, S, by rw [q]; exact h⟩
  | ex y h1 => rw [q] at h; exact ha.run pins s σ H Q I ⟨g, t, e1, R, S, by rw [q]; exact h⟩
  | stuck => rw [q] at h; exact hb.run pins s σ H Q I ⟨g, t, e1, R, S, h⟩
/-! ### the attributes of an object -/
def fldOf (f : Str) : List Str → List T → Option T
  | n :: ns, t :: ts => if n = f then some t else fldOf f ns ts
  | _, _ => none
def putOf (f : Str) (y : T) : List Str → List T → List Str × List T
  | n :: ns, t :: ts => if n = f then (n :: ns, y :: ts) else (n :: (putOf f y ns ts).1, t :: (putOf f y ns ts).2)
  | _, _ => ([f], [y])
/-- class, names, values of an object, changeable or not -/
def objOf (t : T) (h : MH) : Option (Str × List Str × List T) := match t with
  | .obj c ns ts => some (c, ns, ts)
  | .ref i => match h[i]? with
    | some (.ins c ns ts) => some (c, ns, ts)
    | _ => none
  | _ => none
theorem obj_of {t : T} {v : V} {c : Str} {ns : List Str} {ts : List T} (R : Rel K mg g) (r : Rep K mg g t v) (h : objOf t g.h = some (c, ns, ts)) :
    ∃ p C dx fs, v = .ref p ∧ g.H p = some (.ins C dx fs) ∧ mg c = some (.ref C) ∧ fs.map (·.1) = ns ∧ RepL K mg g ts (fs.map (·.2)) := by
  unfold objOf at h
  cases t with
  | obj c' ns' ts' =>
    cases h
    simp only [Rep] at r
    obtain ⟨p, C, dx, fs, e1, ⟨h1, _⟩, e2, e3, h2⟩ := r
    exact ⟨p, C, dx, fs, e1, h1, e2, e3, h2⟩
  | ref i =>
    dsimp only at h
    split at h
    · rename_i c' ns' ts' q
      cases h
      simp only [Rep] at r
      obtain ⟨p, rfl, hp⟩ := r
      obtain ⟨C, dx, fs, h1, h2, h3, h4⟩ := R.obj i p _ hp q
      exact ⟨p, C, dx, fs, rfl, h1, h2, h3, h4⟩
    · cases h
  | _ => cases h
theorem fld_of {f : Str} : ∀ {ns : List Str} {ts : List T} {fs : List (Str × V)} {t : T}, fs.map (·.1) = ns → RepL K mg g ts (fs.map (·.2)) → fldOf f ns ts = some t → ∃ v, fs.lookup f = some v ∧ Rep K mg g t v
  | [], ts, fs, t, _, _, h => by simp [fldOf] at h
  | n :: ns, [], fs, t, _, _, h => by simp [fldOf] at h
  | n :: ns, u :: ts, [], t, e, _, _ => by cases e
  | n :: ns, u :: ts, (k, y) :: fs, t, e, r, h => by
    rw [List.map_cons] at e r
    injection e with e1 e2
    have e1 : k = n := e1
    subst e1
    simp only [RepL] at r
    obtain ⟨v, w, q, r1, r2⟩ := r
    injection q with q1 q2
    subst q1 q2
    unfold fldOf at h
    split at h
    · rename_i z
      subst z
      cases h
      exact ⟨y, by simp [List.lookup_cons], r1⟩
    · rename_i z
      obtain ⟨v', h1, h2⟩ := fld_of e2 r2 h
      exact ⟨v', by rw [List.lookup_cons]; simp [show (f == k) = false from beq_eq_false_iff_ne.mpr (Ne.symm z), h1], h2⟩
theorem put_of {f : Str} {y : T} {w : V} (rw' : Rep K mg g y w) : ∀ {ns : List Str} {ts : List T} {fs : List (Str × V)}, fs.map (·.1) = ns → RepL K mg g ts (fs.map (·.2)) →
    (putF f w fs).map (·.1) = (putOf f y ns ts).1 ∧ RepL K mg g (putOf f y ns ts).2 ((putF f w fs).map (·.2))
  | [], ts, [], _, r => ⟨rfl, RepL.cons rw' RepL.nil⟩
  | [], ts, _ :: _, e, _ => by cases e
  | _ :: _, _, [], e, _ => by cases e
  | n :: ns, [], (k, z) :: fs, _, r => by
    have := r.length
    simp at this
  | n :: ns, u :: ts, (k, z) :: fs, e, r => by
    rw [List.map_cons] at e r
    injection e with e1 e2
    have e1 : k = n := e1
    subst e1
    simp only [RepL] at r
    obtain ⟨v, w', q, r1, r2⟩ := r
    injection q with q1 q2
    subst q1 q2
    obtain ⟨h1, h2⟩ := put_of rw' e2 r2
    unfold putF putOf
    by_cases c : k = f
    · rw [if_pos c, if_pos c]
      exact ⟨by rw [List.map_cons, e2], RepL.cons rw' r2⟩
    · rw [if_neg c, if_neg c]
      exact ⟨by rw [List.map_cons, h1], RepL.cons r1 h2⟩
def fFld (cs : List Str) (f : Str) : T → MH → R := fun t h => match objOf t h with
  | some (c, ns, ts) => if cs.contains c then (match fldOf f ns ts with
    | some u => .ok u h
    | none => .stuck) else .stuck
  | none => .stuck
/-- what the classes must be for their attributes to be read plainly -/
def FldC (K : PySem.W.Frag) (mg : Str → Option Value) (cs : List Str) (f : Str) : Prop := ∀ c ∈ cs, ∀ C, mg c = some (.ref C) → Cls K C ∧ NoAttr K C f
theorem se_fld {cs : List Str} {f : Str} (hC : FldC X.K X.mg cs f) (ha : SE X W a ma) (hb : attributeBase a f X.env (eval a X.env) = eval a X.env := by rfl) : SE X W (.Attribute a f pos) (m1 (fFld cs f) ma) := by
  refine weakE (pe_fld ha hb) ?_
  rintro σ H Q ⟨g, s, rfl, R, S, h⟩
  refine ⟨g, s, rfl, R, S, wpR_bind h fun g1 t v e1 R1 r1 h1 => ?_⟩
  unfold fFld at h1
  split at h1
  · rename_i cc ns ts q
    split at h1
    · rename_i hc
      split at h1
      · rename_i u hu
        obtain ⟨p, C, dx, fs, rfl, hp, hm, e3, l1⟩ := obj_of R1 r1 q
        obtain ⟨w, h2, r2⟩ := fld_of e3 l1 hu
        obtain ⟨c1, c2⟩ := hC cc (by simpa using hc) C hm
        exact ⟨p, C, dx, fs, w, rfl, hp, c1, c2, h2, wpR_here h1 R1 r2⟩
      · exact h1.elim
    · exact h1.elim
  · exact h1.elim
/-- o.f = v of a changeable object -/
def mFldS (cs : List Str) (f : Str) (mo mv : ME) : MS := fun s h => (mv s h).toS s fun y h1 => (mo s h1).toS s fun o h2 => match o with
  | .ref i => match h2[i]? with
    | some (.ins c ns ts) => if cs.contains c && decide (ns.length < 900) then .nx s (h2.set i (.ins c (putOf f y ns ts).1 (putOf f y ns ts).2)) else .stuck
    | _ => .stuck
  | _ => .stuck
theorem ss_fld {cs : List Str} {f : Str} {pos' : Pos} (hC : FldC X.K X.mg cs f) (ha : SE X W a ma) (hb : SE X W b mb) (hs : swapsWith b (some (.Attribute a f pos')) pos.line X.env = pure false := by rfl) : SS X W (.Assign [.Attribute a f pos'] b pos) (mFldS cs f ma mb) := by
  refine weakS (ps_fld ha hb hs) ?_
  rintro D σ H ⟨g, s, rfl, R, S, h⟩
  refine ⟨g, s, rfl, R, S, wpS_bind S h fun g1 y w e1 R1 r1 h1 => ⟨g1, s, rfl, R1, S.mono e1, wpS_bind (S.mono e1) h1 fun g2 o v e2 R2 r2 h2 => ?_⟩⟩
  cases o with
  | ref i =>
    dsimp only at h2
    split at h2
    · rename_i cc ns ts q
      split at h2
      · rename_i z
        rw [Bool.and_eq_true, decide_eq_true_eq] at z
        simp only [Rep] at r2
        obtain ⟨p, rfl, hp⟩ := r2
        obtain ⟨C, dx, fs, hH, hm, e3, l1⟩ := R2.obj i p _ hp q
        obtain ⟨c1, c2⟩ := hC cc (by simpa using z.1) C hm
        have hl : fs.length < 1000 := by
          have e4 : fs.length = ns.length := by rw [← e3, List.length_map]
          omega
        refine ⟨p, C, dx, fs, rfl, hH, c1, c2, hl, ?_⟩
        have ry := r1.mono e2
        obtain ⟨g3, z1, z2, ex, R'⟩ := R2.put (o' := .ins cc (putOf f y ns ts).1 (putOf f y ns ts).2) (ho := .ins C dx (putF f w fs)) hp q (by intro z; cases z) (by intro z; cases z) (fun g4 s4 hq => by
          obtain ⟨k1, k2⟩ := put_of (Rep.sub s4 y w ry) e3 (l1.sub s4)
          exact ⟨C, dx, _, hq, hm, k1, k2⟩)
        rw [← z1]
        exact h2 g3 σ z2 ex R' (((S.mono e1).mono e2).mono ex)
      · exact h2.elim
    · exact h2.elim
  | _ => exact h2.elim
end
end Mi
end part_Mi13
section part_Mi14
set_option maxRecDepth 100000
set_option maxHeartbeats 2000000
/-! Mi, part 14: defs with defaults; methods, instances made, by position and by keywords. -/
namespace Mi
open PySem PySem.Spec PyProof.Rows L2
/-! ### what a def object is -/
structure FnH (P : Program) (w : World) (K : PySem.W.Frag) (mg : Str → Option Value) (base : Heap) (k : Nat) (x qual : Str) (st : Stmt) (ps : List Str) (dts : List T) (m : MF) (f : Addr) (fd : FuncData) (dvs : List V) : Prop where
  F : FunD K x qual (defArgs st) (defBody st) (defScope st) dvs [] f fd
  dl : dvs.length = dts.length
  dr : ∀ g, RepL K mg g dts dvs
  ok : FnOk P w K mg base (L2.CX P w) k f fd ps (spM K mg ps.length m)
theorem FnH.up {P : Program} {w : World} {K : PySem.W.Frag} {mg : Str → Option Value} {base : Heap} {j k : Nat} {x qual : Str} {st : Stmt} {ps : List Str} {dts : List T} {m : MF} {f : Addr} {fd : FuncData} {dvs : List V} (h : FnH P w K mg base j x qual st ps dts m f fd dvs) (l : j ≤ k) : FnH P w K mg base k x qual st ps dts m f fd dvs := ⟨h.F, h.dl, h.dr, h.ok.mono l⟩
/-- a def of the module -/
def HasG (P : Program) (w : World) (K : PySem.W.Frag) (mg : Str → Option Value) (base : Heap) (k : Nat) (x qual : Str) (st : Stmt) (ps : List Str) (dts : List T) (m : MF) : Prop :=
  ∃ f fd dvs, mg x = some (.ref f) ∧ FnH P w K mg base k x qual st ps dts m f fd dvs
/-- a method of the class -/
def HasM (P : Program) (w : World) (K : PySem.W.Frag) (mg : Str → Option Value) (base : Heap) (k : Nat) (c x qual : Str) (st : Stmt) (ps : List Str) (dts : List T) (m : MF) : Prop :=
  ∃ C f fd dvs, mg c = some (.ref C) ∧ Cls K C ∧ Meth K C x f ∧ FnH P w K mg base k x qual st ps dts m f fd dvs
/-- its __init__ -/
def HasI (P : Program) (w : World) (K : PySem.W.Frag) (mg : Str → Option Value) (base : Heap) (k : Nat) (c qual : Str) (st : Stmt) (ps : List Str) (dts : List T) (m : MF) : Prop :=
  ∃ C f fd dvs, mg c = some (.ref C) ∧ Mk K C f ∧ FnH P w K mg base k "__init__" qual st ps dts m f fd dvs
/-- a property -/
def HasP (P : Program) (w : World) (K : PySem.W.Frag) (mg : Str → Option Value) (base : Heap) (k : Nat) (c x qual : Str) (st : Stmt) (m : MF) : Prop :=
  ∃ C p f fd dvs, mg c = some (.ref C) ∧ Cls K C ∧ PropOf K C x p f ∧ FnH P w K mg base k x qual st ["self"] [] m f fd dvs
/-- n values are written, the defaults behind the first j fill up -/
def PosD (st : Stmt) (x qual : Str) (ps : List Str) (nd n j : Nat) : Prop := ∀ (dV kV doc pm : Value) (an : Option Addr) (cdv ct : Value) (us its : List Value), us.length = n → its.length = nd →
  if nd = 0 then bindArgs (PySem.W.fnOf x qual (defArgs st) (defBody st) (defScope st) .none kV doc pm an cdv ct) ⟨us, []⟩ = pure (ps.zip us)
  else ∀ T, ∃ k, bindArgs (PySem.W.fnOf x qual (defArgs st) (defBody st) (defScope st) (.ref T) kV doc pm an cdv ct) ⟨us, []⟩ = seqItems? (.ref T) >>= k ∧ k (some its.toArray) = pure (ps.zip (us ++ its.drop j))
section
variable {X : Cx} {K : PySem.W.Frag} {mg : Str → Option Value} {W : WX} {g g' : G} {σ : L2.St} {Q : VK} {D : Ends}
variable {a b c e : Expr} {ma mb mc me mt : ME} {mr mk : MA} {pos p apos : Pos} {es : List Expr} {x : Str} {kws : List Keyword}
theorem posD_binds {qual : Str} {st : Stmt} {ps : List Str} {dts : List T} {m : MF} {f : Addr} {fd : FuncData} {dvs : List V} {P : Program} {w : World} {base : Heap} {k n j : Nat} (h : FnH P w K mg base k x qual st ps dts m f fd dvs) (hb : PosD st x qual ps dts.length n j) (hn : n + (dts.length - j) = ps.length) :
    ∃ ds, Vals (dvs.drop j) ds ∧ Binds K fd ps ds := by
  by_cases z : dts.length = 0
  · have hd : dvs = [] := List.eq_nil_of_length_eq_zero (h.dl.trans z)
    have F := h.F
    subst hd
    refine ⟨[], by simp; exact .nil, F.bindsN fun kV doc pm an cdv ct us hl => ?_⟩
    have := hb .none kV doc pm an cdv ct us [] (by omega) z.symm
    rw [if_pos z] at this
    exact this
  · have hd : dvs ≠ [] := fun e => z (by rw [← h.dl, e]; rfl)
    refine h.F.binds1 n j hd (by rw [h.dl]; exact hn) fun T kV doc pm an cdv ct us its hl hi => ?_
    have := hb .none kV doc pm an cdv ct us its hl (by rw [hi, h.dl])
    rw [if_neg z] at this
    exact this T
theorem repL_drop {ts : List T} {vs : List V} (r : RepL K mg g ts vs) (j : Nat) : RepL K mg g (ts.drop j) (vs.drop j) := r.drop j
/-! ### the callee runs -/
section
variable {CX : CXT} {k : Nat} {f C : Addr} {fd : FuncData} {ps ks : List Str} {sp : Sp} {E : XK} {dvs vs zs : List V} {ds us ws : List Value} {pins : List (Addr × Obj)} {H : Hp} {s : Shared}
theorem code_at {A : Around} {args : Args} (F : FnOk X.prog X.w X.K X.mg X.base CX k f fd ps sp) (hr : Room k A) (e0 : Env0 X.prog X.w X.K X.mg X.base A X.stack s H) (hx : PassesAt CX X σ E) (I : Inv X pins σ H s) (hb : BindsTo s fd args (ps.zip us)) (r : Vals vs us) (h : sp vs H Q E) :
    codeAny (model X.prog X.w) A (.call (.ref f) args) (fun r s' => match r with | .ok (.ret u) => EP X pins σ Q u s' | .ok _ => False | .error e => X.xe e s') s := by
  refine codeAny_mono (F.run A X.stack s H args us vs Q E hr e0 hb r h) fun q s' hq => ?_
  cases q with
  | error e => exact hx pins H s e s' I hq
  | ok fl => cases fl with
    | ret u => exact I.after hq
    | _ => exact hq.elim
theorem run_at {args : Args} (F : FnOk X.prog X.w X.K X.mg X.base CX k f fd ps sp) (hr : Room k X.A) (hx : PassesAt CX X σ E) (I : Inv X pins σ H s) (hb : BindsTo s fd args (ps.zip us)) (r : Vals vs us) (h : sp vs H Q E) :
    wpAny (model X.prog X.w) X.A (call (.ref f) args.pos args.kw) (EP X pins σ Q) X.xe s := by
  refine wpAny_call (codeAny_mono (code_at F hr I.env0 hx I hb r h) fun q s' hq => ?_)
  cases q with
  | error e => exact hq
  | ok fl => cases fl <;> exact hq
/-- an instance is made: the binds are told at every heap -/
theorem make_at (M : Mk X.K C f) (F : FnOk X.prog X.w X.K X.mg X.base CX k f fd ps sp) (hr : Room (k + 1) X.A) (hx : PassesAt CX X σ E) (I : Inv X pins σ H s) (g : Value → List Value) (gV : V → List V) (kw : List (Str × Value))
    (hb : ∀ (s' : Shared) (u : Value), X.K.In s'.heap → BindsTo s' fd ⟨u :: us, kw⟩ (ps.zip (g u))) (r : ∀ (x : V) (u : Value), RelV x u → Vals (gV x) (g u))
    (h : ∀ x dx, H x = none → H dx = none → dx ≠ x → sp (gV (.ref x)) (upd (upd H dx (.own x)) x (.ins C dx [])) (fun v H2 => v = .non ∧ Q (.ref x) H2) E) :
    wpAny (model X.prog X.w) X.A (call (.ref C) us kw) (EP X pins σ Q) X.xe s := by
  have hq := h (s.heap.objs.size + 1) s.heap.objs.size (I.hok.fresh (Nat.le_succ _)) (I.hok.fresh (Nat.le_refl _)) (Nat.ne_of_lt (Nat.lt_succ_self _))
  have I2 := Inv.made (C := C) I
  have z := code_at F (hr.make C us kw) (I2.env0.make C us kw) hx I2 (hb _ (Value.ref (s.heap.objs.size + 1)) I2.kIn) (r (V.ref (s.heap.objs.size + 1)) _ rfl) hq
  refine wpAny_call (make_map (f := f) I.kIn M.makes M.init (beq_iff_eq.mp M.fn) (codeAny_mono z fun q s' hq' => ?_))
  cases q with
  | error e => exact hq'
  | ok fl => cases fl with
    | ret u =>
      obtain ⟨v, H', I3, rv, ev, q3⟩ := hq'
      subst ev
      exact ⟨rv, ⟨V.ref (s.heap.objs.size + 1), H', I3, rfl, q3⟩⟩
    | _ => exact hq'.elim
end
end
end Mi
end part_Mi14
section part_Mi15
set_option maxRecDepth 100000
set_option maxHeartbeats 2000000
/-! Mi, part 15: the rules for methods, instances, properties, defs with defaults. -/
namespace Mi
open PySem PySem.Spec PyProof.Rows L2
section
variable {X : Cx} {K : PySem.W.Frag} {mg : Str → Option Value} {W : WX} {g g' : G} {σ : L2.St} {Q : VK} {D : Ends}
variable {a b e : Expr} {ma mb mc me mt : ME} {mr mk : MA} {pos p apos : Pos} {es : List Expr} {c x : Str} {kws : List Keyword}
variable {k n j : Nat} {qual : Str} {st : Stmt} {ps ks : List Str} {dts : List T} {mf : MF} {fm : List T → MH → R}
abbrev HasMX (X : Cx) := HasM X.prog X.w X.K X.mg X.base
abbrev HasIX (X : Cx) := HasI X.prog X.w X.K X.mg X.base
abbrev HasGX (X : Cx) := HasG X.prog X.w X.K X.mg X.base
abbrev HasPX (X : Cx) := HasP X.prog X.w X.K X.mg X.base
def isOf (c m : Str) (t : T) (h : MH) : Bool := match objOf t h with
  | some (c', ns, _) => decide (c' = c) && !ns.contains m
  | none => false
theorem lookup_no {m : Str} : ∀ {fs : List (Str × V)}, m ∉ fs.map (·.1) → fs.lookup m = none
  | [], _ => rfl
  | (k, y) :: fs, h => by
    rw [List.map_cons, List.mem_cons] at h
    rw [List.lookup_cons, show (m == k) = false from beq_eq_false_iff_ne.mpr fun z => h (.inl z)]
    exact lookup_no fun z => h (.inr z)
theorem isOf_at {t : T} {v : V} {m : Str} (R : Rel K mg g) (r : Rep K mg g t v) (h : isOf c m t g.h = true) : ∃ p C dx fs, v = .ref p ∧ g.H p = some (.ins C dx fs) ∧ mg c = some (.ref C) ∧ fs.lookup m = none := by
  unfold isOf at h
  split at h
  · rename_i c' ns ts q
    obtain ⟨p, C, dx, fs, e1, h1, h2, h3, _⟩ := obj_of R r q
    rw [Bool.and_eq_true, decide_eq_true_eq] at h
    obtain ⟨z1, z2⟩ := h
    subst z1
    refine ⟨p, C, dx, fs, e1, h1, h2, ?_⟩
    have z3 : m ∉ fs.map (·.1) := by
      rw [h3]
      simpa using z2
    exact lookup_no z3
  · cases h
/-- o.m(e, ..) -/
def mMeth (c m : Str) (dts : List T) (fm : List T → MH → R) (mo : ME) (mr : MA) : ME := fun s h => (mo s h).bind fun t h1 => if isOf c m t h1 then (mr s h1).bind fun ts h2 => fm (t :: (ts ++ dts)) h2 else .stuck
theorem se_meth {pl : Sem Bool} (Hm : HasMX X k c x qual st ps dts mf) (hr : Room k X.A) (tk : Takes X W) (cl : Calls2 X W ps.length mf fm) (hb : PosD st x qual ps dts.length n j) (hn : n + (dts.length - j) = ps.length) (ho : SE X W a ma) (ha : SA X W (e :: es) mr)
    (hst : starEach (e :: es) X.env = (false, eval e X.env) :: starEach es X.env := by rfl) (hpl : (backTo pos (starEach es X.env)).any (·.1) = false := by rfl)
    (ht : eval (.Call (.Attribute a x apos) (e :: es) [] pos) X.env = (do
      let ov ← eval a X.env
      standAt apos.atName
      let (f, first) ← holding [ov] (getMethod ov x pl)
      callWith pos f first (backTo pos (starEach (e :: es) X.env)) (backToKw pos (keywordEach [] X.env))) := by rfl) :
    SE X W (.Call (.Attribute a x apos) (e :: es) [] pos) (mMeth c x (dts.drop j) fm ma mr) := by
  obtain ⟨C, f, fd, dvs, hC, hcl, hme, hf⟩ := Hm
  obtain ⟨ds, hd, hbs⟩ := posD_binds hf hb hn
  refine ⟨fun pins s σ H Q I h => ?_⟩
  obtain ⟨g, s0, rfl, R, S, h⟩ := h
  refine PySem.W.methodCall_KW (pl := pl) (thn (ho.run pins s σ g.H _ I ⟨g, s0, rfl, R, S, wpR_bind (Q := Q) h (Q' := fun v H1 => ∃ g1 t, g1.H = H1 ∧ Ext g g1 ∧ Rel X.K X.mg g1 ∧ Rep X.K X.mg g1 t v ∧ wpR X.K X.mg W g1 σ Q (if isOf c x t g1.h then (mr s0 g1.h).bind fun ts h2 => fm (t :: (ts ++ dts.drop j)) h2 else .stuck)) fun g1 t v e1 R1 r1 h1 => ⟨g1, t, rfl, e1, R1, r1, h1⟩⟩)
    fun u s1 ⟨v, H1, I1, rv, g1, t, eH, e1, R1, r1, h1⟩ => ?_) ht
  subst eH
  split at h1
  · rename_i q
    obtain ⟨p1, C1, dx, fs, rfl, hp, hc1, hl⟩ := isOf_at R1 r1 q
    have z : C1 = C := by rw [hC] at hc1; cases hc1; rfl
    subst z
    cases (show u = Value.ref p1 from rv)
    refine getmeth_ok I1 hp hcl hme hl ?_
    refine PySem.W.callWith_K (first := [.ref p1]) (h₀ := X.base) I1.ok.mod.kin hme.kp (thn (ha.run pos pins s1 σ g1.H _ I1 ⟨g1, s0, rfl, R1, S.mono e1, wpL_of h1 (Q' := fun vs H2 => spM X.K X.mg ps.length mf (V.ref p1 :: (vs ++ dvs.drop j)) H2 Q (WE W σ)) fun g2 ts vs e2 R2 r2 h2 => ?_⟩) fun us s2 ⟨vs, H2, I2, r2, q2⟩ => ⟨I2.kIn, ?_⟩) hst hpl
    · exact cl g2 σ (t :: (ts ++ dts.drop j)) (V.ref p1 :: (vs ++ dvs.drop j)) Q R2 (RepL.cons (r1.mono e2) (r2.append ((hf.dr g2).drop j))) h2
    · have rr : Vals (V.ref p1 :: (vs ++ dvs.drop j)) (Value.ref p1 :: (us ++ ds)) := .cons rfl (r2.append hd)
      have hl2 : ((Value.ref p1 :: us) ++ ds).length = ps.length := by
        have := spM_len q2
        rw [← this]
        exact rr.length.symm
      exact run_at (args := ⟨Value.ref p1 :: us, []⟩) hf.ok hr (passAt tk σ) I2 (hbs s2 (Value.ref p1 :: us) I2.kIn hl2) rr q2
  · exact h1.elim
/-- o.m() -/
theorem se_meth0 {pl : Sem Bool} (Hm : HasMX X k c x qual st ps dts mf) (hr : Room k X.A) (tk : Takes X W) (cl : Calls2 X W ps.length mf fm) (hb : PosD st x qual ps dts.length n j) (hn : n + (dts.length - j) = ps.length) (ho : SE X W a ma)
    (ht : eval (.Call (.Attribute a x apos) [] [] pos) X.env = (do
      let ov ← eval a X.env
      standAt apos.atName
      let (f, first) ← holding [ov] (getMethod ov x pl)
      callWith pos f first (backTo pos (starEach [] X.env)) (backToKw pos (keywordEach [] X.env))) := by rfl) :
    SE X W (.Call (.Attribute a x apos) [] [] pos) (mMeth c x (dts.drop j) fm ma aNil) := by
  obtain ⟨C, f, fd, dvs, hC, hcl, hme, hf⟩ := Hm
  obtain ⟨ds, hd, hbs⟩ := posD_binds hf hb hn
  refine ⟨fun pins s σ H Q I h => ?_⟩
  obtain ⟨g, s0, rfl, R, S, h⟩ := h
  refine PySem.W.methodCall_KW (pl := pl) (thn (ho.run pins s σ g.H _ I ⟨g, s0, rfl, R, S, wpR_bind (Q := Q) h (Q' := fun v H1 => ∃ g1 t, g1.H = H1 ∧ Ext g g1 ∧ Rel X.K X.mg g1 ∧ Rep X.K X.mg g1 t v ∧ wpR X.K X.mg W g1 σ Q (if isOf c x t g1.h then (aNil s0 g1.h).bind fun ts h2 => fm (t :: (ts ++ dts.drop j)) h2 else .stuck)) fun g1 t v e1 R1 r1 h1 => ⟨g1, t, rfl, e1, R1, r1, h1⟩⟩)
    fun u s1 ⟨v, H1, I1, rv, g1, t, eH, e1, R1, r1, h1⟩ => ?_) ht
  subst eH
  split at h1
  · rename_i q
    obtain ⟨p1, C1, dx, fs, rfl, hp, hc1, hl⟩ := isOf_at R1 r1 q
    have z : C1 = C := by rw [hC] at hc1; cases hc1; rfl
    subst z
    cases (show u = Value.ref p1 from rv)
    refine getmeth_ok I1 hp hcl hme hl ?_
    have q2 := cl g1 σ (t :: ([] ++ dts.drop j)) (V.ref p1 :: dvs.drop j) Q R1 (RepL.cons r1 ((hf.dr g1).drop j)) h1
    have rr : Vals (V.ref p1 :: dvs.drop j) (Value.ref p1 :: ds) := .cons rfl hd
    have hl2 : ([Value.ref p1] ++ ds).length = ps.length := by
      have := spM_len q2
      rw [← this]
      exact rr.length.symm
    exact PySem.W.callWith_K0 (first := [.ref p1]) I1.kIn hme.kp (run_at (args := ⟨[Value.ref p1], []⟩) hf.ok hr (passAt tk σ) I1 (hbs s1 [Value.ref p1] I1.kIn hl2) rr q2)
  · exact h1.elim
/-! ### C(e, ..) -/
/-- made; frz: the object is a value from now on -/
def fMk (frz : Bool) (c : Str) (mf : MF) (dts : List T) : List T → MH → R := fun ts h => match mf (.ref h.length :: (ts ++ dts)) (h ++ [.ins c [] []]) with
  | .ok .non h2 => if frz then .ok (fzT (.ref h.length) h2).1 (fzT (.ref h.length) h2).2 else .ok (.ref h.length) h2
  | .ex y h2 => .ex y h2
  | _ => .stuck
theorem make_use {frz : Bool} {C x1 dx : Addr} {ts dt : List T} {vs dv : List V} {nn : Nat} (R : Rel K mg g) (r : RepL K mg g ts vs) (rd : ∀ g, RepL K mg g dt dv) (hC : mg c = some (.ref C)) (hx : g.H x1 = none) (hdx : g.H dx = none) (ne : dx ≠ x1) (hn : (ts ++ dt).length + 1 = nn)
    (h : wpR K mg W g σ Q (fMk frz c mf dt ts g.h)) : spM K mg nn mf (.ref x1 :: (vs ++ dv)) (upd (upd g.H dx (.own x1)) x1 (.ins C dx [])) (fun v H2 => v = .non ∧ Q (.ref x1) H2) (WE W σ) := by
  have e0 : Ext g (g.lay dx (.own x1)) := lay_ext R hdx
  have R0 : Rel K mg (g.lay dx (.own x1)) := R.lay hdx
  have hx0 : (g.lay dx (.own x1)).H x1 = none := by
    show upd g.H dx (.own x1) x1 = none
    rw [upd_ne (Ne.symm ne)]; exact hx
  obtain ⟨g1, e1, e2, ex, R1, rr⟩ := ref_lay (o := .ins c [] []) (ho := .ins C dx []) R0 hx0 (fun g2 s2 hq => ⟨C, dx, [], hq, hC, rfl, RepL.nil⟩) (by intro z; cases z)
  refine ⟨g1, .ref g.h.length :: (ts ++ dt), e1, R1, RepL.cons rr ((((r.mono e0).mono ex)).append (rd g1)), by rw [List.length_cons]; exact hn, ?_⟩
  have e3 : g1.h = g.h ++ [.ins c [] []] := e2
  rw [e3]
  unfold fMk at h
  have eg : Ext g g1 := e0.trans ex
  cases q : mf (.ref g.h.length :: (ts ++ dt)) (g.h ++ [.ins c [] []]) with
  | ok t h2 =>
    rw [q] at h
    cases t with
    | non =>
      intro g' v eh eg' R' rv
      have eh : g'.h = h2 := eh
      refine ⟨rep_non rv, ?_⟩
      have rx : Rep K mg g' (.ref g.h.length) (.ref x1) := rr.mono eg'
      dsimp only at h
      cases frz with
      | false => exact h g' (.ref x1) eh (eg.trans eg') R' rx
      | true =>
        obtain ⟨g'', z1, z2, z3, z4, z5⟩ := fz_ok R' rx
        rw [← z1]
        rw [if_pos rfl] at h
        exact h g'' (.ref x1) (by rw [z2, eh]) ((eg.trans eg').trans z3) z4 (by rw [← eh]; exact z5)
    | _ => exact h.elim
  | ex y h2 =>
    rw [q] at h
    exact fun g' cls d eh eg' R' rx => h g' cls d eh (eg.trans eg') R' rx
  | stuck => rw [q] at h; exact h.elim
def fMkN (nn : Nat) (f : List T → MH → R) : List T → MH → R := fun ts h => if ts.length = nn then f ts h else .stuck
theorem se_make {frz : Bool} (Hi : HasIX X k c qual st ps dts mf) (hr : Room (k + 1) X.A) (tk : Takes X W) (hb : PosD st "__init__" qual ps dts.length n j) (hn : n + (dts.length - j) = ps.length) (h1n : 1 ≤ n) (ha : SA X W (e :: es) mr) (hg : Gl X c := by rfl)
    (hdb : (c == ("__debug__" : Str)) = false := by decide) (he : starEach (e :: es) X.env = (false, eval e X.env) :: starEach es X.env := by rfl) (hpl : (backTo pos (starEach es X.env)).any (·.1) = false := by rfl) :
    SE X W (.Call (.Name c p) (e :: es) [] pos) (mA (fMkN (n - 1) (fMk frz c mf (dts.drop j))) mr) := by
  obtain ⟨C, f, fd, dvs, hC, M, hf⟩ := Hi
  obtain ⟨ds, hd, hbs⟩ := posD_binds hf hb hn
  refine ⟨fun pins s σ H Q I h => ?_⟩
  obtain ⟨g, s0, rfl, R, S, h⟩ := h
  refine wpAny_Call_Name_kw (ld_glob I hg hC ?_ hdb)
  refine PySem.W.callWith_K (h₀ := X.base) I.ok.mod.kin M.kp (thn (ha.run pos pins s σ g.H _ I ⟨g, s0, rfl, R, S, wpL_of h (Q' := fun vs H1 => vs.length = n - 1 ∧ ∀ x1 dx, H1 x1 = none → H1 dx = none → dx ≠ x1 → spM X.K X.mg ps.length mf (.ref x1 :: (vs ++ dvs.drop j)) (upd (upd H1 dx (.own x1)) x1 (.ins C dx [])) (fun v H2 => v = .non ∧ Q (.ref x1) H2) (WE W σ)) fun g1 ts vs e1 R1 r1 h1 => ?_⟩) fun us s1 ⟨vs, H1, I1, r, hv, q⟩ => ⟨I1.kIn, ?_⟩) he hpl
  · unfold fMkN at h1
    split at h1
    · rename_i hl
      refine ⟨r1.length.symm.trans hl, fun x1 dx hx hdx ne => make_use R1 r1 (fun g => (hf.dr g).drop j) hC hx hdx ne ?_ h1⟩
      rw [List.length_append, hl, List.length_drop]
      omega
    · exact h1.elim
  · have hl : us.length = n - 1 := r.length.symm.trans hv
    refine make_at M hf.ok hr (passAt tk σ) I1 (fun u => u :: (us ++ ds)) (fun x => x :: (vs ++ dvs.drop j)) [] (fun s' u ki => hbs s' (u :: us) ki ?_) (fun x u rx => .cons rx (r.append hd)) q
    have h5 := hd.length
    have h6 := hf.dl
    rw [List.length_append, List.length_cons, hl, ← h5, List.length_drop, h6]
    omega
end
end Mi
end part_Mi15
section part_Mi16
set_option maxRecDepth 100000
set_option maxHeartbeats 2000000
/-! Mi, part 16: len, repr, str, in, == of own classes. -/
namespace Mi
open PySem PySem.Spec PyProof.Rows L2
section
variable {X : Cx} {K : PySem.W.Frag} {mg : Str → Option Value} {W : WX} {g g' : G} {σ : L2.St} {Q : VK} {D : Ends}
variable {a b e : Expr} {ma mb mc me mt : ME} {mr mk : MA} {pos p apos : Pos} {es : List Expr} {c x : Str}
variable {k n j : Nat} {qual : Str} {st : Stmt} {ps ks : List Str} {dts : List T} {mf : MF} {fm : List T → MH → R}
/-- an instance of the class -/
def isCls (c : Str) (t : T) (h : MH) : Bool := match objOf t h with
  | some (c', _, _) => decide (c' = c)
  | none => false
theorem isCls_at {t : T} {v : V} (R : Rel K mg g) (r : Rep K mg g t v) (h : isCls c t g.h = true) : ∃ p C dx fs, v = .ref p ∧ g.H p = some (.ins C dx fs) ∧ mg c = some (.ref C) := by
  unfold isCls at h
  split at h
  · rename_i c' ns ts q
    obtain ⟨p, C, dx, fs, e1, h1, h2, h3, _⟩ := obj_of R r q
    rw [decide_eq_true_eq] at h
    subst h
    exact ⟨p, C, dx, fs, e1, h1, h2⟩
  · cases h
/-- the method runs one step below the body -/
theorem run_in1 {A : Around} {f : Addr} {fd : FuncData} {dvs : List V} {pins : List (Addr × Obj)} {s : Shared} {us : List Value} {vs : List V} {H : Hp} (hf : FnH X.prog X.w X.K X.mg X.base k x qual st ps [] mf f fd dvs) (hr : Room k A) (e0 : Env0 X.prog X.w X.K X.mg X.base A X.stack s H) (tk : Takes X W) (hb : PosD st x qual ps 0 ps.length 0) (I : Inv X pins σ H s) (r : Vals vs us)
    (h : spM X.K X.mg ps.length mf vs H Q (WE W σ)) : wpAny (model X.prog X.w) A (call (.ref f) us) (EP X pins σ Q) X.xe s := by
  obtain ⟨ds, hd, hbs⟩ := posD_binds (dts := []) (n := ps.length) (j := 0) hf hb (by simp)
  have dl := hf.dl
  have e1 : dvs = [] := List.eq_nil_of_length_eq_zero dl
  subst e1
  cases hd
  have hl : us.length = ps.length := by rw [← spM_len h]; exact r.length.symm
  have hbt := hbs s us I.kIn (by rw [List.append_nil]; exact hl)
  rw [List.append_nil] at hbt
  refine wpAny_call (codeAny_mono (code_at (args := ⟨us, []⟩) hf.ok hr e0 (passAt tk σ) I hbt r h) fun q s' hq => ?_)
  cases q with
  | error e => exact hq
  | ok fl => cases fl <;> exact hq
def fLenB : T → MH → R := fun t h => match t with
  | .int n => if decide (0 ≤ n) && decide (n < 4611686018427387904) then .ok (.int n) h else .stuck
  | _ => .stuck
def fO1 (c : Str) (fm : List T → MH → R) (fb : T → MH → R) : T → MH → R := fun t h => if isCls c t h then (fm [t] h).bind fb else .stuck
/-- len(o) -/
theorem se_lenO {pa : Pos} (Hm : HasMX X k c "__len__" qual st ps [] mf) (hr : Room (k + 1) X.A) (tk : Takes X W) (cl : Calls2 X W ps.length mf fm) (hb : PosD st "__len__" qual ps 0 ps.length 0) (hm : X.mg "len" = none) (ha : SE X W a ma) (hg : Gl X "len" := by rfl)
    (he : starEach [a] X.env = (false, eval a X.env) :: starEach [] X.env := by rfl) (hpl : (backTo pos (starEach [] X.env)).any (·.1) = false := by rfl) :
    SE X W (.Call (.Name "len" pa) [a] [] pos) (m1 (fO1 c fm fLenB) ma) := by
  obtain ⟨C, f, fd, dvs, hC, hcl, hme, hf⟩ := Hm
  refine ⟨fun pins s σ H Q I h => ?_⟩
  obtain ⟨g, s0, rfl, R, S, h⟩ := h
  have key : tCons (tM X.K X.mg W ma) tNil σ g.H (fun vs H1 => ∃ g1 t v, g1.H = H1 ∧ vs = [v] ∧ Rel X.K X.mg g1 ∧ Rep X.K X.mg g1 t v ∧ wpR X.K X.mg W g1 σ Q (fO1 c fm fLenB t g1.h)) :=
    ⟨g, s0, rfl, R, S, wpR_bind h fun g1 t v e1 R1 r1 h1 => ⟨g1, t, v, rfl, rfl, R1, r1, h1⟩⟩
  refine wpAny_Call_Name_kw (ld_blt (u := .builtin "len") I hg hm (by decide +kernel) ?_ (by decide) (by decide))
  refine PyProof.Rows.callWith_builtin1 (thn ((pa_cons ha pa_nil he).run pos pins s σ g.H _ I key) fun us s1 ⟨vs, H1, I1, r, q⟩ => ?_) he hpl
  · obtain ⟨g1, t, v, rfl, rfl, R1, r1, h1⟩ := q
    unfold fO1 at h1
    split at h1
    · rename_i z
      obtain ⟨p1, C1, dx, fs, rfl, hp, hc1⟩ := isCls_at R1 r1 z
      have z2 : C1 = C := by rw [hC] at hc1; cases hc1; rfl
      subst z2
      cases r with
      | cons r0 rn =>
        cases rn
        rename_i u _
        cases (show u = Value.ref p1 from r0)
        obtain ⟨mA, O, _⟩ := ins_get I1.hok hp
        obtain ⟨od, J, _⟩ := O.look
        obtain ⟨m, hF⟩ := I1.fr
        refine PySem.W.len_K hF I1.ok.mod.kin J hme.at_ hme.fn ?_
        refine wpAny_mono (run_in1 (vs := [V.ref p1]) (Q := fun v H2 => ∃ n : Int, v = .int n ∧ 0 ≤ n ∧ n < 2 ^ 63 ∧ Q (.int n) H2) hf (hr.in1) I1.env0.in1 tk hb I1 (.cons rfl .nil) ?_) (fun w s' hw => ?_) fun _ _ y => y
        · refine cl g1 σ [t] [V.ref p1] _ R1 (RepL.cons r1 RepL.nil) (wpR_bind h1 fun g2 t2 v2 e2 R2 r2 h2 => ?_)
          unfold fLenB at h2
          split at h2
          · rename_i i
            split at h2
            · rename_i w
              rw [Bool.and_eq_true, decide_eq_true_eq, decide_eq_true_eq] at w
              exact ⟨i, rep_int r2, w.1, by omega, wpR_here h2 R2 rInt⟩
            · exact h2.elim
          · exact h2.elim
        · obtain ⟨v3, H3, I3, rv, i, rfl, l1, l2, q3⟩ := hw
          obtain ⟨tk3, e3⟩ := (show ∃ t, w = Value.int i t from rv)
          subst e3
          exact ⟨⟨l1, l2⟩, .int i, H3, I3.tok _, ⟨_, rfl⟩, q3⟩
    · exact h1.elim
def fStrB : T → MH → R := fun t h => match t with
  | .str y => .ok (.str y) h
  | _ => .stuck
/-- repr(o) -/
theorem se_reprO {pa : Pos} (Hm : HasMX X k c "__repr__" qual st ps [] mf) (hr : Room (k + 1) X.A) (tk : Takes X W) (cl : Calls2 X W ps.length mf fm) (hb : PosD st "__repr__" qual ps 0 ps.length 0) (hm : X.mg "repr" = none) (ha : SE X W a ma) (hg : Gl X "repr" := by rfl)
    (he : starEach [a] X.env = (false, eval a X.env) :: starEach [] X.env := by rfl) (hpl : (backTo pos (starEach [] X.env)).any (·.1) = false := by rfl) :
    SE X W (.Call (.Name "repr" pa) [a] [] pos) (m1 (fO1 c fm fStrB) ma) := by
  obtain ⟨C, f, fd, dvs, hC, hcl, hme, hf⟩ := Hm
  refine ⟨fun pins s σ H Q I h => ?_⟩
  obtain ⟨g, s0, rfl, R, S, h⟩ := h
  have key : tCons (tM X.K X.mg W ma) tNil σ g.H (fun vs H1 => ∃ g1 t v, g1.H = H1 ∧ vs = [v] ∧ Rel X.K X.mg g1 ∧ Rep X.K X.mg g1 t v ∧ wpR X.K X.mg W g1 σ Q (fO1 c fm fStrB t g1.h)) :=
    ⟨g, s0, rfl, R, S, wpR_bind h fun g1 t v e1 R1 r1 h1 => ⟨g1, t, v, rfl, rfl, R1, r1, h1⟩⟩
  refine wpAny_Call_Name_kw (ld_blt (u := .builtin "repr") I hg hm (by decide +kernel) ?_ (by decide) (by decide))
  refine PyProof.Rows.callWith_builtin1 (thn ((pa_cons ha pa_nil he).run pos pins s σ g.H _ I key) fun us s1 ⟨vs, H1, I1, r, q⟩ => ?_) he hpl
  · obtain ⟨g1, t, v, rfl, rfl, R1, r1, h1⟩ := q
    unfold fO1 at h1
    split at h1
    · rename_i z
      obtain ⟨p1, C1, dx, fs, rfl, hp, hc1⟩ := isCls_at R1 r1 z
      have z2 : C1 = C := by rw [hC] at hc1; cases hc1; rfl
      subst z2
      cases r with
      | cons r0 rn =>
        cases rn
        rename_i u _
        cases (show u = Value.ref p1 from r0)
        obtain ⟨mA, O, _⟩ := ins_get I1.hok hp
        obtain ⟨od, J, _⟩ := O.look
        obtain ⟨m, hF⟩ := I1.fr
        refine PySem.W.repr_K hr.in1.units0 hF I1.ok.mod.kin J hme.at_ hme.fn ?_
        refine wpAny_mono (run_in1 (vs := [V.ref p1]) (Q := fun v H2 => ∃ n : Str, v = .str n ∧ Q (.str n) H2) hf (hr.in1) I1.env0.in1 tk hb I1 (.cons rfl .nil) ?_) (fun w s' hw => ?_) fun _ _ y => y
        · refine cl g1 σ [t] [V.ref p1] _ R1 (RepL.cons r1 RepL.nil) (wpR_bind h1 fun g2 t2 v2 e2 R2 r2 h2 => ?_)
          unfold fStrB at h2
          split at h2
          · rename_i i
            exact ⟨i, rep_str r2, wpR_here h2 R2 rStr⟩
          · exact h2.elim
        · obtain ⟨v3, H3, I3, rv, i, rfl, q3⟩ := hw
          obtain ⟨tk3, e3⟩ := (show ∃ t, w = Value.str i t from rv)
          subst e3
          exact ⟨.str i, H3, I3, ⟨_, rfl⟩, q3⟩
    · exact h1.elim
/-! ### x in o, o == y -/
def fBlB (neg : Bool) : T → MH → R := fun t h => match t with
  | .bl b => .ok (.bl (if neg then !b else b)) h
  | _ => .stuck
def fInO (neg : Bool) (c : Str) (fm : List T → MH → R) : T → T → MH → R := fun t u h => if isCls c u h then (fm [u, t] h).bind (fBlB neg) else .stuck
theorem inO_ok {neg : Bool} {op : CmpOp} (hop : (neg = false ∧ op = .In) ∨ (neg = true ∧ op = .NotIn)) (Hm : HasMX X k c "__contains__" qual st ps [] mf) (hr : Room k X.A) (tk : Takes X W) (cl : Calls2 X W ps.length mf fm) (hb : PosD st "__contains__" qual ps 0 ps.length 0)
    {t u : T} {v w : V} {y z : Value} {pins : List (Addr × Obj)} {s : Shared} (R : Rel X.K X.mg g) (r1 : Rep X.K X.mg g t v) (r2 : Rep X.K X.mg g u w) (I : Inv X pins σ g.H s) (rv : RelV v y) (rw' : RelV w z) (h : wpR X.K X.mg W g σ Q (fInO neg c fm t u g.h)) :
    wpAny (model X.prog X.w) X.A (compareOp op y z) (EP X pins σ Q) X.xe s := by
  obtain ⟨C, f, fd, dvs, hC, hcl, hme, hf⟩ := Hm
  unfold fInO at h
  split at h
  · rename_i zc
    obtain ⟨p1, C1, dx, fs, rfl, hp, hc1⟩ := isCls_at R r2 zc
    have z2 : C1 = C := by rw [hC] at hc1; cases hc1; rfl
    subst z2
    cases (show z = Value.ref p1 from rw')
    obtain ⟨mA, O, _⟩ := ins_get I.hok hp
    obtain ⟨od, J, _⟩ := O.look
    obtain ⟨m, hF⟩ := I.fr
    have core := run_in1 (A := X.A) (us := [Value.ref p1, y]) (vs := [V.ref p1, v]) (Q := fun r H2 => ∃ b : Bool, r = .bl b ∧ Q (.bl (if neg then !b else b)) H2) hf hr I.env0 tk hb I (.cons rfl (.cons rv .nil)) (by
      refine cl g σ [u, t] [V.ref p1, v] _ R (RepL.cons r2 (RepL.cons r1 RepL.nil)) (wpR_bind h fun g2 t2 v2 e2 R2 r2 h2 => ?_)
      unfold fBlB at h2
      split at h2
      · rename_i b
        exact ⟨b, rep_bl r2, wpR_here h2 R2 rBl⟩
      · exact h2.elim)
    rcases hop with ⟨rfl, rfl⟩ | ⟨rfl, rfl⟩
    · refine PySem.W.in_K hF I.ok.mod.kin J hme.at_ hme.fn (wpAny_mono core (fun r s' hq => ?_) fun _ _ y => y)
      obtain ⟨v3, H3, I3, rv3, b, rfl, q3⟩ := hq
      cases rv3
      exact wpAny_truthy_bool ⟨.bl _, H3, I3, rfl, q3⟩
    · refine PySem.W.notIn_K hF I.ok.mod.kin J hme.at_ hme.fn (wpAny_mono core (fun r s' hq => ?_) fun _ _ y => y)
      obtain ⟨v3, H3, I3, rv3, b, rfl, q3⟩ := hq
      cases rv3
      exact wpAny_truthy_bool ⟨.bl _, H3, I3, rfl, q3⟩
  · exact h.elim
theorem use_m2 {op : CmpOp} {f : T → T → MH → R} (hm : behindInMarks op b = false) (ha : SE X W a ma) (hb : SE X W b mb)
    (ho : ∀ (g : G) (σ : L2.St) (t u : T) (v w : V) (y z : Value) (pins : List (Addr × Obj)) (s : Shared) (Q : VK), Rel X.K X.mg g → Rep X.K X.mg g t v → Rep X.K X.mg g u w → Inv X pins σ g.H s → RelV v y → RelV w z → wpR X.K X.mg W g σ Q (f t u g.h) → wpAny (model X.prog X.w) X.A (compareOp op y z) (EP X pins σ Q) X.xe s) :
    SE X W (.Compare a [op] [b] pos) (m2 f ma mb) := by
  refine ⟨fun pins s σ H Q I h => ?_⟩
  obtain ⟨g, s0, rfl, R, S, h⟩ := h
  have key : tM X.K X.mg W ma σ g.H (fun v H1 => tM X.K X.mg W mb σ H1 fun w H2 => ∃ g2 t u, g2.H = H2 ∧ Rel X.K X.mg g2 ∧ Rep X.K X.mg g2 t v ∧ Rep X.K X.mg g2 u w ∧ wpR X.K X.mg W g2 σ Q (f t u g2.h)) :=
    ⟨g, s0, rfl, R, S, wpR_bind h fun g1 t v e1 R1 r1 h1 => ⟨g1, s0, rfl, R1, S.mono e1, wpR_bind h1 fun g2 u w e2 R2 r2 h2 => ⟨g2, t, u, rfl, R2, r1.mono e2, r2, h2⟩⟩⟩
  refine wpAny_Compare1 (binT (Q := EP X pins σ Q) (f := compareOp op) ha hb I key fun v u s2 x y H2 I2 rx ry ⟨g2, t, u', e, R2, r1, r2, h2⟩ => ?_) hm
  subst e
  exact ho g2 σ t u' x y v u pins s2 Q R2 r1 r2 I2 rx ry h2
theorem se_inO {neg : Bool} {op : CmpOp} (hop : (neg = false ∧ op = .In) ∨ (neg = true ∧ op = .NotIn)) (Hm : HasMX X k c "__contains__" qual st ps [] mf) (hr : Room k X.A) (tk : Takes X W) (cl : Calls2 X W ps.length mf fm) (hb : PosD st "__contains__" qual ps 0 ps.length 0) (ha : SE X W a ma) (hb' : SE X W b mb)
    (hm : behindInMarks op b = false) : SE X W (.Compare a [op] [b] pos) (m2 (fInO neg c fm) ma mb) :=
  use_m2 hm ha hb' fun g σ t u v w y z pins s Q R r1 r2 I rv rw' h => inO_ok hop Hm hr tk cl hb R r1 r2 I rv rw' h
/-- what == asks of the class: no built-in type and none of these classes stands before it -/
structure EqC (K : PySem.W.Frag) (mg : Str → Option Value) (c : Str) (cs : List Str) : Prop where
  ty : ∀ C, mg c = some (.ref C) → ∀ a : Ty5, PySem.W.notFirst K C (.type a.name) = true
  own : ∀ C, mg c = some (.ref C) → ∀ c' ∈ cs, ∀ C', mg c' = some (.ref C') → PySem.W.notFirst K C (.ref C') = true
def knownT (cs : List Str) (t : T) (h : MH) : Bool := match objOf t h with
  | some (c', _, _) => cs.contains c'
  | none => (tyOfT t h).isSome
def fEqO (cs : List Str) (c : Str) (fm : List T → MH → R) : T → T → MH → R := fun t u h => if isCls c t h && knownT cs u h then (fm [t, u] h).bind (fBlB false) else .stuck
theorem type_of {cs : List Str} {t : T} {v : V} {y : Value} {pins : List (Addr × Obj)} {s : Shared} (R : Rel X.K X.mg g) (r : Rep X.K X.mg g t v) (I : Inv X pins σ g.H s) (rv : RelV v y) (h : knownT cs t g.h = true) :
    ∃ tb, PySem.W.Looks (model X.prog X.w) s.heap (typeOf y) tb ∧ ((∃ a : Ty5, tb = .type a.name) ∨ ∃ c' C', c' ∈ cs ∧ X.mg c' = some (.ref C') ∧ tb = .ref C') := by
  unfold knownT at h
  split at h
  · rename_i c' ns ts q
    obtain ⟨p, C, dx, fs, rfl, hp, hm, _⟩ := obj_of R r q
    cases (show y = Value.ref p from rv)
    obtain ⟨mA, O, _⟩ := ins_get I.hok hp
    obtain ⟨od, J, _⟩ := O.look
    exact ⟨.ref C, J.type, .inr ⟨c', C, by simpa using h, hm, rfl⟩⟩
  · obtain ⟨a, q⟩ := Option.isSome_iff_exists.mp h
    obtain ⟨P, Z, hP, _⟩ := kit_of I rv (tyx_of R r q)
    exact ⟨_, Z.ty _ _ I.kIn hP, .inl ⟨a, rfl⟩⟩
theorem eqO_ok {cs : List Str} {op : CmpOp} (hop : ∀ a b, compareOp op a b = richCompare op a b) {mn : Str} (hmn : (cmpInfo op).2.1 = mn) (HC : EqC X.K X.mg c cs) (Hm : HasMX X k c mn qual st ps [] mf) (hr : Room k X.A) (tk : Takes X W) (cl : Calls2 X W ps.length mf fm) (hb : PosD st mn qual ps 0 ps.length 0)
    {t u : T} {v w : V} {y z : Value} {pins : List (Addr × Obj)} {s : Shared} (R : Rel X.K X.mg g) (r1 : Rep X.K X.mg g t v) (r2 : Rep X.K X.mg g u w) (I : Inv X pins σ g.H s) (rv : RelV v y) (rw' : RelV w z) (h : wpR X.K X.mg W g σ Q (fEqO cs c fm t u g.h)) :
    wpAny (model X.prog X.w) X.A (compareOp op y z) (EP X pins σ Q) X.xe s := by
  obtain ⟨C, f, fd, dvs, hC, hcl, hme, hf⟩ := Hm
  unfold fEqO at h
  split at h
  · rename_i zc
    obtain ⟨z1, z3⟩ := Bool.and_eq_true_iff.mp zc
    obtain ⟨p1, C1, dx, fs, rfl, hp, hc1⟩ := isCls_at R r1 z1
    have z2 : C1 = C := by rw [hC] at hc1; cases hc1; rfl
    subst z2
    cases (show y = Value.ref p1 from rv)
    obtain ⟨mA, O, _⟩ := ins_get I.hok hp
    obtain ⟨od, J, _⟩ := O.look
    obtain ⟨m, hF⟩ := I.fr
    obtain ⟨tb, ht, hk⟩ := type_of R r2 I rw' z3
    have nf : PySem.W.notFirst X.K C1 tb = true := by
      rcases hk with ⟨a, rfl⟩ | ⟨c', C', hc', hm', rfl⟩
      · exact HC.ty C1 hC a
      · exact HC.own C1 hC c' hc' C' hm'
    rw [hop]
    refine PySem.W.cmp_K (op := op) (tb := tb) hr.units0 hF I.ok.mod.kin J ht nf (by rw [hmn]; exact hme.at_) hme.fn ?_
    refine wpAny_mono (run_in1 (A := X.A) (us := [Value.ref p1, z]) (vs := [V.ref p1, w]) (Q := fun r H2 => ∃ b : Bool, r = .bl b ∧ Q (.bl b) H2) hf hr I.env0 tk hb I (.cons rfl (.cons rw' .nil)) ?_) (fun r s' hq => ?_) fun _ _ y => y
    · refine cl g σ [t, u] [V.ref p1, w] _ R (RepL.cons r1 (RepL.cons r2 RepL.nil)) (wpR_bind h fun g2 t2 v2 e2 R2 r2 h2 => ?_)
      unfold fBlB at h2
      split at h2
      · rename_i b
        exact ⟨b, rep_bl r2, wpR_here h2 R2 rBl⟩
      · exact h2.elim
    · obtain ⟨v3, H3, I3, rv3, b, rfl, q3⟩ := hq
      cases rv3
      exact ⟨.bl b, H3, I3, rfl, q3⟩
  · exact h.elim
theorem se_eqO {cs : List Str} {op : CmpOp} (hop : ∀ a b, compareOp op a b = richCompare op a b) {mn : Str} (hmn : (cmpInfo op).2.1 = mn) (HC : EqC X.K X.mg c cs) (Hm : HasMX X k c mn qual st ps [] mf) (hr : Room k X.A) (tk : Takes X W) (cl : Calls2 X W ps.length mf fm) (hb : PosD st mn qual ps 0 ps.length 0)
    (ha : SE X W a ma) (hb' : SE X W b mb) (hm : behindInMarks op b = false) : SE X W (.Compare a [op] [b] pos) (m2 (fEqO cs c fm) ma mb) :=
  use_m2 hm ha hb' fun g σ t u v w y z pins s Q R r1 r2 I rv rw' h => eqO_ok hop hmn HC Hm hr tk cl hb R r1 r2 I rv rw' h
end
end Mi
end part_Mi16
section part_Mi17
set_option maxRecDepth 100000
set_option maxHeartbeats 2000000
/-! Mi, part 17: properties, isinstance of own classes, C(.., k = v), o.m(.., k = v). -/
namespace Mi
open PySem PySem.Spec PyProof.Rows L2
section
variable {X : Cx} {K : PySem.W.Frag} {mg : Str → Option Value} {W : WX} {g g' : G} {σ : L2.St} {Q : VK} {D : Ends}
variable {a b e : Expr} {ma mb mc me mt : ME} {mr mk : MA} {pos p apos : Pos} {es : List Expr} {c x : Str} {kws : List Keyword}
variable {k n j : Nat} {qual : Str} {st : Stmt} {ps ks : List Str} {dts : List T} {mf : MF} {fm : List T → MH → R}
def noEx : R → R
  | .ok t h => .ok t h
  | _ => .stuck
def fPropO (c : Str) (mf : MF) : T → MH → R := fun t h => if isCls c t h then noEx (mf [t] h) else .stuck
theorem se_prop (Hp : HasPX X k c x qual st mf) (hr : Room (k + 1) X.A) (hb : PosD st x qual ["self"] 0 1 0) (ha : SE X W a ma) (hab : attributeBase a x X.env (eval a X.env) = eval a X.env := by rfl) : SE X W (.Attribute a x pos) (m1 (fPropO c mf) ma) := by
  obtain ⟨C, pp, f, fd, dvs, hC, hcl, hp, hf⟩ := Hp
  obtain ⟨ds, hd, hbs⟩ := posD_binds (dts := []) (n := 1) (j := 0) hf hb rfl
  have e1 : dvs = [] := List.eq_nil_of_length_eq_zero hf.dl
  subst e1
  cases hd
  refine weakE (pe_prop (E := fun _ _ _ => False) (dvs := []) (ds := []) ha hcl hp hf.ok hr hbs .nil (fun _ _ _ _ _ _ _ z => ?_) hab) ?_
  · obtain ⟨_, _, _, _, _, _, _, _, _, _, _, _, z⟩ := z
    exact z.elim
  · rintro σ H Q ⟨g, s, rfl, R, S, h⟩
    refine ⟨g, s, rfl, R, S, wpR_bind h fun g1 t v e1 R1 r1 h1 => ?_⟩
    unfold fPropO at h1
    split at h1
    · rename_i z
      obtain ⟨p1, C1, dx, fs, rfl, hp1, hc1⟩ := isCls_at R1 r1 z
      have z2 : C1 = C := by rw [hC] at hc1; cases hc1; rfl
      subst z2
      refine ⟨p1, dx, fs, rfl, hp1, g1, [t], rfl, R1, RepL.cons r1 RepL.nil, rfl, ?_⟩
      cases q : mf [t] g1.h with
      | ok u h2 => rw [q] at h1; exact h1
      | ex y h2 => rw [q] at h1; exact h1.elim
      | stuck => rw [q] at h1; exact h1.elim
    · exact h1.elim
/-! ### isinstance(x, C), C an own class -/
/-- what isinstance asks of the classes -/
structure IsiC (K : PySem.W.Frag) (mg : Str → Option Value) (c : Str) (tab : List (Str × Bool)) : Prop where
  at_ : ∃ C, mg c = some (.ref C)
  ty : ∀ C, mg c = some (.ref C) → ∀ a : Ty5, PySem.W.kitOne K (.type a.name) (.ref C) = some false
  own : ∀ C, mg c = some (.ref C) → ∀ q ∈ tab, ∀ C', mg q.1 = some (.ref C') → PySem.W.kitOne K (.ref C') (.ref C) = some q.2 ∧ Cls K C' ∧ PySem.W.findIn K (.ref C') "__class__" = some (some (.builtin "object.__class__")) ∧
    PySem.W.specialIn K (.builtin "object.__class__") "__get__" = some (some (.builtin "getset_descriptor.__get__")) ∧ PySem.W.takesIn K (.builtin "object.__class__") = some true ∧ PySem.W.mroIn K C' (.type "object") = some true
def fIsiO (tab : List (Str × Bool)) : T → MH → R := fun t h => match objOf t h with
  | some (c', _, _) => match tab.lookup c' with
    | some b => .ok (.bl b) h
    | none => .stuck
  | none => if (tyOfT t h).isSome then .ok (.bl false) h else .stuck
theorem lookup_mem {α β : Type} [BEq α] [LawfulBEq α] {x : α} {y : β} : ∀ {l : List (α × β)}, l.lookup x = some y → (x, y) ∈ l
  | [], h => by cases h
  | (k, v) :: l, h => by
    rw [List.lookup_cons] at h
    cases q : x == k with
    | true =>
      rw [q] at h
      cases h
      rw [eq_of_beq q]
      exact List.mem_cons_self
    | false =>
      rw [q] at h
      exact List.mem_cons_of_mem _ (lookup_mem h)
theorem se_isiO {pa pc : Pos} {tab : List (Str × Bool)} (HC : IsiC X.K X.mg c tab) (hmi : X.mg "isinstance" = none) (ha : SE X W a ma) (hg : Gl X "isinstance" := by rfl) (hgc : Gl X c := by rfl) (hdc : (c == ("__debug__" : Str)) = false := by decide)
    (he : starEach [a, .Name c pc] X.env = (false, eval a X.env) :: starEach [.Name c pc] X.env := by rfl) (he2 : starEach [.Name c pc] X.env = [(false, eval (.Name c pc) X.env)] := by rfl) (hpl : (backTo pos (starEach [.Name c pc] X.env)).any (·.1) = false := by rfl) :
    SE X W (.Call (.Name "isinstance" pa) [a, .Name c pc] [] pos) (m1 (fIsiO tab) ma) := by
  obtain ⟨C, hC⟩ := HC.at_
  refine weakE (pe_callB (id := "isinstance") call_isi hg hmi (by decide +kernel) (pa_cons ha (pa_cons (pe_glob hgc hC (v := .ref C) rfl hdc) pa_nil he2) he) (by decide) (by decide) he hpl) ?_
  rintro σ H Q ⟨g, s, rfl, R, S, h⟩
  refine ⟨g, s, rfl, R, S, wpR_bind h fun g1 t v e1 R1 r1 h1 => ?_⟩
  unfold fIsiO at h1
  split at h1
  · rename_i c' ns ts q
    obtain ⟨p1, C', dx, fs, rfl, hp, hm, _⟩ := obj_of R1 r1 q
    split at h1
    · rename_i bb hl
      obtain ⟨k1, k2, k3, k4, k5, k6⟩ := HC.own C hC _ (lookup_mem hl) C' hm
      exact ⟨V.ref p1, .ref C, .ref C', .ref C, bb, rfl, .own C, .base (.ins hp k2 k3 k4 k5 k6), k1, wpR_here h1 R1 rBl⟩
    · exact h1.elim
  · split at h1
    · rename_i z
      obtain ⟨a', q⟩ := Option.isSome_iff_exists.mp z
      exact ⟨v, .ref C, .type a'.name, .ref C, false, rfl, .own C, tyx_of R1 r1 q, HC.ty C hC a', wpR_here h1 R1 rBl⟩
    · exact h1.elim
end
end Mi
end part_Mi17
section part_Mi18
set_option maxRecDepth 100000
set_option maxHeartbeats 2000000
/-! Mi, part 18: calls by keywords with defaults: defs, instances, methods. -/
namespace Mi
open PySem PySem.Spec PyProof.Rows L2
/-- how a call with keywords binds: positional values, the keywords' values, the defaults, picked by place -/
def KwD (st : Stmt) (x qual : Str) (ps : List Str) (nd n : Nat) (ks : List Str) (is : List Nat) : Prop := ∀ (kV doc pm : Value) (an : Option Addr) (cdv ct : Value) (us ws its : List Value), us.length = n → ws.length = ks.length → its.length = nd →
  if nd = 0 then bindArgs (PySem.W.fnOf x qual (defArgs st) (defBody st) (defScope st) .none kV doc pm an cdv ct) ⟨us, ks.zip ws⟩ = pure (ps.zip (pick is (us ++ ws ++ its)))
  else ∀ T, ∃ k, bindArgs (PySem.W.fnOf x qual (defArgs st) (defBody st) (defScope st) (.ref T) kV doc pm an cdv ct) ⟨us, ks.zip ws⟩ = seqItems? (.ref T) >>= k ∧ k (some its.toArray) = pure (ps.zip (pick is (us ++ ws ++ its)))
section
variable {X : Cx} {K : PySem.W.Frag} {mg : Str → Option Value} {W : WX} {g g' : G} {σ : L2.St} {Q : VK} {D : Ends}
variable {a b e : Expr} {ma mb mc me mt : ME} {mr mk : MA} {pos p apos : Pos} {es : List Expr} {c x : Str} {kws : List Keyword}
variable {k n j : Nat} {qual : Str} {st : Stmt} {ps ks : List Str} {is : List Nat} {dts : List T} {mf : MF} {fm : List T → MH → R}
theorem kwD_binds {P : Program} {w : World} {base : Heap} {m : MF} {f : Addr} {fd : FuncData} {dvs : List V} (h : FnH P w K mg base k x qual st ps dts m f fd dvs) (hb : KwD st x qual ps dts.length n ks is) :
    ∃ its, Vals dvs its ∧ ∀ (s : Shared) (us ws : List Value), K.In s.heap → us.length = n → ws.length = ks.length → BindsTo s fd ⟨us, ks.zip ws⟩ (ps.zip (pick is (us ++ ws ++ its))) := by
  obtain ⟨oc, od, dV, kV, doc, pm, an, cdv, ct, osl, rfl, _, _, hd, _⟩ := h.F.ex
  rcases hd with ⟨z, rfl⟩ | ⟨z, T, o, its, n', rfl, hT, hs, rv⟩
  · subst z
    have dl : dts.length = 0 := h.dl.symm
    refine ⟨[], .nil, fun s us ws _ l1 l2 => BindsTo.of_eq ?_⟩
    have := hb kV doc pm an cdv ct us ws [] l1 l2 dl.symm
    rw [if_pos dl] at this
    exact this
  · have dl : dts.length ≠ 0 := fun q => z (List.eq_nil_of_length_eq_zero (h.dl.trans q))
    refine ⟨its, rv, fun s us ws ki l1 l2 => ?_⟩
    have := hb kV doc pm an cdv ct us ws its l1 l2 (by rw [← rv.length]; exact h.dl)
    rw [if_neg dl] at this
    obtain ⟨k', h1, h2⟩ := this T
    exact PySem.W.binds_K ki rfl hT hs h1 h2
/-- the callee's argument list -/
def mKwA (n nk : Nat) (is : List Nat) (dts : List T) (fm : List T → MH → R) (mr mk : MA) : ME := fun s h => (mr s h).bind fun ts h1 => (mk s h1).bind fun us h2 => if ts.length = n ∧ us.length = nk then fm (pick is (ts ++ us ++ dts)) h2 else .stuck
theorem se_gkw (Hg : HasGX X k x qual st ps dts mf) (hr : Room k X.A) (tk : Takes X W) (cl : Calls2 X W ps.length mf fm) (hb : KwD st x qual ps dts.length n ks is) (ha : SA X W (e :: es) mr) (hkw : SK X W kws mk) (hg : Gl X x := by rfl)
    (hall : (backToKw pos (keywordEach kws X.env)).all (·.1.isSome) = true := by rfl) (hks : (backToKw pos (keywordEach kws X.env)).filterMap (·.1) = ks := by rfl)
    (hdb : (x == ("__debug__" : Str)) = false := by decide) (he : starEach (e :: es) X.env = (false, eval e X.env) :: starEach es X.env := by rfl)
    (hpl : ((backTo pos (starEach (e :: es) X.env)).any (·.1) || (backToKw pos (keywordEach kws X.env)).any (·.1.isNone)) = false := by rfl) :
    SE X W (.Call (.Name x p) (e :: es) kws pos) (mKwA n ks.length is dts fm mr mk) := by
  obtain ⟨f, fd, dvs, hm, hf⟩ := Hg
  obtain ⟨its, rv, hbs⟩ := kwD_binds hf hb
  refine ⟨fun pins s σ H Q I h => ?_⟩
  obtain ⟨g, s0, rfl, R, S, h⟩ := h
  have key : tMA X.K X.mg W mr σ g.H (fun vs H1 => tMA X.K X.mg W mk σ H1 fun zs H2 => vs.length = n ∧ zs.length = ks.length ∧ spM X.K X.mg ps.length mf (pick is (vs ++ zs ++ dvs)) H2 Q (WE W σ)) :=
    ⟨g, s0, rfl, R, S, wpL_of h fun g1 ts vs e1 R1 r1 h1 => ⟨g1, s0, rfl, R1, S.mono e1, wpL_of h1 fun g2 us zs e2 R2 r2 h2 => by
      split at h2
      · rename_i q
        exact ⟨r1.length.symm.trans q.1, r2.length.symm.trans q.2, cl g2 σ _ _ Q R2 (pick_repL (((r1.mono e2).append r2).append (hf.dr g2)) is) h2⟩
      · exact h2.elim⟩⟩
  refine wpAny_Call_Name_kw (ld_glob I hg hm ?_ hdb)
  refine PySem.W.callWith_KW (h₀ := X.base) I.ok.mod.kin hf.F.kp hall (thn (ha.run pos pins s σ g.H _ I key) fun us s1 ⟨vs, H1, I1, r, q⟩ => ?_) hpl he
  refine thn (hkw.run pos pins s1 σ H1 _ I1 q) fun ws s2 ⟨zs, H2, I2, rz, l1, l2, q2⟩ => ⟨I2.kIn, ?_⟩
  rw [hks]
  exact run_at (args := ⟨us, ks.zip ws⟩) hf.ok hr (passAt tk σ) I2 (hbs s2 us ws I2.kIn (r.length.symm.trans l1) (rz.length.symm.trans l2)) (pick_vals ((r.append rz).append rv) is) q2
theorem se_gkw0 (Hg : HasGX X k x qual st ps dts mf) (hr : Room k X.A) (tk : Takes X W) (cl : Calls2 X W ps.length mf fm) (hb : KwD st x qual ps dts.length 0 ks is) (hkw : SK X W kws mk) (hg : Gl X x := by rfl)
    (hall : (backToKw pos (keywordEach kws X.env)).all (·.1.isSome) = true := by rfl) (hks : (backToKw pos (keywordEach kws X.env)).filterMap (·.1) = ks := by rfl)
    (hdb : (x == ("__debug__" : Str)) = false := by decide)
    (hpl : ((backTo pos (starEach [] X.env)).any (·.1) || (backToKw pos (keywordEach kws X.env)).any (·.1.isNone)) = false := by rfl) :
    SE X W (.Call (.Name x p) [] kws pos) (mKwA 0 ks.length is dts fm aNil mk) := by
  obtain ⟨f, fd, dvs, hm, hf⟩ := Hg
  obtain ⟨its, rv, hbs⟩ := kwD_binds hf hb
  refine ⟨fun pins s σ H Q I h => ?_⟩
  obtain ⟨g, s0, rfl, R, S, h⟩ := h
  have h0 : wpR X.K X.mg W g σ Q ((mk s0 g.h).bind fun us h2 => if ([] : List T).length = 0 ∧ us.length = ks.length then fm (pick is ([] ++ us ++ dts)) h2 else .stuck) := h
  have key : tMA X.K X.mg W mk σ g.H (fun zs H2 => zs.length = ks.length ∧ spM X.K X.mg ps.length mf (pick is ([] ++ zs ++ dvs)) H2 Q (WE W σ)) :=
    ⟨g, s0, rfl, R, S, wpL_of h0 fun g2 us zs e2 R2 r2 h2 => by
      split at h2
      · rename_i q
        exact ⟨r2.length.symm.trans q.2, cl g2 σ _ _ Q R2 (pick_repL ((RepL.nil.append r2).append (hf.dr g2)) is) h2⟩
      · exact h2.elim⟩
  refine wpAny_Call_Name_kw (ld_glob I hg hm ?_ hdb)
  refine PySem.W.callWith_KW0 (h₀ := X.base) I.ok.mod.kin hf.F.kp hall ?_ hpl
  refine thn (hkw.run pos pins s σ g.H _ I key) fun ws s2 ⟨zs, H2, I2, rz, l2, q2⟩ => ⟨I2.kIn, ?_⟩
  rw [hks]
  exact run_at (args := ⟨[], ks.zip ws⟩) hf.ok hr (passAt tk σ) I2 (hbs s2 [] ws I2.kIn rfl (rz.length.symm.trans l2)) (pick_vals (((show Vals [] [] from .nil).append rz).append rv) is) q2
/-! ### C(.., k = v) -/
def fMkP (frz : Bool) (c : Str) (mf : MF) (n nk : Nat) (is : List Nat) (dts : List T) (ts us : List T) (h : MH) : R := if ts.length + 1 = n ∧ us.length = nk then
    (match mf (pick is ((.ref h.length :: ts) ++ us ++ dts)) (h ++ [.ins c [] []]) with
    | .ok .non h2 => if frz then .ok (fzT (.ref h.length) h2).1 (fzT (.ref h.length) h2).2 else .ok (.ref h.length) h2
    | .ex y h2 => .ex y h2
    | _ => .stuck) else .stuck
theorem make_useK {frz : Bool} {C x1 dx : Addr} {ts us dt : List T} {vs zs dv : List V} {nn nk N1 : Nat} (R : Rel K mg g) (r : RepL K mg g ts vs) (r2 : RepL K mg g us zs) (rd : ∀ g, RepL K mg g dt dv) (hC : mg c = some (.ref C)) (hx : g.H x1 = none) (hdx : g.H dx = none) (ne : dx ≠ x1)
    (hpk : ∀ x : T, (pick is ((x :: ts) ++ us ++ dt)).length = nn) (h : wpR K mg W g σ Q (fMkP frz c mf N1 nk is dt ts us g.h)) : spM K mg nn mf (pick is ((.ref x1 :: vs) ++ zs ++ dv)) (upd (upd g.H dx (.own x1)) x1 (.ins C dx [])) (fun v H2 => v = .non ∧ Q (.ref x1) H2) (WE W σ) := by
  have e0 : Ext g (g.lay dx (.own x1)) := lay_ext R hdx
  have R0 : Rel K mg (g.lay dx (.own x1)) := R.lay hdx
  have hx0 : (g.lay dx (.own x1)).H x1 = none := by
    show upd g.H dx (.own x1) x1 = none
    rw [upd_ne (Ne.symm ne)]; exact hx
  obtain ⟨g1, e1, e2, ex, R1, rr⟩ := ref_lay (o := .ins c [] []) (ho := .ins C dx []) R0 hx0 (fun g2 s2 hq => ⟨C, dx, [], hq, hC, rfl, RepL.nil⟩) (by intro z; cases z)
  have eg : Ext g g1 := e0.trans ex
  refine ⟨g1, pick is ((.ref g.h.length :: ts) ++ us ++ dt), e1, R1, pick_repL (((RepL.cons rr (r.mono eg)).append (r2.mono eg)).append (rd g1)) is, hpk _, ?_⟩
  have e3 : g1.h = g.h ++ [.ins c [] []] := e2
  rw [e3]
  unfold fMkP at h
  split at h
  · cases q : mf (pick is ((.ref g.h.length :: ts) ++ us ++ dt)) (g.h ++ [.ins c [] []]) with
    | ok t h2 =>
      rw [q] at h
      cases t with
      | non =>
        intro g' v eh eg' R' rv
        have eh : g'.h = h2 := eh
        refine ⟨rep_non rv, ?_⟩
        have rx : Rep K mg g' (.ref g.h.length) (.ref x1) := rr.mono eg'
        dsimp only at h
        cases frz with
        | false => exact h g' (.ref x1) eh (eg.trans eg') R' rx
        | true =>
          obtain ⟨g'', z1, z2, z3, z4, z5⟩ := fz_ok R' rx
          rw [← z1]
          rw [if_pos rfl] at h
          exact h g'' (.ref x1) (by rw [z2, eh]) ((eg.trans eg').trans z3) z4 (by rw [← eh]; exact z5)
      | _ => exact h.elim
    | ex y h2 =>
      rw [q] at h
      exact fun g' cls d eh eg' R' rx => h g' cls d eh (eg.trans eg') R' rx
    | stuck => rw [q] at h; exact h.elim
  · exact h.elim
def mMkK (frz : Bool) (c : Str) (mf : MF) (nn n nk : Nat) (is : List Nat) (dts : List T) (mr mk : MA) : ME := fun s h => (mr s h).bind fun ts h1 => (mk s h1).bind fun us h2 => if (pick is ((.non :: ts) ++ us ++ dts)).length = nn then fMkP frz c mf n nk is dts ts us h2 else .stuck
theorem pick_len {α β : Type} : ∀ {is : List Nat} {l : List α} {l' : List β}, l.length = l'.length → (pick is l).length = (pick is l').length
  | [], _, _, _ => rfl
  | i :: is, l, l', h => by
    have ih := pick_len (is := is) h
    unfold pick at ih ⊢
    simp only [List.filterMap_cons]
    by_cases q : i < l.length
    · rw [List.getElem?_eq_getElem q, List.getElem?_eq_getElem (h ▸ q)]
      simp only [List.length_cons, ih]
    · rw [List.getElem?_eq_none (by omega), List.getElem?_eq_none (by omega)]
      exact ih
theorem se_makeK {frz : Bool} (Hi : HasIX X k c qual st ps dts mf) (hr : Room (k + 1) X.A) (tk : Takes X W) (hb : KwD st "__init__" qual ps dts.length n ks is) (ha : SA X W (e :: es) mr) (hkw : SK X W kws mk) (hg : Gl X c := by rfl)
    (hall : (backToKw pos (keywordEach kws X.env)).all (·.1.isSome) = true := by rfl) (hks : (backToKw pos (keywordEach kws X.env)).filterMap (·.1) = ks := by rfl)
    (hdb : (c == ("__debug__" : Str)) = false := by decide) (he : starEach (e :: es) X.env = (false, eval e X.env) :: starEach es X.env := by rfl)
    (hpl : ((backTo pos (starEach (e :: es) X.env)).any (·.1) || (backToKw pos (keywordEach kws X.env)).any (·.1.isNone)) = false := by rfl) :
    SE X W (.Call (.Name c p) (e :: es) kws pos) (mMkK frz c mf ps.length n ks.length is dts mr mk) := by
  obtain ⟨C, f, fd, dvs, hC, M, hf⟩ := Hi
  obtain ⟨its, rv, hbs⟩ := kwD_binds hf hb
  refine ⟨fun pins s σ H Q I h => ?_⟩
  obtain ⟨g, s0, rfl, R, S, h⟩ := h
  have key : tMA X.K X.mg W mr σ g.H (fun vs H1 => tMA X.K X.mg W mk σ H1 fun zs H2 => vs.length + 1 = n ∧ zs.length = ks.length ∧ ∀ x1 dx, H2 x1 = none → H2 dx = none → dx ≠ x1 → spM X.K X.mg ps.length mf (pick is ((.ref x1 :: vs) ++ zs ++ dvs)) (upd (upd H2 dx (.own x1)) x1 (.ins C dx [])) (fun v H3 => v = .non ∧ Q (.ref x1) H3) (WE W σ)) :=
    ⟨g, s0, rfl, R, S, wpL_of h fun g1 ts vs e1 R1 r1 h1 => ⟨g1, s0, rfl, R1, S.mono e1, wpL_of h1 fun g2 us zs e2 R2 r2 h2 => by
      split at h2
      · rename_i q
        have h3 := h2
        unfold fMkP at h3
        split at h3
        · rename_i w
          refine ⟨by rw [← r1.length]; exact w.1, by rw [← r2.length]; exact w.2, fun x1 dx hx hdx ne => make_useK R2 (r1.mono e2) r2 hf.dr hC hx hdx ne (fun x => ?_) h2⟩
          rw [← q]
          exact pick_len (by simp)
        · exact h3.elim
      · exact h2.elim⟩⟩
  refine wpAny_Call_Name_kw (ld_glob I hg hC ?_ hdb)
  refine PySem.W.callWith_KW (h₀ := X.base) I.ok.mod.kin M.kp hall (thn (ha.run pos pins s σ g.H _ I key) fun us s1 ⟨vs, H1, I1, r, q⟩ => ?_) hpl he
  refine thn (hkw.run pos pins s1 σ H1 _ I1 q) fun ws s2 ⟨zs, H2, I2, rz, l1, l2, q2⟩ => ⟨I2.kIn, ?_⟩
  rw [hks]
  exact make_at M hf.ok hr (passAt tk σ) I2 (fun u => pick is ((u :: us) ++ ws ++ its)) (fun x => pick is ((x :: vs) ++ zs ++ dvs)) (ks.zip ws) (fun s' u ki => hbs s' (u :: us) ws ki (by rw [List.length_cons, ← r.length]; exact l1) (rz.length.symm.trans l2)) (fun x u rx => pick_vals (((show Vals (x :: vs) (u :: us) from .cons rx r).append rz).append rv) is) q2
theorem se_makeK0 {frz : Bool} (Hi : HasIX X k c qual st ps dts mf) (hr : Room (k + 1) X.A) (tk : Takes X W) (hb : KwD st "__init__" qual ps dts.length 1 ks is) (hkw : SK X W kws mk) (hg : Gl X c := by rfl)
    (hall : (backToKw pos (keywordEach kws X.env)).all (·.1.isSome) = true := by rfl) (hks : (backToKw pos (keywordEach kws X.env)).filterMap (·.1) = ks := by rfl)
    (hdb : (c == ("__debug__" : Str)) = false := by decide)
    (hpl : ((backTo pos (starEach [] X.env)).any (·.1) || (backToKw pos (keywordEach kws X.env)).any (·.1.isNone)) = false := by rfl) :
    SE X W (.Call (.Name c p) [] kws pos) (mMkK frz c mf ps.length 1 ks.length is dts aNil mk) := by
  obtain ⟨C, f, fd, dvs, hC, M, hf⟩ := Hi
  obtain ⟨its, rv, hbs⟩ := kwD_binds hf hb
  refine ⟨fun pins s σ H Q I h => ?_⟩
  obtain ⟨g, s0, rfl, R, S, h⟩ := h
  have h0 : wpR X.K X.mg W g σ Q ((mk s0 g.h).bind fun us h2 => if (pick is ((T.non :: []) ++ us ++ dts)).length = ps.length then fMkP frz c mf 1 ks.length is dts [] us h2 else .stuck) := h
  have key : tMA X.K X.mg W mk σ g.H (fun zs H2 => zs.length = ks.length ∧ ∀ x1 dx, H2 x1 = none → H2 dx = none → dx ≠ x1 → spM X.K X.mg ps.length mf (pick is ((.ref x1 :: []) ++ zs ++ dvs)) (upd (upd H2 dx (.own x1)) x1 (.ins C dx [])) (fun v H3 => v = .non ∧ Q (.ref x1) H3) (WE W σ)) :=
    ⟨g, s0, rfl, R, S, wpL_of h0 fun g2 us zs e2 R2 r2 h2 => by
      split at h2
      · rename_i q
        have h3 := h2
        unfold fMkP at h3
        split at h3
        · rename_i w
          refine ⟨by rw [← r2.length]; exact w.2, fun x1 dx hx hdx ne => make_useK (ts := []) (vs := []) R2 RepL.nil r2 hf.dr hC hx hdx ne (fun x => ?_) h2⟩
          rw [← q]
          exact pick_len (by simp)
        · exact h3.elim
      · exact h2.elim⟩
  refine wpAny_Call_Name_kw (ld_glob I hg hC ?_ hdb)
  refine PySem.W.callWith_KW0 (h₀ := X.base) I.ok.mod.kin M.kp hall ?_ hpl
  refine thn (hkw.run pos pins s σ g.H _ I key) fun ws s2 ⟨zs, H2, I2, rz, l2, q2⟩ => ⟨I2.kIn, ?_⟩
  rw [hks]
  exact make_at (us := []) M hf.ok hr (passAt tk σ) I2 (fun u => pick is ((u :: []) ++ ws ++ its)) (fun x => pick is ((x :: []) ++ zs ++ dvs)) (ks.zip ws) (fun s' u ki => hbs s' [u] ws ki rfl (rz.length.symm.trans l2)) (fun x u rx => pick_vals (((show Vals (x :: []) (u :: []) from .cons rx .nil).append rz).append rv) is) q2
end
end Mi
end part_Mi18
section part_Mi21
set_option maxRecDepth 100000
set_option maxHeartbeats 4000000
/-! Mi, part 21: set(t), t a tuple of tuples of ints (a turn of the library's rule for lists). -/
namespace Mi
open PySem PySem.Spec PyProof.Rows L2
section
variable {P : Program} {w : World} {A : Around} {E : Value → Shared → Prop} {s : Shared}
theorem call_set_tupT {l : Addr} {items : Array Value} (ks : List (Addr × List Int)) {Q : Value → Shared → Prop} (hh : A.handled = none) (hl : s.heap.IsTuple l items) (hit : items.toList = ks.map fun p => Value.ref p.1)
    (hk : ∀ p ∈ ks, IsT P w s.heap p.2 p.1) (hfew : ks.length < 64) (hu : A.units + 3 < cLine)
    (h : ∀ (h' : Heap) (tk : Nat) L es ep t, SetTR P w h' s.heap.objs.size L es ep t → Got ks ks.length L → (∀ b o, s.heap.get? b = some o → h'.get? b = some o) → Q (.ref s.heap.objs.size) { s with heap := h', toks := tk }) :
    wpAny (model P w) A (call (.type "set") [.ref l]) Q E s := by
  have hisz : items.size = ks.length := by
    have q := congrArg List.length hit
    rw [Array.length_toList, List.length_map] at q
    exact q
  obtain ⟨c, tl, hmro⟩ := F.called_set.mro
  have hmade := F.called_set.made
  have hsub := F.called_set.sub
  refine wpAny_call (codeAny_of_tree ?_)
  show wpAny _ _ (callAny (.type "set") _) _ _ _
  refine wpAny_pure ⟨Code.quiet_builtin _ (by decide +kernel), codeAny_builtin F.entry_type_call ?_⟩
  rw [Around.under_plain (weight_type_call_type "set" [.ref l] []) rfl]
  have h1 := F.called_set.notType
  have h2 := F.called_set.canCreate
  have hct := F.typeCall_set_1 (.ref l)
  repeat (any_goals (first | assumption | wp_step))

  refine codeAny_mono (code_set_led1 (.ref l) (E := E) (Q₁ := fun obj s₁ => obj = .ref s.heap.objs.size ∧ s₁ = { s with heap := s.heap.push { cls := .type "set", dict := none, data := .set #[] 0 (.fresh 0 0 (!w.params.followText "set-order")) } }) ⟨rfl, rfl⟩) fun r s₁ hr => ?_
  cases r with
  | error e => exact hr
  | ok fl =>
    cases fl with
    | ret obj =>
      obtain ⟨rfl, rfl⟩ := hr
      have hS : (s.heap.push { cls := .type "set", dict := none, data := .set #[] 0 (.fresh 0 0 (!w.params.followText "set-order")) }).get? s.heap.objs.size = some { cls := .type "set", dict := none, data := .set #[] 0 (.fresh 0 0 (!w.params.followText "set-order")) } := Heap.get?_push_size _ rfl
      have hT : Shared.TypeIs { s with heap := s.heap.push { cls := .type "set", dict := none, data := .set #[] 0 (.fresh 0 0 (!w.params.followText "set-order")) } } (.ref s.heap.objs.size) "set" := ⟨_, hS, rfl⟩
      have hli := F.called_set.init.lookup
      have hbi := F.called_set.init.bind (.ref s.heap.objs.size)
      repeat (any_goals (first | assumption | wp_step))

      refine codeAny_mono (codeAny_call_builtin (R := wants (fun r s₂ => r = .none ∧ ∃ h' tk L es ep t, s₂ = { s with heap := h', toks := tk } ∧ SetTR P w h' s.heap.objs.size L es ep t ∧ Got ks ks.length L ∧
          (∀ b o, s.heap.get? b = some o → h'.get? b = some o)) E) F.called_set.init.plain F.entry_set_init (check_set_init_1 hT ?_)) fun r₂ s₂ hr₂ => ?_
      · obtain ⟨ol, hol, hcl, nl, hdl⟩ := hl
        obtain ⟨ocls, odict, odata, oslots⟩ := ol
        simp only at hcl hdl
        subst hcl; subst hdl
        have hol' : (s.heap.push { cls := .type "set", dict := none, data := .set #[] 0 (.fresh 0 0 (!w.params.followText "set-order")) }).get? l = some { cls := .type "tuple", dict := odict, data := .seq items nl, slots := oslots } := Heap.get?_push_of_some _ hol
        have hsls := F.sub_tuple_set
        have hslf := F.sub_tuple_frozenset
        have hne : (Value.type "tuple" == Value.type "dict") = false := by decide
        have hl1 : (s.heap.push { cls := .type "set", dict := none, data := .set #[] 0 (.fresh 0 0 (!w.params.followText "set-order")) }).IsTuple l items := ⟨_, hol', rfl, nl, rfl⟩
        unfold Builtin.«set.__init__» noKeywords Builtin.Frozenset.updateFrom
        generalize hPI : pyIter = PI
        wp_walk
        subst hPI

        refine wpAny_pyIter_tuple hl1 ?_
        refine wpAny_bind (wpAny_runValue ?_)
        have hlS : l < s.heap.objs.size := Heap.lt_size hol
        have hh3 : A.in1.in1.in1.handled = none := by simp [hh]
        have hz1 : (s.heap.push { cls := .type "set", dict := none, data := .set #[] 0 (.fresh 0 0 (!w.params.followText "set-order")) }).objs.size = s.heap.objs.size + 1 := Heap.size_push ..
        have hneI : l ≠ (s.heap.push { cls := .type "set", dict := none, data := .set #[] 0 (.fresh 0 0 (!w.params.followText "set-order")) }).objs.size := by
          rw [Heap.size_push]; exact Nat.ne_of_lt (Nat.lt_succ_of_lt hlS)
        have hSf : s.heap.objs.size ∉ [(s.heap.push { cls := .type "set", dict := none, data := .set #[] 0 (.fresh 0 0 (!w.params.followText "set-order")) }).objs.size, l] := by
          rw [Heap.size_push]; simp only [List.mem_cons, List.mem_singleton, List.not_mem_nil, or_false, not_or]
          exact ⟨Nat.ne_of_lt (Nat.lt_succ_self _), Nat.ne_of_gt hlS⟩
        have hval : ∀ (i : Nat) (v : Value), items[i]? = some v → ∃ p, ks[i]? = some p ∧ v = .ref p.1 := fun i v hv => by
          have q : items.toList[i]? = some v := by rw [Array.getElem?_toList]; exact hv
          rw [hit, List.getElem?_map] at q
          cases hq : ks[i]? with
          | none => rw [hq] at q; cases q
          | some p =>
            rw [hq] at q
            exact ⟨p, rfl, (Option.some.inj q).symm⟩
        have none_of : ∀ b, s.heap.objs.size ≤ b → s.heap.get? b = none := fun b hb => by
          cases q : s.heap.get? b with
          | none => rfl
          | some o => exact absurd (Nat.lt_of_lt_of_le (Heap.lt_size q) hb) (Nat.lt_irrefl _)
        refine set_update_tups ((Walks.tuple hh3 _ l hneI items).toS) s.heap.objs.size
          hSf ks hisz hfew hval s.heap hk (none_of _ (Nat.le_refl _)) (fun b hb => none_of b (by
            rw [List.mem_singleton.mp hb, Heap.size_push]
            exact Nat.le_succ _)) hu (items.size - 0) 0 _ (by omega) (Nat.zero_le _)
          ⟨⟨_, Heap.get?_push_size _ rfl, rfl, rfl⟩, (hl1.push _)⟩ (fun b o e => Heap.get?_push_of_some _ (Heap.get?_push_of_some _ e)) ?hS0 ?hR
        case hS0 =>
          have hget : ((s.heap.push { cls := .type "set", dict := none, data := .set #[] 0 (.fresh 0 0 (!w.params.followText "set-order")) }).push { cls := .type "tuple_iterator", data := .fields #[.ref l, .int 0 0] }).get? s.heap.objs.size
              = some { cls := .type "set", dict := none, data := .set #[] 0 (.fresh 0 0 (!w.params.followText "set-order")) } := Heap.get?_push_of_some _ hS
          exact ⟨[], #[], 0, _, setTR_fresh hget, Got.zero ks⟩
        case hR =>
          intro s' L es ep t hm hS' g' hkp
          obtain ⟨h', g2, d', tk', os'⟩ := s'
          have eg : g2 = s.gens := hm.gens
          have ed : d' = s.drawn := hm.drawn
          have eo : os' = s.os := hm.os
          subst eg; subst ed; subst eo
          show wpAny _ _ _ _ _ _
          refine wpAny_pure ?_
          show wpAny _ _ (ret Value.none) _ _ _
          rw [hisz] at g'
          exact wpAny_pure ⟨rfl, h', tk', L, es, ep, t, rfl, hS', g', hkp⟩

      · cases r₂ with
        | error e => exact hr₂
        | ok fl₂ =>
          cases fl₂ with
          | ret r =>
            obtain ⟨rfl, h', tk, L, es, ep, t, rfl, hS', g', hk'⟩ := hr₂
            repeat (any_goals (first | assumption | wp_step))
            exact h _ _ _ _ _ _ hS' g' hk'
          | _ => exact hr₂.elim
    | _ => exact hr.elim
end
end Mi
end part_Mi21
section part_Mi22
set_option maxRecDepth 100000
set_option maxHeartbeats 2000000
/-! Mi, part 22: sorted(set(e)), e a list or tuple of pairs of small ints. -/
namespace Mi
open PySem PySem.Spec PyProof.Rows L2
/-! ### plain: pairs in their order -/
def pairT (p : Int × Int) : T := .tup [.int p.1, .int p.2]
def pkT : T → Option (Int × Int)
  | .tup [.int x, .int y] => some (x, y)
  | _ => none
def pks : List T → Option (List (Int × Int))
  | [] => some []
  | t :: ts => match pkT t, pks ts with
    | some p, some ps => some (p :: ps)
    | _, _ => none
def ltPr (p q : Int × Int) : Bool := decide (p.1 < q.1 ∨ (p.1 = q.1 ∧ p.2 < q.2))
def insP (p : Int × Int) : List (Int × Int) → List (Int × Int)
  | [] => [p]
  | q :: qs => if ltPr p q then p :: q :: qs else if ltPr q p then q :: insP p qs else q :: qs
def srtP (ps : List (Int × Int)) : List (Int × Int) := ps.foldr insP []
def AscP (ps : List (Int × Int)) : Prop := ps.Pairwise fun p q => ltPr p q = true
theorem ltPr_iff {p q : Int × Int} : ltPr p q = true ↔ (p.1 < q.1 ∨ (p.1 = q.1 ∧ p.2 < q.2)) := by unfold ltPr; exact decide_eq_true_iff
theorem ltPr_no {p q : Int × Int} (h : ¬ ltPr p q = true) (k : ¬ ltPr q p = true) : p = q := by
  rw [ltPr_iff] at h k
  exact Prod.ext (by omega) (by omega)
theorem mem_insP {p r : Int × Int} : ∀ {qs : List (Int × Int)}, r ∈ insP p qs ↔ r = p ∨ r ∈ qs
  | [] => by simp [insP]
  | q :: qs => by
    unfold insP
    split
    · simp
    · rename_i h
      split
      · rw [List.mem_cons, mem_insP, List.mem_cons]
        constructor
        · rintro (e | e | e)
          · exact .inr (.inl e)
          · exact .inl e
          · exact .inr (.inr e)
        · rintro (e | e | e)
          · exact .inr (.inl e)
          · exact .inl e
          · exact .inr (.inr e)
      · rename_i k
        have e := ltPr_no h k
        subst e
        simp
theorem ltPr_trans {p q r : Int × Int} (h : ltPr p q = true) (k : ltPr q r = true) : ltPr p r = true := by
  rw [ltPr_iff] at *
  omega
theorem ascP_ins {p : Int × Int} : ∀ {qs : List (Int × Int)}, AscP qs → AscP (insP p qs)
  | [], _ => List.pairwise_singleton _ _
  | q :: qs, h => by
    obtain ⟨h1, h2⟩ := List.pairwise_cons.mp h
    unfold insP
    split
    · rename_i c
      exact List.pairwise_cons.mpr ⟨fun r hr => by
        rcases List.mem_cons.mp hr with e | e
        · rw [e]; exact c
        · exact ltPr_trans c (h1 r e), h⟩
    · split
      · rename_i c
        refine List.pairwise_cons.mpr ⟨fun r hr => ?_, ascP_ins h2⟩
        rcases mem_insP.mp hr with e | e
        · rw [e]; exact c
        · exact h1 r e
      · exact h
theorem mem_srtP {r : Int × Int} : ∀ {ps : List (Int × Int)}, r ∈ srtP ps ↔ r ∈ ps
  | [] => by simp [srtP]
  | p :: ps => by
    show r ∈ insP p (srtP ps) ↔ _
    rw [mem_insP, mem_srtP, List.mem_cons]
theorem asc_srtP : ∀ {ps : List (Int × Int)}, AscP (srtP ps)
  | [] => List.Pairwise.nil
  | p :: ps => ascP_ins asc_srtP
theorem ascP_uniq : ∀ {l m : List (Int × Int)}, AscP l → AscP m → (∀ r, r ∈ l ↔ r ∈ m) → l = m
  | [], [], _, _, _ => rfl
  | [], q :: m, _, _, h => absurd ((h q).mpr List.mem_cons_self) (by simp)
  | p :: l, [], _, _, h => absurd ((h p).mp List.mem_cons_self) (by simp)
  | p :: l, q :: m, a, b, h => by
    obtain ⟨a1, a2⟩ := List.pairwise_cons.mp a
    obtain ⟨b1, b2⟩ := List.pairwise_cons.mp b
    have irr : ∀ x : Int × Int, ¬ ltPr x x = true := fun x => by rw [ltPr_iff]; omega
    have e : p = q := by
      rcases List.mem_cons.mp ((h p).mp List.mem_cons_self) with e | e
      · exact e
      · rcases List.mem_cons.mp ((h q).mpr List.mem_cons_self) with k | k
        · exact k.symm
        · exact absurd (ltPr_trans (b1 _ e) (a1 _ k)) (irr _)
    subst e
    rw [ascP_uniq a2 b2 fun r => ?_]
    constructor
    · intro hr
      rcases List.mem_cons.mp ((h r).mp (List.mem_cons_of_mem _ hr)) with e | e
      · subst e; exact absurd (a1 _ hr) (irr _)
      · exact e
    · intro hr
      rcases List.mem_cons.mp ((h r).mpr (List.mem_cons_of_mem _ hr)) with e | e
      · subst e; exact absurd (b1 _ hr) (irr _)
      · exact e
theorem srtP_asc {l : List (Int × Int)} (h : AscP l) : srtP l = l := ascP_uniq asc_srtP h fun r => mem_srtP
theorem pks_pairT : ∀ ps : List (Int × Int), pks (ps.map pairT) = some ps
  | [] => rfl
  | p :: ps => by
    show (match pkT (pairT p), pks (ps.map pairT) with | some p, some ps => some (p :: ps) | _, _ => none) = _
    rw [pks_pairT ps]; rfl
theorem pkT_eq {t : T} {p : Int × Int} (h : pkT t = some p) : t = pairT p := by
  unfold pkT at h
  split at h
  · cases h; rfl
  · cases h
theorem pks_eq : ∀ {ts : List T} {ps : List (Int × Int)}, pks ts = some ps → ts = ps.map pairT
  | [], ps, h => by cases h; rfl
  | t :: ts, ps, h => by
    unfold pks at h
    split at h
    · rename_i p qs h1 h2
      cases h
      rw [pkT_eq h1, pks_eq h2]; rfl
    · cases h
def smallP (p : Int × Int) : Bool := decide (0 ≤ p.1 ∧ p.1 < 64 ∧ 0 ≤ p.2 ∧ p.2 < 64)
def fSortSet : List T → MH → R := fun ts h => match ts with
  | [t] => match seqOf t h with
    | some xs => match pks xs with
      | some ps => if ps.length < 64 ∧ ps.all smallP = true then .ok (.lst ((srtP ps).map pairT)) h else .stuck
      | none => .stuck
    | none => .stuck
  | _ => .stuck
/-! ### the rule -/
section
variable {X : Cx} {K : PySem.W.Frag} {mg : Str → Option Value} {W : WX} {g : G} {σ : L2.St} {Q : VK}
def rSet2 (K : PySem.W.Frag) (P : Program) (w : World) : List V → Hp → VK → Prop := fun xs H Q => ∃ (l : Addr) (ks : List (Addr × List Int)), xs = [V.ref l] ∧ (SqL K H l (ks.map fun p => V.ref p.1) ∨ SqT K H l (ks.map fun p => V.ref p.1)) ∧ (∀ p ∈ ks, SqT K H p.1 (p.2.map V.int)) ∧ ks.length < 64 ∧
  ∀ a L, H a = none → (∀ p ∈ L, p ∈ ks) → (∀ p ∈ ks, p.2 ∈ L.map (·.2)) → Q (.ref a) (upd H a (SetTO P w a L))
theorem cr_set2 (hc : X.calm = true) (hu : X.A.units + 64 < cLine) : CallR X (.type "set") (rSet2 X.K X.prog X.w) := by
  intro pins s σ H xs us Q I r h
  obtain ⟨l, ks, rfl, hl, hk, hf, q⟩ := h
  rcases hl with hl | hl
  · exact cr_setOfT hc hu pins s σ H _ us Q I r ⟨l, ks, rfl, hl, hk, hf, q⟩
  · rw [Vals.ref1 r]
    obtain ⟨its, rv, ht, _⟩ := I.tuple hl
    have hn : H s.heap.objs.size = none := I.hok.fresh (Nat.le_refl _)
    have ht' : s.heap.IsTuple l its.toArray := by
      obtain ⟨o, ho, hc, n, hd⟩ := ht
      exact ⟨o, ho, hc, n, hd⟩
    refine call_set_tupT (P := X.prog) (w := X.w) ks (I.ok.hd hc) ht' (by simpa using refs_of_vals rv) (fun p hp => I.isT (hk p hp)) hf (by omega) fun h' tk L es ep t R g k => ?_
    refine ⟨.ref s.heap.objs.size, upd H s.heap.objs.size (SetTO X.prog X.w s.heap.objs.size L), I.laid (t' := tk) k (Nat.le_refl _) (setTO_new R.t0), rfl, q _ L hn (fun p hp => ?_) fun p hp => ?_⟩
    · exact List.mem_of_mem_take (g.sub p hp)
    · exact g.all p (by rw [List.take_length]; exact hp)
theorem keys_of : ∀ {ps : List (Int × Int)} {vs : List V}, RepL K mg g (ps.map pairT) vs → ∃ ks : List (Addr × List Int), vs = ks.map (fun p => V.ref p.1) ∧ ks.map (·.2) = ps.map (fun p => [p.1, p.2]) ∧
    ∀ q ∈ ks, ∃ p ∈ ps, q.2 = [p.1, p.2] ∧ Rep K mg g (pairT p) (.ref q.1) ∧ SqT K g.H q.1 (q.2.map V.int)
  | [], vs, h => by
    simp only [List.map_nil, RepL] at h
    exact ⟨[], by rw [h]; rfl, rfl, fun q hq => absurd hq (by simp)⟩
  | p :: ps, vs, h => by
    simp only [List.map_cons, RepL] at h
    obtain ⟨v, r, e, h1, h2⟩ := h
    obtain ⟨ks, e2, hl, hk⟩ := keys_of h2
    obtain ⟨a, ws, ev, hs, hr⟩ := (show Rep K mg g (.tup [.int p.1, .int p.2]) v from h1).sqT
    have ew := rep_int2 hr
    refine ⟨(a, [p.1, p.2]) :: ks, by rw [e, ev, e2]; rfl, by rw [List.map_cons, hl, List.map_cons], fun q hq => ?_⟩
    rcases List.mem_cons.mp hq with z | z
    · subst z
      exact ⟨p, List.mem_cons_self, rfl, by rw [← ev]; exact h1, by rw [ew] at hs; exact hs⟩
    · obtain ⟨p', hp', r'⟩ := hk q z
      exact ⟨p', List.mem_cons_of_mem _ hp', r'⟩
/-- a list of keyed addresses back to trees -/
theorem reps_of {ks : List (Addr × List Int)} : ∀ {L : List (Addr × List Int)} {rs : List (Int × Int)}, L.map (·.2) = rs.map (fun p => [p.1, p.2]) → (∀ q ∈ L, ∃ p, q.2 = [p.1, p.2] ∧ Rep K mg g (pairT p) (.ref q.1)) → RepL K mg g (rs.map pairT) (L.map fun q => V.ref q.1)
  | [], [], _, _ => RepL.nil
  | [], _ :: _, e, _ => by simp at e
  | _ :: _, [], e, _ => by simp at e
  | q :: L, r :: rs, e, h => by
    rw [List.map_cons, List.map_cons] at e
    obtain ⟨e1, e2⟩ := List.cons.inj e
    obtain ⟨p, ep, rp⟩ := h q List.mem_cons_self
    have z : p = r := by
      rw [ep] at e1
      injection e1 with y1 y2
      injection y2 with y2 _
      exact Prod.ext y1 y2
    subst z
    exact RepL.cons rp (reps_of (ks := ks) e2 fun q hq => h q (List.mem_cons_of_mem _ hq))
theorem mSortSet : CallM X fSortSet (fun vs H Q => rSet2 X.K X.prog X.w vs H (fun x H2 => rSortedT X.K X.prog X.w [x] H2 Q)) := by
  intro W g σ ts vs Q R r h
  unfold fSortSet at h
  split at h
  · rename_i t
    obtain ⟨v, rfl, rv⟩ := r.one
    split at h
    · rename_i xs q
      obtain ⟨l, ws, rfl, hsq, hr⟩ := seq_of R rv q
      split at h
      · rename_i ps hps
        rw [pks_eq hps] at hr
        split at h
        · rename_i hc
          obtain ⟨hlen, hsm⟩ := hc
          obtain ⟨ks, e1, e2, hk⟩ := keys_of hr
          have hl : ks.length = ps.length := by
            have := congrArg List.length e2
            simpa using this
          rw [e1] at hsq
          refine ⟨l, ks, rfl, hsq, fun p hp => ?_, by omega, fun a L ha hs hcov => ?_⟩
          · obtain ⟨_, _, _, _, h5⟩ := hk p hp
            exact h5
          have e3 : Ext g (g.lay a (SetTO X.prog X.w a L)) := lay_ext R ha
          have R3 : Rel X.K X.mg (g.lay a (SetTO X.prog X.w a L)) := R.lay ha
          have sq3 : ∀ p ∈ ks, SqT X.K (upd g.H a (SetTO X.prog X.w a L)) p.1 (p.2.map V.int) := fun p hp => by
            obtain ⟨p', _, e5, r5, _⟩ := hk p hp
            obtain ⟨a', ws', ev, hs', hr'⟩ := (show Rep X.K X.mg _ (.tup [.int p'.1, .int p'.2]) _ from r5.mono e3).sqT
            have ew := rep_int2 hr'
            cases ev
            rw [ew] at hs'
            rw [e5]
            exact hs'
          have hbd : ∀ p ∈ ks, p.2.length = 2 ∧ TS.Bd 64 p.2 := fun p hp => by
            obtain ⟨p', hp', e5, _, _⟩ := hk p hp
            have hsm' := List.all_eq_true.mp hsm p' hp'
            unfold smallP at hsm'
            have hsm' := of_decide_eq_true hsm'
            rw [e5]
            refine ⟨rfl, fun m hm => ?_⟩
            rcases List.mem_cons.mp hm with z | z
            · omega
            · rw [List.mem_singleton] at z
              omega
          refine ⟨a, L, 2, 64, rfl, upd_same, fun p hp => sq3 p (hs p hp), by omega, fun p hp => hbd p (hs p hp), fun L' p pm nd hl' pw hp => ?_⟩
          have inL : ∀ q ∈ L', q ∈ ks := fun q hq => hs q (pm.mem_iff.mp hq)
          -- the keys of L' as pairs
          let un : List Int → Int × Int := fun l => (l.getD 0 0, l.getD 1 0)
          have e6 : L'.map (·.2) = ((L'.map fun q => un q.2)).map (fun p => [p.1, p.2]) := by
            rw [List.map_map]
            refine List.map_congr_left fun q hq => ?_
            obtain ⟨p', _, e5, _⟩ := hk q (inL q hq)
            show q.2 = [(un q.2).1, (un q.2).2]
            rw [e5]
            rfl
          have asc : AscP (L'.map fun q => un q.2) := by
            refine List.pairwise_map.mpr ?_
            have nd' := List.pairwise_map.mp nd
            refine (nd'.and pw).imp_of_mem fun {q r} hq hr hh => ?_
            obtain ⟨p1, m1, e7, _⟩ := hk q (inL q hq)
            obtain ⟨p2, m2, e8, _⟩ := hk r (inL r hr)
            obtain ⟨ne, le⟩ := hh
            have s1 := of_decide_eq_true (List.all_eq_true.mp hsm p1 m1)
            have s2 := of_decide_eq_true (List.all_eq_true.mp hsm p2 m2)
            rw [e7, e8] at ne le
            have z := pair_lt le ne ⟨s1.1, s1.2.1⟩ s1.2.2 ⟨s2.1, s2.2.1⟩ s2.2.2
            show ltPr (un q.2) (un r.2) = true
            rw [e7, e8]
            exact ltPr_iff.mpr z
          have eS : srtP ps = L'.map fun q => un q.2 := by
            refine ascP_uniq asc_srtP asc fun r => ?_
            rw [mem_srtP]
            constructor
            · intro hr'
              have : ([r.1, r.2] : List Int) ∈ ks.map (·.2) := by
                rw [e2]
                exact List.mem_map.mpr ⟨r, hr', rfl⟩
              obtain ⟨q, hq, eq⟩ := List.mem_map.mp this
              have h9 := hcov q hq
              rw [eq] at h9
              obtain ⟨q', hq', eq'⟩ := List.mem_map.mp h9
              refine List.mem_map.mpr ⟨q', pm.mem_iff.mpr hq', ?_⟩
              show un q'.2 = r
              rw [eq']
              rfl
            · intro hr'
              obtain ⟨q, hq, eq⟩ := List.mem_map.mp hr'
              obtain ⟨p', hp', e5, _⟩ := hk q (inL q hq)
              have : un q.2 = p' := by rw [e5]; rfl
              rw [← eq, this]
              exact hp'
          have rl : RepL X.K X.mg (g.lay a (SetTO X.prog X.w a L)) ((srtP ps).map pairT) (L'.map fun q => V.ref q.1) := by
            rw [eS]
            refine reps_of (ks := ks) e6 fun q hq => ?_
            obtain ⟨p', _, e5, r5, _⟩ := hk q (inL q hq)
            exact ⟨p', e5, r5.mono e3⟩
          exact wpR_lst (g := g.lay a (SetTO X.prog X.w a L)) (wpR.ext h e3) R3 rl hp
        · exact h.elim
      · exact h.elim
    · exact h.elim
  · exact h.elim
/-- sorted(set(e)) -/
theorem se_sortSet {e : Expr} {me : MA} {p1 p2 q1 q2 : Pos} (hc : X.calm = true) (hu : X.A.units + 64 < cLine) (hs : X.mg "sorted" = none) (ht : X.mg "set" = none) (ha : SA X W [e] me) (hg : Gl X "sorted" := by rfl) (hg2 : Gl X "set" := by rfl)
    (he : starEach [e] X.env = (false, eval e X.env) :: starEach [] X.env := by rfl) (hpl : (backTo q2 (starEach [] X.env)).any (·.1) = false := by rfl)
    (he2 : starEach [.Call (.Name "set" p2) [e] [] q2] X.env = (false, eval (.Call (.Name "set" p2) [e] [] q2) X.env) :: starEach [] X.env := by rfl) (hpl2 : (backTo q1 (starEach [] X.env)).any (·.1) = false := by rfl) :
    SE X W (.Call (.Name "sorted" p1) [.Call (.Name "set" p2) [e] [] q2] [] q1) (mA fSortSet me) := by
  have h1 := pe_callTy (x := "set") (p := p2) (pos := q2) (cr_set2 hc hu) hg2 ht (by decide +kernel) ha (by decide) (by decide) he hpl
  have h2 := pe_callB (x := "sorted") (p := p1) (pos := q1) (cr_sortedT hc) hg hs (by decide +kernel) (pa_cons h1 pa_nil he2) (by decide) (by decide) he2 hpl2
  exact weakE h2 fun σ H Q h => useA mSortSet h
end
end Mi
end part_Mi22
section part_Mi23
set_option maxRecDepth 100000
set_option maxHeartbeats 2000000
/-! Mi, part 23: comprehensions of two fors. -/
namespace Mi
open PySem PySem.Spec PyProof.Rows L2
section
variable {X : Cx} {K : PySem.W.Frag} {mg : Str → Option Value} {W : WX} {g : G} {σ : L2.St} {Q : VK} {D : Ends}
variable {a b c e : Expr} {ma mb mc me mt mt1 : ME} {mr : MA} {pos p : Pos} {es : List Expr} {x : Str}
def lcIn (mgt : MG) (mt me : ME) (s0 : SM) : List T → List T → MH → Option (List T × MH)
  | [], acc, h => some (acc, h)
  | x :: xs, acc, h => match mgt x s0 h with
    | .ok s1 h1 => match mt s1 h1 with
      | .ok (.bl true) h2 => match me s1 h2 with
        | .ok y h3 => if acc.length < big then lcIn mgt mt me s0 xs (acc ++ [y]) h3 else none
        | _ => none
      | .ok (.bl false) h2 => lcIn mgt mt me s0 xs acc h2
      | _ => none
    | .stuck => none
def lc2From (mgt : MG) (mt : ME) (mi1 : MI) (mgt1 : MG) (mt1 me : ME) (vs1 : List Nat) (s0 : SM) : List T → List T → MH → R
  | [], acc, h => .ok (.lst acc) h
  | x :: xs, acc, h => match mgt x s0 h with
    | .ok s1 h1 => match mt s1 h1 with
      | .ok (.bl true) h2 => match mi1 s1 h2 with
        | .ok ys h3 => match lcIn mgt1 mt1 me (wipeM s1 vs1) ys acc h3 with
          | some (acc', h4) => lc2From mgt mt mi1 mgt1 mt1 me vs1 s0 xs acc' h4
          | none => .stuck
        | _ => .stuck
      | .ok (.bl false) h2 => lc2From mgt mt mi1 mgt1 mt1 me vs1 s0 xs acc h2
      | _ => .stuck
    | .stuck => .stuck
def mLc2 (mi : MI) (mgt : MG) (mt : ME) (mi1 : MI) (mgt1 : MG) (mt1 me : ME) (own vs1 : List Nat) : ME := fun s h => (mi s h).bind fun xs h1 => lc2From mgt mt mi1 mgt1 mt1 me vs1 (wipeM s own) xs [] h1
/-- a state of the inner walk -/
structure InAt (K : PySem.W.Frag) (mg : Str → Option Value) (g1 gy : G) (Dl : Addr) (s2 : SM) (σ2 : L2.St) (f : List T → List T → MH → Option (List T × MH)) (done : List T → MH → Prop) (ys : List T) (j : Nat) (H : Hp) : Prop where
  ex : ∃ (gi : G) (acc : List T) (accV : List V) (accf : List T) (hf : MH), gi.H = H ∧ Rel K mg gi ∧ Sub gy gi ∧ Sub g1 gi ∧ gi.pv = Dl :: g1.pv ∧ (∀ a ∈ g1.pv, gi.H a = g1.H a) ∧ gi.H Dl = some (.lst accV) ∧ RepL K mg gi acc accV ∧ j ≤ ys.length ∧
    RepS K mg gi s2 σ2 ∧ f (ys.drop j) acc gi.h = some (accf, hf) ∧ done accf hf
theorem lc2_run {mgt mgt1 : MG} {mi1 : MI} {tl tl1 vs vs1 : List Nat} {J : It} {xs : List T} {g1 : G} {s : SM} (R1 : Rel K mg g1) (S1 : RepS K mg g1 s σ) (it : ItOk K mg g1 xs J) (htl : ∀ i ∈ tl, i ∈ vs) (htl1 : ∀ i ∈ tl1, i ∈ vs1)
    (h : wpR K mg W g1 σ Q (lc2From mgt mt mi1 mgt1 mt1 me vs1 (wipeM s vs) xs [] g1.h)) (Dl : Addr) (hD : g1.H Dl = none) :
    ∃ Wd : Nat → Nat → Hp → Prop, (∃ m, Wd 0 m (upd g1.H Dl (.lst []))) ∧ ∀ i m H, Wd i m H →
      (J.stop i H ∧ Q (.ref Dl) H) ∨ (J.go i H ∧ ∃ Nx : Hp → Prop, (∀ H', Nx H' → ∃ m', m' < m ∧ Wd (i + 1) m' H') ∧ ∀ x H', J.yld i H x H' → tMG K mg tl mgt x (wipe σ vs) H' fun σ2 H2 => wipe σ2 vs = wipe σ vs ∧ tMT K mg W0 mt σ2 H2 fun b H3 =>
        if b = true then tMI K mg W0 mi1 σ2 H3 fun J1 H4 => ∃ W1 : Nat → Nat → Hp → Prop, (∃ m, W1 0 m H4) ∧ ∀ j k H, W1 j k H →
          (J1.stop j H ∧ Nx H) ∨ (J1.go j H ∧ ∃ Nx1 : Hp → Prop, (∀ H', Nx1 H' → ∃ k', k' < k ∧ W1 (j + 1) k' H') ∧ ∀ x H', J1.yld j H x H' → tMG K mg tl1 mgt1 x (wipe σ2 vs1) H' fun σ3 H5 => wipe σ3 vs1 = wipe σ2 vs1 ∧ tMT K mg W0 mt1 σ3 H5 fun b H6 =>
            if b = true then tM K mg W0 me σ3 H6 fun y H7 => ∃ acc, H7 Dl = some (.lst acc) ∧ acc.length < sizeLine ∧ Nx1 (upd H7 Dl (.lst (acc ++ [y]))) else Nx1 H6)
        else Nx H3) := by
  have hpn : Dl ∉ g1.pv := fun z => blk_ne R1 hD Dl z rfl
  refine ⟨fun i m H => m = xs.length - i ∧ LcAt K mg W g1 Dl σ Q (lc2From mgt mt mi1 mgt1 mt1 me vs1 (wipeM s vs)) xs i H, ⟨xs.length, rfl, ?_⟩, fun i m H hW => ?_⟩
  · obtain ⟨s1, r1⟩ := pv_new (o := .lst []) R1 hD
    exact ⟨⟨_, [], [], rfl, r1, s1, rfl, fun a ha => by
      show upd g1.H Dl (.lst []) a = g1.H a
      rw [upd_ne (blk_ne R1 hD a ha)], upd_same, RepL.nil, Nat.zero_le _, by rw [List.drop_zero]; exact h⟩⟩
  · obtain ⟨rfl, ⟨gi, acc, accV, rfl, Ri, si, hpv, hpk, hDi, la, hi, hw⟩⟩ := hW
    by_cases hlt : i < xs.length
    · refine .inr ⟨it.go i gi si Ri hlt, fun H' => LcAt K mg W g1 Dl σ Q (lc2From mgt mt mi1 mgt1 mt1 me vs1 (wipeM s vs)) xs (i + 1) H', fun H' hn => ⟨xs.length - (i + 1), by omega, rfl, hn⟩, fun x H' hy => ?_⟩
      obtain ⟨g', rfl, eh, e1, R', t, ht, rt⟩ := it.yld i gi x H' si Ri hlt hy
      have edrop : xs.drop i = t :: xs.drop (i + 1) := by
        rw [List.drop_eq_getElem_cons hlt]
        have : xs[i] = t := by
          have := List.getElem?_eq_getElem hlt
          rw [ht] at this; exact (Option.some.inj this).symm
        rw [this]
      rw [edrop] at hw
      unfold lc2From at hw
      have S' : RepS K mg g' (wipeM s vs) (wipe σ vs) := ((S1.sub si).mono e1).wipe vs
      refine ⟨g', wipeM s vs, t, rfl, R', S', rt, ?_⟩
      rw [eh]
      cases q : mgt t (wipeM s vs) gi.h with
      | stuck => rw [q] at hw; exact hw.elim
      | ok s2 h2 =>
        rw [q] at hw
        dsimp only at hw
        intro g2 σ2 q2 e2 R2 S2 w2
        refine ⟨(w2 vs htl).trans (wipe_wipe σ vs vs fun _ z => z), g2, s2, rfl, R2, S2, ?_⟩
        rw [q2]
        have chain : ∀ g3 : G, Ext g' g3 → Sub g1 g3 ∧ g3.pv = Dl :: g1.pv ∧ (∀ a ∈ g1.pv, g3.H a = g1.H a) ∧ g3.H Dl = some (.lst accV) ∧ RepL K mg g3 acc accV := fun g3 e3 => by
          have e := e1.trans e3
          refine ⟨⟨fun i a z => e.rho i a (si.rho i a z), fun a u z n => let ⟨z1, n1⟩ := si.keep a u z n; e.keep a u z1 n1⟩, e.pv.trans hpv, fun a ha => (e.pvk a (by rw [hpv]; exact List.mem_cons_of_mem _ ha)).trans (hpk a ha), (e.pvk Dl (by rw [hpv]; exact List.mem_cons_self)).trans hDi, la.mono e⟩
        cases q3 : mt s2 h2 with
        | stuck => rw [q3] at hw; exact hw.elim
        | ex x h3 => rw [q3] at hw; exact hw.elim
        | ok tb h3 =>
          cases tb with
          | bl bb =>
            rw [q3] at hw
            intro g3 q4 e3 R3
            cases bb with
            | false =>
              refine iteF ?_
              obtain ⟨c1, c2, c3, c4, c5⟩ := chain g3 (e2.trans e3)
              exact ⟨⟨g3, acc, accV, rfl, R3, c1, c2, c3, c4, c5, hlt, by rw [q4]; exact hw⟩⟩
            | true =>
              refine iteT ⟨g3, s2, rfl, R3, S2.mono e3, ?_⟩
              rw [q4]
              dsimp only at hw
              cases q5 : mi1 s2 h3 with
              | stuck => rw [q5] at hw; exact hw.elim
              | ex x h4 => rw [q5] at hw; exact hw.elim
              | ok ys h4 =>
                rw [q5] at hw
                dsimp only at hw
                intro g4 J1 q6 e4 R4 it1
                cases q7 : lcIn mgt1 mt1 me (wipeM s2 vs1) ys acc h4 with
                | none => rw [q7] at hw; exact hw.elim
                | some pr =>
                  obtain ⟨accf, hf⟩ := pr
                  rw [q7] at hw
                  dsimp only at hw
                  obtain ⟨c1, c2, c3, c4, c5⟩ := chain g4 ((e2.trans e3).trans e4)
                  refine ⟨fun j k H => k = ys.length - j ∧ InAt K mg g1 g4 Dl s2 σ2 (lcIn mgt1 mt1 me (wipeM s2 vs1)) (fun accf hf => wpR K mg W g1 σ Q (lc2From mgt mt mi1 mgt1 mt1 me vs1 (wipeM s vs) (xs.drop (i + 1)) accf hf)) ys j H, ⟨ys.length, rfl, ⟨g4, acc, accV, accf, hf, rfl, R4, ⟨fun _ _ z => z, fun _ _ z n => ⟨z, n⟩⟩, c1, c2, c3, c4, c5, Nat.zero_le _, (S2.mono e3).mono e4, by rw [List.drop_zero, q6]; exact q7, hw⟩⟩, fun j k H hW1 => ?_⟩
                  obtain ⟨rfl, ⟨gj, bcc, bccV, bf, bh, rfl, Rj, sy, sj, jpv, jpk, jD, lb, hj, Sj, hin, hdone⟩⟩ := hW1
                  by_cases hlt1 : j < ys.length
                  · refine .inr ⟨it1.go j gj sy Rj hlt1, fun H' => InAt K mg g1 g4 Dl s2 σ2 (lcIn mgt1 mt1 me (wipeM s2 vs1)) (fun accf hf => wpR K mg W g1 σ Q (lc2From mgt mt mi1 mgt1 mt1 me vs1 (wipeM s vs) (xs.drop (i + 1)) accf hf)) ys (j + 1) H', fun H' hn => ⟨ys.length - (j + 1), by omega, rfl, hn⟩, fun x1 H1' hy1 => ?_⟩
                    obtain ⟨g5, rfl, eh5, e5, R5, t1, ht1, rt1⟩ := it1.yld j gj x1 H1' sy Rj hlt1 hy1
                    have edrop1 : ys.drop j = t1 :: ys.drop (j + 1) := by
                      rw [List.drop_eq_getElem_cons hlt1]
                      have : ys[j] = t1 := by
                        have := List.getElem?_eq_getElem hlt1
                        rw [ht1] at this; exact (Option.some.inj this).symm
                      rw [this]
                    rw [edrop1] at hin
                    unfold lcIn at hin
                    refine ⟨g5, wipeM s2 vs1, t1, rfl, R5, (Sj.mono e5).wipe vs1, rt1, ?_⟩
                    rw [eh5]
                    have chain1 : ∀ g6 : G, Ext g5 g6 → Sub g4 g6 ∧ Sub g1 g6 ∧ g6.pv = Dl :: g1.pv ∧ (∀ a ∈ g1.pv, g6.H a = g1.H a) ∧ g6.H Dl = some (.lst bccV) ∧ RepL K mg g6 bcc bccV ∧ RepS K mg g6 s2 σ2 := fun g6 e6 => by
                      have e := e5.trans e6
                      exact ⟨⟨fun i a z => e.rho i a (sy.rho i a z), fun a u z n => let ⟨z1, n1⟩ := sy.keep a u z n; e.keep a u z1 n1⟩, ⟨fun i a z => e.rho i a (sj.rho i a z), fun a u z n => let ⟨z1, n1⟩ := sj.keep a u z n; e.keep a u z1 n1⟩, e.pv.trans jpv, fun a ha => (e.pvk a (by rw [jpv]; exact List.mem_cons_of_mem _ ha)).trans (jpk a ha), (e.pvk Dl (by rw [jpv]; exact List.mem_cons_self)).trans jD, lb.mono e, Sj.mono e⟩
                    cases p1 : mgt1 t1 (wipeM s2 vs1) gj.h with
                    | stuck => rw [p1] at hin; cases hin
                    | ok s6 h6 =>
                      rw [p1] at hin
                      dsimp only at hin
                      intro g6 σ6 p2 e6 R6 S6 w6
                      refine ⟨(w6 vs1 htl1).trans (wipe_wipe σ2 vs1 vs1 fun _ z => z), g6, s6, rfl, R6, S6, ?_⟩
                      rw [p2]
                      cases p3 : mt1 s6 h6 with
                      | stuck => rw [p3] at hin; cases hin
                      | ex x h7 => rw [p3] at hin; cases hin
                      | ok tb1 h7 =>
                        cases tb1 with
                        | bl b1 =>
                          rw [p3] at hin
                          intro g7 p4 e7 R7
                          cases b1 with
                          | false =>
                            refine iteF ?_
                            obtain ⟨d1, d2, d3, d4, d5, d6, d7⟩ := chain1 g7 (e6.trans e7)
                            exact ⟨⟨g7, bcc, bccV, bf, bh, rfl, R7, d1, d2, d3, d4, d5, d6, hlt1, d7, by rw [p4]; exact hin, hdone⟩⟩
                          | true =>
                            refine iteT ⟨g7, s6, rfl, R7, S6.mono e7, ?_⟩
                            rw [p4]
                            dsimp only at hin
                            cases p5 : me s6 h7 with
                            | stuck => rw [p5] at hin; cases hin
                            | ex x h8 => rw [p5] at hin; cases hin
                            | ok y h8 =>
                              rw [p5] at hin
                              dsimp only at hin
                              intro g8 v p6 e8 R8 r8
                              split at hin
                              · rename_i hl
                                obtain ⟨d1, d2, d3, d4, d5, d6, d7⟩ := chain1 g8 ((e6.trans e7).trans e8)
                                refine ⟨bccV, d5, big_lt (by rw [← lb.length]; exact hl), ?_⟩
                                obtain ⟨s9, R9⟩ := pv_put (o := .lst (bccV ++ [v])) R8 (by rw [d3]; exact List.mem_cons_self)
                                refine ⟨⟨_, bcc ++ [y], bccV ++ [v], bf, bh, rfl, R9, ⟨fun i a z => s9.rho i a (d1.rho i a z), fun a u z n => let ⟨z1, n1⟩ := d1.keep a u z n; s9.keep a u z1 n1⟩, ⟨fun i a z => s9.rho i a (d2.rho i a z), fun a u z n => let ⟨z1, n1⟩ := d2.keep a u z n; s9.keep a u z1 n1⟩, d3, fun a ha => ?_, upd_same, (d6.sub s9).append (RepL.cons (Rep.sub s9 y v r8) RepL.nil), hlt1, d7.sub s9, ?_, hdone⟩⟩
                                · show upd g8.H Dl _ a = g1.H a
                                  rw [upd_ne (blk_ne R1 hD a ha)]; exact d4 a ha
                                · show lcIn mgt1 mt1 me (wipeM s2 vs1) (ys.drop (j + 1)) (bcc ++ [y]) g8.h = some (bf, bh)
                                  rw [p6]; exact hin
                              · cases hin
                        | _ => rw [p3] at hin; cases hin
                  · have e : j = ys.length := by omega
                    subst e
                    refine .inl ⟨it1.stop _ gj sy Rj (Nat.le_refl _), ?_⟩
                    rw [List.drop_length] at hin
                    unfold lcIn at hin
                    cases hin
                    exact ⟨⟨gj, bcc, bccV, rfl, Rj, sj, jpv, jpk, jD, lb, hlt, hdone⟩⟩
          | _ => rw [q3] at hw; exact hw.elim
    · have e : i = xs.length := by omega
      subst e
      refine .inl ⟨it.stop _ gi si Ri (Nat.le_refl _), ?_⟩
      rw [List.drop_length] at hw
      unfold lc2From at hw
      obtain ⟨s5, R5, n5⟩ := pv_out Ri hpv hpn
      refine hw { gi with pv := g1.pv } (.ref Dl) rfl ⟨si.rho, rfl, hpk, fun a u z n => let ⟨z1, n1⟩ := si.keep a u z n; s5.keep a u z1 n1⟩ R5 ?_
      simp only [Rep]
      exact ⟨Dl, accV, rfl, ⟨hDi, n5⟩, la.sub s5⟩
theorem use_lc2 {mi mi1 : MI} {mgt mgt1 : MG} {tl tl1 vs vs1 : List Nat} (htl : ∀ i ∈ tl, i ∈ vs) (htl1 : ∀ i ∈ tl1, i ∈ vs1) {H : Hp} (h : tM K mg W (mLc2 mi mgt mt mi1 mgt1 mt1 me vs vs1) σ H Q) :
    tLc2 (tMI K mg W mi) (tMG K mg tl mgt) (tMT K mg W0 mt) (tMI K mg W0 mi1) (tMG K mg tl1 mgt1) (tMT K mg W0 mt1) (tM K mg W0 me) vs vs1 σ H Q := by
  obtain ⟨g, s, rfl, R, S, h⟩ := h
  exact ⟨g, s, rfl, R, S, wpI_lc h fun g1 xs J e1 R1 it h1 => fun Dl hD => lc2_run R1 (S.mono e1) it htl htl1 h1 Dl hD⟩
theorem se_lc2 {elt tg iter tg1 iter1 : Expr} {ifs ifs1 : List Expr} {scope : Scope} {own : List (Str × Nat)} {vs1 : List Nat} {mi mi1 : MI} {mgt mgt1 : MG} {tl tl1 : List Nat} (hc : X.calm = true) (hN : X.N.Nodup) (hi : SI X W tg iter mi) (ok : BlkOk X.N X.env.scope scope own) (htl : subN tl (own.map (·.2)) = true) (htl1 : subN tl1 vs1 = true) (hv : subN vs1 (own.map (·.2)) = true)
    (hg : ∀ (s : Shared) (H : Hp) (C : Addr) (cl : List (Str × Addr)) (fp : List Addr), SG (X.blk s H scope (compEnvC scope cl C X.env) fp) tg tl mgt)
    (ht : ∀ (s : Shared) (H : Hp) (C : Addr) (cl : List (Str × Addr)) (fp : List Addr), PTs (X.blk s H scope (compEnvC scope cl C X.env) fp) ifs (tMT X.K X.mg W0 mt))
    (hi1 : ∀ (s : Shared) (H : Hp) (C : Addr) (cl : List (Str × Addr)) (fp : List Addr), SI (X.blk s H scope (compEnvC scope cl C X.env) fp) W0 tg1 iter1 mi1)
    (hg1 : ∀ (s : Shared) (H : Hp) (C : Addr) (cl : List (Str × Addr)) (fp : List Addr), SG (X.blk s H scope (compEnvC scope cl C X.env) fp) tg1 tl1 mgt1)
    (ht1 : ∀ (s : Shared) (H : Hp) (C : Addr) (cl : List (Str × Addr)) (fp : List Addr), PTs (X.blk s H scope (compEnvC scope cl C X.env) fp) ifs1 (tMT X.K X.mg W0 mt1))
    (he : ∀ (s : Shared) (H : Hp) (C : Addr) (cl : List (Str × Addr)) (fp : List Addr), SE (X.blk s H scope (compEnvC scope cl C X.env) fp) W0 elt me) (hs : ∀ x, foldedSetIterable iter X.env x = pure x := by intro _; rfl) (hs1 : ∀ env x, foldedSetIterable iter1 env x = pure x := by intro _ _; rfl) :
    SE X W (.ListComp elt [⟨tg, iter, ifs, 0⟩, ⟨tg1, iter1, ifs1, 0⟩] scope pos) (mLc2 mi mgt mt mi1 mgt1 mt1 me (own.map (·.2)) vs1) :=
  weakE (pe_lc2 hc hN hi ok (subN_ok hv) hg ht hi1 hg1 ht1 he hs hs1) fun _ _ _ h => use_lc2 (subN_ok htl) (subN_ok htl1) h
end
end Mi
end part_Mi23
section part_Mi24
set_option maxRecDepth 100000
set_option maxHeartbeats 4000000
/-! Mi, part 24: own exceptions over any built-in base: their class, what their __init__ leaves. -/
namespace Mi
open PySem PySem.Spec PyProof.Rows L2
/-- a built-in base class -/
structure BaseB (B nI iI : String) (mB : List Value) : Prop where
  kf : PySem.W.KxsFacts B iI
  ef : ExcBaseFacts B nI iI mB
  sf : StoreFacts B mB "object.__setattr__" "object"
theorem base_VE : BaseB "ValueError" "ValueError.__new__" "ValueError.__init__" [.type "ValueError", .type "Exception", .type "BaseException", .type "object"] := ⟨PySem.W.kxs_ValueError, F.excBase_ValueError, F.store_ValueError⟩
theorem base_LE : BaseB "LookupError" "LookupError.__new__" "LookupError.__init__" [.type "LookupError", .type "Exception", .type "BaseException", .type "object"] := ⟨PySem.W.kxs_LookupError, F.excBase_LookupError, F.store_LookupError⟩
theorem base_IE : BaseB "IndexError" "IndexError.__new__" "IndexError.__init__" [.type "IndexError", .type "LookupError", .type "Exception", .type "BaseException", .type "object"] := ⟨PySem.W.kxs_IndexError, F.excBase_IndexError, F.store_IndexError⟩
/-- own classes, then the base's mro -/
def RefsB (mB l : List Value) : Prop := ∃ cs : List Addr, l = cs.map Value.ref ++ mB
def isRefV : Value → Bool
  | .ref _ => true
  | _ => false
def refsBb (mB l : List Value) : Bool := decide (l.dropWhile isRefV = mB)
theorem refsB_of {mB l : List Value} (h : refsBb mB l = true) : RefsB mB l := by
  have e := of_decide_eq_true h
  have key : ∀ l : List Value, ∃ cs : List Addr, l = cs.map Value.ref ++ l.dropWhile isRefV := by
    intro l
    induction l with
    | nil => exact ⟨[], rfl⟩
    | cons a r ih =>
      obtain ⟨cs, q⟩ := ih
      cases a with
      | ref c => exact ⟨c :: cs, by rw [List.map_cons, List.cons_append, List.dropWhile_cons]; exact congrArg _ q⟩
      | _ => exact ⟨[], rfl⟩
  obtain ⟨cs, q⟩ := key l
  exact ⟨cs, by rw [e] at q; exact q⟩
theorem RefsB.has {mB l : List Value} (h : RefsB mB l) (X : String) : l.contains (.type X) = mB.contains (.type X) := by
  obtain ⟨cs, rfl⟩ := h
  induction cs with
  | nil => rfl
  | cons c cs ih => rw [List.map_cons, List.cons_append, List.contains_cons, ih]; rfl
theorem RefsB.pass {B nI iI : String} {mB l : List Value} (hB : BaseB B nI iI mB) (h : RefsB mB l) (self : Value) : refuseLoop self "__setattr__" l = pure () := by
  obtain ⟨cs, rfl⟩ := h
  induction cs with
  | nil => exact hB.sf.passes self
  | cons c cs ih => rw [List.map_cons, List.cons_append, refuseLoop_ref]; exact ih
theorem RefsB.cons {mB l : List Value} (h : RefsB mB l) (c : Addr) : RefsB mB (.ref c :: l) := by
  obtain ⟨cs, rfl⟩ := h
  exact ⟨c :: cs, rfl⟩
theorem RefsB.obj {B nI iI : String} {mB l : List Value} (hB : BaseB B nI iI mB) (h : RefsB mB l) : l.contains (.type "object") = true := (h.has "object").trans hB.sf.hasOwner
theorem RefsB.ne {B nI iI : String} {mB l : List Value} (hB : BaseB B nI iI mB) (h : RefsB mB l) : l.isEmpty = false := by
  have z := h.obj hB
  cases l with
  | nil => cases z
  | cons _ _ => rfl
/-- what the written part says of the class at C -/
structure OexB (K : PySem.W.Frag) (nI : String) (mB : List Value) (C : Addr) : Prop where
  cls : ∃ nm q N bs bm sn sub ab col dd k0 k1 k2 k3 k5, K.lookup C = some (excClassObj nm q C N bs bm true sn sub ab col dd k0 k1 k2 k3 k5 nI) ∧ RefsB mB bm
  sa : PySem.W.findIn K (.ref C) "__setattr__" = some (some (.builtin "object.__setattr__"))
  exC : PySem.W.subIn K (.ref C) (.type "BaseException") = some true
  tyC : PySem.W.typeIn K (.ref C) = some (.type "type")
  kC : PySem.W.keepIn K (.ref C) = true
section
open Builtin Builtin.ObjectAttr
variable {prog : Program} {w : World} {A : Around} {E : Value → Shared → Prop} {R : Result → Shared → Prop} {hp : Heap} {g : Array GenState} {d : Drawn} {t : Nat} {os : OsState} {B nI iI : String} {mB : List Value}
/-- the walk of object.__setattr__ on such an exception as far as its own dict -/
theorem osaB {K : W.Frag} {name : Str} {tk : Tok} {v : Value} {x C : Addr} {ox : Obj} {od : Option Obj} {cd : ClassData} (hB : BaseB B nI iI mB) (X : K.In hp) (I : W.InstAt hp x ox C od) (hcd : W.clsIn K C = some cd) (hm : RefsB mB cd.mro) (ha : W.findIn K (.ref C) name = some none)
    (hq : wpAny (model prog w) A.in1 (storeInOwnDict (.ref x) (.ref C) (.str name tk) name v false)
      (fun fin s' => match fin with | .done f => R (.ok f) s' | .again c' => c'.quiet = true ∧ codeAny (model prog w) A c' R s') (fun e s' => R (.error e) s') ⟨hp, g, d, t, os⟩) :
    codeAny (model prog w) A (.call (.builtin "object.__setattr__") ⟨[.ref x, .str name tk, v], []⟩) R ⟨hp, g, d, t, os⟩ := by
  have SF := F.store_object
  have sub : W.Looks (model prog w) hp (isInstance (.ref x) (.type "object")) true :=
    I.type.andThen (W.looks_mroIn X (by unfold W.mroIn; rw [hcd, Option.bind_some, if_neg (by rw [hm.ne hB]; decide), hm.obj hB]))
  refine codeAny_call_builtin SF.slot.plain SF.entry (@W.check_slot (model prog w) _ _ ⟨hp, g, d, t, os⟩ "object.__setattr__" "object" "__setattr__" (.ref x) [.str name tk, v] [] _ SF.kind SF.split sub (SF.args (.ref x) (.str name tk) v) ?_)
  have hmr : W.Looks (model prog w) hp (mroOf (.ref C)) cd.mro := (W.looks_clsIn X hcd).andThen .now
  have L3 : W.Looks (model prog w) hp (storeTaker? none) none := .now
  rw [W.osa_eq, refuse_eq]
  refine wpAny_bind (wpAny_bind (I.type.at (wpAny_bind (hmr.at ?_))))
  rw [hm.pass hB]
  exact wpAny_pure (wpAny_bind (I.type.at (wpAny_bind ((W.looks_findIn X ha).at (wpAny_bind (L3.at hq))))))
theorem osaB_new {K : W.Frag} {name : Str} {tk : Tok} {v : Value} {x C : Addr} {fv : Array Value} {cd : ClassData} (hB : BaseB B nI iI mB)
    (X : K.In hp) (hx : hp.get? x = some { cls := .ref C, data := .fields fv }) (hcd : W.clsIn K C = some cd) (hm : RefsB mB cd.mro) (hh : cd.hasDict = true) (ha : W.findIn K (.ref C) name = some none)
    (hq : ∀ h' tk' dx, (∀ b o, b ≠ x → hp.get? b = some o → h'.get? b = some o) → hp.objs.size ≤ dx → dx ≠ x → h'.get? x = some { cls := .ref C, dict := some dx, data := .fields fv } →
      h'.Ns1 dx (fun y => if y = name then some v else none) → R (.ok (.ret .none)) ⟨h', g, d, tk', os⟩) :
    codeAny (model prog w) A (.call (.builtin "object.__setattr__") ⟨[.ref x, .str name tk, v], []⟩) R ⟨hp, g, d, t, os⟩ := by
  have hxs : x ≠ hp.objs.size := Nat.ne_of_lt (Heap.lt_size hx)
  refine osaB hB X (ox := { cls := .ref C, data := .fields fv }) (od := none) ⟨hx, rfl, rfl, trivial⟩ hcd hm ha ?_
  have hcls : W.Looks (model prog w) hp (classData C) cd := W.looks_clsIn X hcd
  obtain ⟨nm, bs, mro, ns, qn, hd, sn, sb, ab, col, del⟩ := cd
  dsimp only at hh
  subst hh
  unfold storeInOwnDict ownDictForStores
  repeat (first | with_reducible refine HandSPX.store_in_new ?_ ?_ | with_reducible refine wpAny_loadPart_at hx ?_ | with_reducible refine hcls.at ?_ | wp_step)
  · exact ⟨_, #[], _, (Heap.get?_update_ne _ _ _ _ hxs.symm).trans (Heap.get?_push_at rfl rfl), rfl, fun e he => absurd he (by simp), fun _ => rfl⟩
  · intro h' tk' hn' hs
    have hx₁ : (hp.push { cls := .type "dict", data := .dict #[] }).get? x = some { cls := .ref C, data := .fields fv } := Heap.get?_push_of_some _ hx
    refine hq h' tk' hp.objs.size (fun b o hb ho => ?_) (Nat.le_refl _) hxs.symm ?_ hn'
    · exact (hs.2 b (Nat.ne_of_lt (Heap.lt_size ho))).trans ((Heap.get?_update_ne _ _ _ _ hb).trans (Heap.get?_push_of_some _ ho))
    · exact (hs.2 x hxs).trans (Heap.get?_update_self _ hx₁ rfl)
theorem osaB_old {K : W.Frag} {name : Str} {tk : Tok} {v : Value} {x C dx : Addr} {fv : Array Value} {cd : ClassData} {m0 : Str → Option Value} {nl : List Str} (hB : BaseB B nI iI mB)
    (X : K.In hp) (hx : hp.get? x = some { cls := .ref C, dict := some dx, data := .fields fv }) (hns : hp.Ns1 dx m0) (hw : Within m0 nl) (hz : nl.length ≤ 1000) (hcd : W.clsIn K C = some cd) (hm : RefsB mB cd.mro) (hh : cd.hasDict = true)
    (ha : W.findIn K (.ref C) name = some none)
    (hq : ∀ h' tk', (∀ b o, b ≠ dx → hp.get? b = some o → h'.get? b = some o) → h'.Ns1 dx (fun y => if y = name then some v else m0 y) → R (.ok (.ret .none)) ⟨h', g, d, tk', os⟩) :
    codeAny (model prog w) A (.call (.builtin "object.__setattr__") ⟨[.ref x, .str name tk, v], []⟩) R ⟨hp, g, d, t, os⟩ := by
  obtain ⟨oD, esD, epD, hoD, hdD, _⟩ := hns.count hw
  refine osaB hB X (ox := { cls := .ref C, dict := some dx, data := .fields fv }) (od := some oD) ⟨hx, rfl, rfl, hoD⟩ hcd hm ha ?_
  have hcls : W.Looks (model prog w) hp (classData C) cd := W.looks_clsIn X hcd
  obtain ⟨nm, bs, mro, ns, qn, hd, sn, sb, ab, col, del⟩ := cd
  dsimp only at hh
  subst hh
  unfold storeInOwnDict ownDictForStores
  repeat (first | with_reducible refine PySem.OEX.store_in_old hns hw hz ?_ | with_reducible refine wpAny_loadPart_at hx ?_ | with_reducible refine hcls.at ?_ | wp_step)
  intro h' tk' hn' hs
  exact hq h' tk' (fun b o hb ho => (hs.2 b hb).trans ho) hn'
end
section
variable {X : Cx} {pins : List (Addr × Obj)} {σ : L2.St} {H : Hp} {s : Shared} {a C dx : Addr} {f : Str} {y : V} {u : Value} {fs : List (Str × V)} {Q : Unit → Shared → Prop} {E : Value → Shared → Prop} {A : Around} {B nI iI : String} {mB : List Value}
/-- self.f = y, the first one -/
theorem ostB_new (hB : BaseB B nI iI mB) (T : OexB X.K nI mB C) (I : Inv X pins σ H s) (e : H a = some (exo a C none)) (hno : PySem.W.findIn X.K (.ref C) f = some none) (ry : RelV y u)
    (h : ∀ dx s', H dx = none → dx ≠ a → Inv X pins σ (upd (upd H dx (exd dx [(f, y)])) a (exo a C (some dx))) s' → Q () s') : wpAny (model X.prog X.w) A (setAttr (.ref a) f u) Q E s := by
  obtain ⟨nm, q, N, bs, bm, sn, sub, ab, col, dd, k0, k1, k2, k3, k5, hC, hbm⟩ := T.cls
  have hcl : PySem.W.clsIn X.K C = some { name := nm, bases := bs, mro := .ref C :: bm, ns := N, qualname := q, hasDict := true, slotNames := sn, subclasses := sub, abstract := ab, collection := col, hasDel := false } := by unfold PySem.W.clsIn; rw [hC] <;> rfl
  obtain ⟨t1, ho⟩ := exo_at I.hok e
  obtain ⟨hp, g, d, t, os⟩ := s
  refine PySem.W.set_plain I.kIn (ox := { cls := .ref C, dict := none, data := .fields #[.ref t1, .none, .none, .none, .bool false, .none] }) (od := none) ⟨ho, rfl, rfl, trivial⟩ T.sa ?_
  refine osaB_new hB I.kIn ho hcl (hbm.cons C) rfl hno (fun h' tk' dx k dn dne hx hn => ?_)
  have hnd : H dx = none := I.hok.fresh dn
  have nd : ∀ {b : Addr} {o : Obj}, hp.get? b = some o → b ≠ dx := fun {b o} q => Nat.ne_of_lt (Nat.lt_of_lt_of_le (Heap.lt_size q) dn)
  have na : ∀ {b : Addr}, H b = none → b ≠ a := fun {b} n z => by
    rw [z, e] at n
    cases n
  have Un1 : Un X.fs [] H (upd (upd H dx (exd dx [(f, y)])) a (exo a C (some dx))) hp h' := {
    keep := fun b o q n _ _ => k b o (na n) q
    slot := fun b o q n _ _ => ⟨o.slots, k b o (na n) q⟩
    free := fun b o q n _ => by rw [upd_ne (na n), upd_ne (nd q)]; exact n
    there := fun b o q _ => by
      by_cases hb : b = a
      · exact ⟨_, by rw [hb]; exact hx⟩
      · exact ⟨o, k b o hb q⟩
    tups := fun b xs q => by rw [upd_ne (at_ne e q exo_tup), upd_ne (ne_of_none q hnd)]; exact q
    frzs := fun b o v q => by rw [upd_ne (at_ne e q exo_frz), upd_ne (ne_of_none q hnd)]; exact q
    tbls := fun b ps q => ⟨#[], by rw [upd_ne (at_ne e q exo_tbl), upd_ne (ne_of_none q hnd), q]; simp⟩ }
  refine h dx _ hnd dne (I.un (t' := tk') Un1 fun b o q => ?_)
  by_cases hb : b = a
  · subst hb
    rw [upd_same] at q
    cases q
    exact exo_ok hx
  · rw [upd_ne hb] at q
    by_cases hd : b = dx
    · subst hd
      rw [upd_same] at q
      cases q
      exact exd_ok hn (relO_put (fs := []) ry fun g => True.intro)
    · rw [upd_ne hd] at q
      exact (I.hok b o q).stay (fun c v hc z => k c v (by
          rcases hc with hc | hc
          · rw [hc]
            exact hb
          · exact at_ne e hc exo_own) z)
        (fun c hc => by rw [upd_ne (at_ne e hc exo_own), upd_ne (ne_of_none hc hnd)]; exact hc) (fun c xs hc => by rw [upd_ne (at_ne e hc exo_tup), upd_ne (ne_of_none hc hnd)]; exact hc)
/-- self.f = y, a further one -/
theorem ostB_old (hB : BaseB B nI iI mB) (T : OexB X.K nI mB C) (I : Inv X pins σ H s) (e : H a = some (exo a C (some dx))) (ed : H dx = some (exd dx fs)) (hl : fs.length ≤ 900) (hno : PySem.W.findIn X.K (.ref C) f = some none) (ry : RelV y u)
    (h : ∀ s', Inv X pins σ (upd H dx (exd dx ((f, y) :: fs))) s' → Q () s') : wpAny (model X.prog X.w) A (setAttr (.ref a) f u) Q E s := by
  obtain ⟨nm, q, N, bs, bm, sn, sub, ab, col, dd, k0, k1, k2, k3, k5, hC, hbm⟩ := T.cls
  have hcl : PySem.W.clsIn X.K C = some { name := nm, bases := bs, mro := .ref C :: bm, ns := N, qualname := q, hasDict := true, slotNames := sn, subclasses := sub, abstract := ab, collection := col, hasDel := false } := by unfold PySem.W.clsIn; rw [hC] <;> rfl
  obtain ⟨t1, ho⟩ := exo_at I.hok e
  obtain ⟨mA, hns, rel⟩ := exd_at I.hok ed
  have hw := within_of rel
  obtain ⟨hp, g, d, t, os⟩ := s
  obtain ⟨oD, _, _, hoD, _, _⟩ := hns.count hw
  refine PySem.W.set_plain I.kIn (ox := { cls := .ref C, dict := some dx, data := .fields #[.ref t1, .none, .none, .none, .bool false, .none] }) (od := some oD) ⟨ho, rfl, rfl, hoD⟩ T.sa ?_
  refine osaB_old hB I.kIn ho hns hw (by rw [List.length_map]; omega) hcl (hbm.cons C) rfl hno (fun h' tk' k hn => ?_)
  have hd : ∃ o, h'.get? dx = some o := by
    obtain ⟨o, _, _, e', _⟩ := hn
    exact ⟨o, e'⟩
  exact h _ (I.write (t' := tk') (x := dx) (e := dx) (o := exd dx ((f, y) :: fs)) (by rw [ed]; exact True.intro) (.inl rfl) k hd (exd_ok hn (relO_put ry rel)))
end
/-- self.f = e in such an __init__ -/
def tOstB (K : PySem.W.Frag) (nI : String) (mB : List Value) (f : Str) (to te : TE) : TS := fun D σ H => te σ H fun y H1 => to σ H1 fun x H2 => ∃ a C : Addr, x = .ref a ∧ OexB K nI mB C ∧ PySem.W.findIn K (.ref C) f = some none ∧
  ((H2 a = some (exo a C none) ∧ ∀ dx, H2 dx = none → dx ≠ a → D.nx σ (upd (upd H2 dx (exd dx [(f, y)])) a (exo a C (some dx)))) ∨
    ∃ (dx : Addr) (fs : List (Str × V)), H2 a = some (exo a C (some dx)) ∧ H2 dx = some (exd dx fs) ∧ fs.length ≤ 900 ∧ D.nx σ (upd H2 dx (exd dx ((f, y) :: fs))))
theorem psB_ost {X : Cx} {o e : Expr} {to te : TE} {f : Str} {p' pos : Pos} {B nI iI : String} {mB : List Value} (hB : BaseB B nI iI mB) (ho : PE X o to) (he : PE X e te) (hs : swapsWith e (some (.Attribute o f p')) pos.line X.env = pure false := by rfl) : PS X (.Assign [.Attribute o f p'] e pos) (tOstB X.K nI mB f to te) := by
  refine ⟨fun pins s σ H D I h => ?_⟩
  refine plainObj_wpAny_Assign_Attribute (thn (he.run pins s σ H _ I h) fun v s1 ⟨y, H1, I1, r1, q1⟩ => thn (ho.run pins s1 σ H1 _ I1 q1) fun u s2 ⟨x, H2, I2, r2, a, C, ex, T, hno, q⟩ => ?_) hs
  subst ex
  obtain rfl : u = Value.ref a := r2
  rcases q with ⟨ea, q⟩ | ⟨dx, fs, ea, ed, hl, q⟩
  · exact ostB_new hB T I2 ea hno r1 fun dx s' n ne J => ⟨σ, _, J, q dx n ne⟩
  · exact ostB_old hB T I2 ea ed hl hno r1 fun s' J => ⟨σ, _, J, q⟩
end Mi
end part_Mi24
section part_Mi25
set_option maxRecDepth 100000
set_option maxHeartbeats 4000000
/-! Mi, part 25: super().__init__(..) in an own exception over any built-in base; its __init__ as a def. -/
namespace Mi
open PySem PySem.Spec PyProof.Rows L2
section
variable {prog : Program} {w : World} {A : Around} {E : Value → Shared → Prop} {h : Heap} {g : Array GenState} {d : Drawn} {t : Nat} {os : OsState}
variable {B nI iI : String} {mB : List Value} {nm q : Str} {C N : Addr} {bs bm : List Value} {hdct : Bool} {sn : List Str} {sub : List Value} {ab : Bool} {col : Option Bool} {dd : Option Addr} {k0 k1 k2 k3 k5 : Option Value}
theorem mw_callB (hB : BaseB B nI iI mB) {u e t0 : Addr} {rest : List Value} {Q : Value → Shared → Prop}
    (hC : h.get? C = some (excClassObj nm q C N bs bm hdct sn sub ab col dd k0 k1 k2 k3 k5 nI)) (he : h.get? e = some (HandSPX.excO C t0)) (hu : h.get? u = some (PySem.W.kxs_mw iI e)) (hrest : rest.length ≤ sizeLine)
    (hq : ∀ h' t1, (∀ b o, b ≠ e → h.get? b = some o → h'.get? b = some o) → h'.get? e = some (HandSPX.excO C t1) → Q .none ⟨h', g, d, t, os⟩) :
    wpAny (model prog w) A (call (.ref u) rest) Q E ⟨h, g, d, t, os⟩ := by
  refine wpAny_call (codeAny_of_tree ?_)
  show wpAny _ A.in1 (callAny (.ref u) ⟨rest, []⟩) _ _ _
  simp only [callAny]
  refine wpAny_bind (wpAny_load hu ?_)
  simp only [PySem.W.kxs_mw, show (Value.type "method-wrapper" == Value.type "method" || Value.type "method-wrapper" == Value.type "builtin_function_or_method" || Value.type "method-wrapper" == Value.type "method-wrapper") = true by decide, if_true]
  refine W.KFB.if_so (by decide) ?_
  refine wpAny_bind (PySem.ESX.check_bound hB.ef hC he rfl ?_)
  refine wpAny_bind (wpAny_pure (wpAny_pure ?_))
  refine ⟨plainId_quiet hB.ef.init.plain _, codeAny_builtin hB.ef.initEntry ?_⟩
  refine PySem.W.exc_init_tree (cls := .ref C) (t0 := t0) (dv := none) (c2 := .none) (c3 := .none) (b4 := .bool false) he hrest fun h' k1 k2 k3 => ?_
  exact hq h' _ k1 k2
end
section
variable {prog : Program} {w : World} {A : Around} {E : Value → Shared → Prop} {s : Shared} {K : PySem.W.Frag} {env : Env} {f cda cc x C : Addr} {m mg mb : Str → Option Value}
/-- super().__init__(e), at the code of its def -/
theorem supB_stmt {B nI iI : String} {mB : List Value} (hB : BaseB B nI iI mB) {P0 : Program} {body : List Stmt} {p0 p1 p2 p4 p5 : Pos} {e : Expr} {fd : FuncData} {ar : Arg} {vs : Array Value} {file : Str} {tf : Tok} {oc ccl cl : Value} {od cdd cld : Option Addr} {osl ccs csl : Array (Option Value)} {t1 : Addr} {Q : Flow → Shared → Prop}
    (X : K.In s.heap) (T : OexB K nI mB C) (hg : s.heap.Ns mainGlobals mg) (hb : s.heap.Ns builtinsNs mb) (hbb : mb "super" = some (.type "super")) (hms : mg "super" = none) (eg : env.globals = mainGlobals) (eb : env.builtins = builtinsNs) (hns : s.heap.Ns env.locals m)
    (hfu : env.func = some f) (hco : env.code = .ref cda) (hcell : env.cells.lookup ("__class__" : Str) = some cc)
    (hf : K.lookup f = some ⟨oc, od, .func fd, osl⟩) (hp : (fd.params.posonlyargs ++ fd.params.args).head? = some ar) (hv : m ar.arg = some (.ref x))
    (hcode : K.lookup cda = some ⟨ccl, cdd, .fields vs, ccs⟩) (hvs : vs[2]? = some (.str file tf)) (hfile : ((prog.main.file : Str) == file) = true)
    (hcc : K.lookup cc = some ⟨cl, cld, .cell (some (.ref C)), csl⟩) (hsub : PySem.W.mroIn K C (.ref C) = some true) (ho : PySem.W.nsIn K cStatics "thirdparty.any" = some none) (hsi : PySem.W.ks_superIn K C C "__init__" = some (some (.builtin iI))) (hVE : PySem.W.subIn K (.ref C) (.type B) = some true)
    (hks : env.scope.names.lookup ("super" : Str) = some .globalImplicit) (hkc : env.scope.names.lookup ("__class__" : Str) = some .free) (hka : env.scope.names.lookup ar.arg = some .local) (hk : env.scope.kind = .function)
    (htop : (prog.main.scope.names.lookup ("super" : Str)).isSome = false) (hx : s.heap.get? x = some (HandSPX.excO C t1))
    (he : ∀ s' (R : Value → Shared → Prop), (∀ v tk, R v { s' with toks := tk }) → wpAny (model prog w) A (eval e env) R E s')
    (hi : interactive env = false) (hpl : (backTo p4 (starEach [] env)).any (·.1) = false) (hnil : backTo p4 (starEach [] env) = []) (hst : starEach [e] env = (false, eval e env) :: starEach [] env)
    (hsw : swapsWith (.Call (.Attribute (.Call (.Name "super" p0) [] [] p1) "__init__" p2) [e] [] p4) none p5.line env = pure false)
    {pl : Sem Bool} (hev : eval (.Call (.Attribute (.Call (.Name "super" p0) [] [] p1) "__init__" p2) [e] [] p4) env = (do
      let ov ← attributeBase (.Call (.Name "super" p0) [] [] p1) "__init__" env (eval (.Call (.Name "super" p0) [] [] p1) env)
      standAt p2.atName
      let (f, first) ← holding [ov] (getMethod ov "__init__" pl)
      callWith p4 f first (backTo p4 (starEach [e] env)) []))
    (h : ∀ h' tk t2, (∀ b o, b ≠ x → s.heap.get? b = some o → h'.get? b = some o) → h'.get? x = some (HandSPX.excO C t2) → Q .next { s with heap := h', toks := tk }) :
    PySem.wpAt (model prog w) A (.func body env) (exec (.Expr (.Call (.Attribute (.Call (.Name "super" p0) [] [] p1) "__init__" p2) [e] [] p4) p5) env) Q E s := by
  obtain ⟨nm, qn, N, bs, bm, sn, sub, ab, col, dd, k0, k1, k2, k3, k5, hC, hbm⟩ := T.cls
  obtain ⟨cdC, hcd⟩ : ∃ cd, PySem.W.clsIn K C = some cd := by
    unfold PySem.W.ks_superIn at hsi
    cases q : PySem.W.clsIn K C with
    | none => rw [q] at hsi; cases hsi
    | some cd => exact ⟨cd, rfl⟩
  obtain ⟨oD, hD1, hD2⟩ : ∃ oD, s.heap.get? C = some oD ∧ oD.data = .cls cdC := by
    unfold PySem.W.clsIn at hcd
    split at hcd
    · rename_i c d cd' sl ho'
      cases hcd
      exact ⟨_, X _ _ ho', rfl⟩
    · cases hcd
  obtain ⟨hh, g, d, t, os⟩ := s
  refine PySem.ks_wpAt_Expr_any (PySem.ks_wpAt_MethodCall (pl := pl) (PySem.ks_wpAt_super_base (env := env) hks hkc (by decide) hfu (X _ _ hf) rfl hp hco (X _ _ hcode) rfl hvs hfile htop ?_) hev) hi hsw
  refine PySem.W.ks_loadName_global hk hks (Calls.loadGlobal_builtin (by rw [eg]; exact hg) hms (by rw [eb]; exact hb) hbb ⟨rfl, ?_⟩)
  refine wpAny_loadName_free hk hkc hcell ⟨_, X _ _ hcc, rfl⟩ ?_
  refine wpAny_loadName_local hk hka hns hv ?_
  refine PySem.ks_wpAny_isType_cls hD1 hD2 ⟨rfl, ?_⟩
  refine PySem.ks_wpAny_call_super hD1 hD2 hx rfl (fun c z => by cases z) (PySem.W.looks_mroIn X hsub) (fun h1 e1 k1 => ?_)
  have X1 : K.In h1 := fun b o z => k1 b o (X b o z)
  have hx1 : h1.get? x = some (HandSPX.excO C t1) := k1 _ _ hx
  have I1 : PySem.W.InstAt h1 x (HandSPX.excO C t1) C none := ⟨hx1, rfl, rfl, trivial⟩
  have hal : PySem.W.alongIn K "__init__" ((cdC.mro.dropWhile (· != .ref C)).drop 1) = some (some (.builtin iI)) := by
    unfold PySem.W.ks_superIn at hsi
    rw [hcd] at hsi
    exact hsi
  refine PySem.W.kxs_getMethod hB.kf e1 (PySem.W.looks_opaque X1 ho) (l₀ := cdC.mro) (fun A Q E s k q => wpAny_bind ((PySem.W.looks_clsIn X1 hcd) A _ E s k (wpAny_pure q))) rfl X1 hal (I1.type.andThen (PySem.W.looks_subIn X1 hVE)) (PySem.W.ks_ne X1 I1 hcd) (by decide) ?_
  have hmw : (h1.push (PySem.W.kxs_mw iI x)).get? h1.objs.size = some (PySem.W.kxs_mw iI x) := Heap.get?_push_size h1 rfl
  have k2 : ∀ b o, h1.get? b = some o → (h1.push (PySem.W.kxs_mw iI x)).get? b = some o := fun b o z => Heap.get?_push_of_some _ z
  rw [hst]
  refine PySem.W.kxs_callWith (i := iI) (x := x) (by show (false || (backTo p4 (starEach [] env)).any (·.1)) = false; rw [hpl]; rfl) (Calls.evalArgs_plain (Calls.spliced_cons (he _ _ fun v tk => ?_)))
  show wpAny _ _ (spliced (backTo p4 (starEach [] env))) _ _ _
  rw [hnil]
  refine Calls.spliced_nil ⟨hmw, ?_⟩
  refine mw_callB hB (t0 := t1) (by exact k2 _ _ (X1 _ _ hC)) (k2 _ _ hx1) hmw (by show 1 ≤ sizeLine; rw [sizeLine_eq]; omega) fun h' t2 k3 e3 => ?_
  exact h h' _ t2 (fun b o nb z => k3 b o nb (k2 b o (k1 b o z))) e3
end
open NdefX (NF envF ncx startF NScope CellsAt inv_startN)
/-- what the written part says of it -/
structure SupB (B nI iI : String) (mB : List Value) (P : Program) (K : PySem.W.Frag) (mg : Str → Option Value) (C f cc : Addr) (F : NF) (doc pm ctv : Value) : Prop where
  fn : ∃ oc od osl, K.lookup f = some ⟨oc, od, .func (F.fd doc pm ctv), osl⟩
  cl : F.cl = [(("__class__" : Str), cc)]
  cd : PySem.W.codeIn K (.ref F.c) F.qual = true
  file : ∃ ccl cdd vs ccs file tf, K.lookup F.c = some ⟨ccl, cdd, .fields vs, ccs⟩ ∧ vs[2]? = some (.str file tf) ∧ ((P.main.file : Str) == file) = true
  cell : ∃ cl cld csl, K.lookup cc = some ⟨cl, cld, .cell (some (.ref C)), csl⟩
  sub : PySem.W.mroIn K C (.ref C) = some true
  op : PySem.W.nsIn K cStatics "thirdparty.any" = some none
  si : PySem.W.ks_superIn K C C "__init__" = some (some (.builtin iI))
  ve : PySem.W.subIn K (.ref C) (.type B) = some true
  ex : OexB K nI mB C
  top : (P.main.scope.names.lookup ("super" : Str)).isSome = false
  ms : mg "super" = none
/-- the text of its first row -/
structure SupT (F : NF) (ps : List Str) (z : Str) (j : Nat) (p0 p1 p2 p3 p4 p5 : Pos) (rest : List Stmt) : Prop where
  body : F.body = .Expr (.Call (.Attribute (.Call (.Name "super" p0) [] [] p1) "__init__" p2) [.Constant (.str z) j p3] [] p4) p5 :: rest
  ks : F.scope.names.lookup ("super" : Str) = some .globalImplicit
  arg : ∃ ar, (F.params.posonlyargs ++ F.params.args).head? = some ar ∧ ps.head? = some ar.arg
  ev : ∀ f L : Addr, ∃ pl : Sem Bool, eval (.Call (.Attribute (.Call (.Name "super" p0) [] [] p1) "__init__" p2) [.Constant (.str z) j p3] [] p4) (envF F f L) = (do
      let ov ← attributeBase (.Call (.Name "super" p0) [] [] p1) "__init__" (envF F f L) (eval (.Call (.Name "super" p0) [] [] p1) (envF F f L))
      standAt p2.atName
      let (f1, first) ← holding [ov] (getMethod ov "__init__" pl)
      callWith p4 f1 first (backTo p4 (starEach [.Constant (.str z) j p3] (envF F f L))) [])
theorem supInitB_ok {B nI iI : String} {mB : List Value} (hB : BaseB B nI iI mB) {P : Program} {w : World} {K : PySem.W.Frag} {mg : Str → Option Value} {base : Heap} {CX : CXT} {k : Nat} {C f cc : Addr} {F : NF} {doc pm ctv : Value} {N ps : List Str} {rest : List Stmt} {sp : Sp} (U : SupB B nI iI mB P K mg C f cc F doc pm ctv) {z : Str} {j : Nat} {p0 p1 p2 p3 p4 p5 : Pos} (V1 : SupT F ps z j p0 p1 p2 p3 p4 p5 rest) (S : NScope N ps ["__class__"] F.scope)
    (len : ∀ vs H Q E, sp vs H Q E → vs.length = ps.length) (self : ∀ vs H Q E, sp vs H Q E → ∃ a zs, vs = .ref a :: zs ∧ H a = some (exo a C none))
    (hrest : ∀ (A : Around) (outer : List Env) (s : Shared) (H : Hp) (vs : List V) (Q : VK) (E : XK), Room k (A.deeper (envF F f s.heap.objs.size)) → sp vs H Q E →
      ∃ t, PSs (ncx CX P w K mg base N F f A outer s H E) rest t ∧ t { nx := fun _ H' => Q .non H', rt := Q } (startF N vs [some (V.ref C)]) H) :
    FnOk P w K mg base CX (k + 1) f (F.fd doc pm ctv) ps sp := by
  refine ⟨len, fun A outer s H args us vs Q E hr e0 hb r hsp => ?_⟩
  have hl := len _ _ _ _ hsp
  obtain ⟨a, zs, rfl, ha⟩ := self _ _ _ _ hsp
  have lim : s.heap.NoLimit := e0.mod.nolimit.keeps fun b o e => (e0.bs b o e).1
  have KI : K.In s.heap := fun b o z => (e0.bs b o (e0.mod.kin b o z)).1
  obtain ⟨oc, od, osl, hf⟩ := U.fn
  obtain ⟨ccl, cdd, cvs, ccs, file, tf, hcode, hvs, hfile⟩ := U.file
  obtain ⟨cl, cld, csl, hcc⟩ := U.cell
  have hccs : s.heap.get? cc = some ⟨cl, cld, .cell (some (.ref C)), csl⟩ := KI _ _ hcc
  have hccH : H cc = none := (e0.bs _ _ (e0.mod.kin _ _ hcc)).2
  refine codeAny_call_function hr.depth (KI _ _ hf) rfl S.co S.gen rfl (PySem.W.codeRec_of KI U.cd) (hb _ _ _ _ ?_)
  refine wpAny_newFunctionEnv S.nocell (fun ⟨n, _⟩ hy => S.par n (List.of_mem_zip hy).1) (fun h1 hns hsb => ⟨lim.fresh _ hsb, ?_⟩) S.kind
  have kp : ∀ b o, s.heap.get? b = some o → h1.get? b = some o := fun b o e => hsb.extBut b o (Nat.ne_of_lt (Heap.lt_size e)) (Heap.get?_push_of_some _ e)
  have Cel : CellsAt F.cl ["__class__"] [some (V.ref C)] s.heap H := by
    rw [U.cl]
    refine ⟨rfl, fun y c e => ?_, fun x y c e1 e2 => ?_, fun i y e => ?_⟩
    · rw [List.lookup_cons] at e
      split at e
      · cases e; exact ⟨hccH, some (.ref C), _, hccs, rfl⟩
      · cases e
    · rw [List.lookup_cons] at e1 e2
      split at e1
      · rename_i q1
        split at e2
        · rename_i q2
          rw [eq_of_beq q1, eq_of_beq q2]
        · cases e2
      · cases e1
    · cases i with
      | zero =>
        cases e
        refine ⟨cc, by simp [List.lookup_cons], fun v hv => ?_⟩
        cases hv
        exact ⟨.ref C, rfl, _, hccs, rfl⟩
      | succ i => simp at e
  have I : Inv (ncx CX P w K mg base N F f A outer s H E) [] (startF N (.ref a :: zs) [some (V.ref C)]) H { s with heap := h1, toks := s.toks + (ps.zip us).length } := inv_startN S hr.hd e0 hl r Cel hns kp
  obtain ⟨t, ht, hq⟩ := hrest A outer s H (.ref a :: zs) Q E (hr.deeper _) hsp
  have hbody := V1.body
  obtain ⟨pl, hev⟩ := V1.ev f s.heap.objs.size
  obtain ⟨ar, har, hps⟩ := V1.arg
  show codeAny _ _ (.func F.body (envF F f s.heap.objs.size)) _ _
  refine PySem.ks_codeAny_funcAt ?_
  have hx : execs F.body (envF F f s.heap.objs.size) = execs (.Expr (.Call (.Attribute (.Call (.Name "super" p0) [] [] p1) "__init__" p2) [.Constant (.str z) j p3] [] p4) p5 :: rest) (envF F f s.heap.objs.size) := by rw [hbody]
  rw [hx]
  refine PySem.ks_wpAt_execs_cons ?_
  obtain ⟨tt, htt⟩ := exo_at I.hok ha
  have X1 : K.In h1 := fun b o z => kp _ _ (KI b o z)
  obtain ⟨mb, hmb, hmbb⟩ := e0.mod.blt
  have g1 : h1.Ns mainGlobals mg := (e0.mod.glob.keeps fun b o z => (e0.bs b o z).1).keeps kp
  have g2 : h1.Ns builtinsNs mb := (hmb.keeps fun b o z => (e0.bs b o z).1).keeps kp
  have har' : (F.params.posonlyargs ++ F.params.args).head? = some ar := har
  have hlen : us.length = ps.length := by rw [← r.length]; exact hl
  have hv : (ps.zip us).reverse.lookup ar.arg = some (.ref a) := by
    cases ps with
    | nil => cases hps
    | cons q qs =>
      cases r with
      | cons r1 r2 =>
        cases r1
        cases hps
        refine NdefX.zip_look (i := 0) ?_ rfl rfl
        have q : (List.take ((ar.arg :: qs).length + [("__class__" : Str)].length) N).Nodup := S.nd.sublist (List.take_sublist ((ar.arg :: qs).length + [("__class__" : Str)].length) N)
        rw [S.pre] at q
        exact (List.nodup_append.mp q).1
  have hin : interactive (envF F f s.heap.objs.size) = false := by
    show (F.scope.kind == .module && _) = false
    rw [S.kind]
    rfl
  refine supB_stmt hB (K := K) (P0 := P) (C := C) (x := a) (f := f) (cc := cc) (ar := ar) X1 U.ex g1 g2 ?_ U.ms rfl rfl hns rfl rfl ?_ hf har' hv hcode hvs hfile hcc U.sub U.op U.si U.ve V1.ks ?_ ?_ S.kind U.top htt ?_ hin rfl rfl rfl rfl hev ?_
  · rw [hmbb _ (by decide)]; rfl
  · show F.cl.lookup _ = _
    rw [U.cl]; rfl
  · exact S.frk _ (List.mem_singleton.mpr rfl)
  · exact S.par _ (by cases ps with | nil => cases hps | cons q qs => cases hps; exact List.mem_cons_self ..)
  · intro s' R hR
    exact Calls.Constant_str (hR _ _)
  · intro h' tk t2 k hx'
    refine wpAt_of_wpAny ?_
    have J0 := I.write (t' := tk) (x := a) (e := a) (o := exo a C none) (by rw [ha]; exact True.intro) (.inl rfl) k ⟨_, hx'⟩ (exo_ok hx')
    have eu : upd H a (exo a C none) = H := by
      funext b
      by_cases hb : b = a
      · rw [hb, upd_same, ha]
      · rw [upd_ne hb]
    rw [eu] at J0
    refine wpAny_mono (ht.run [] _ (startF N (.ref a :: zs) [some (V.ref C)]) H _ J0 hq) (fun fl s' hs => ?_) fun e s' hs => hs
    have fin : ∀ {σ' : L2.St} {H' : Hp} {v : V} {u : Value}, Inv (ncx CX P w K mg base N F f A outer s H E) [] σ' H' s' → L2.RelV v u → Q v H' → CE outer P w H s Q u s' :=
      fun {σ' H' v u} J rv q => ⟨v, H', J.os, J.bare, J.base, J.hok, rv, q⟩
    cases fl with
    | ret u =>
      obtain ⟨v, σ', H', J, rv, q⟩ := hs
      exact fin J rv q
    | next =>
      obtain ⟨σ', H', J, q⟩ := hs
      exact fin (v := V.non) (u := Value.none) J rfl q
    | brk =>
      obtain ⟨_, _, _, q⟩ := hs
      exact False.elim q
    | cont =>
      obtain ⟨_, _, _, q⟩ := hs
      exact False.elim q
end Mi
end part_Mi25
section part_Mi26
set_option maxRecDepth 100000
set_option maxHeartbeats 4000000
/-! Mi, part 26: an own exception as a value: made, its fields. -/
namespace Mi
open PySem PySem.Spec PyProof.Rows L2
open NdefX (NF envF ncx startF NScope CellsAt inv_startN)
/-! ### the texts of such an __init__ -/
def supE (z : Str) (j : Nat) (p0 p1 p2 p3 p4 p5 : Pos) : Stmt := .Expr (.Call (.Attribute (.Call (.Name "super" p0) [] [] p1) "__init__" p2) [.Constant (.str z) j p3] [] p4) p5
def asgC (t z : Str) (j : Nat) (q0 q1 q2 q3 : Pos) : Stmt := .Assign [.Attribute (.Name "self" q0) t q1] (.Constant (.str z) j q2) q3
def asgN (f : Str) (q0 q1 q2 q3 : Pos) : Stmt := .Assign [.Attribute (.Name "self" q0) f q1] (.Name f q2) q3
def spE0 (C : Addr) (z : Str) : Sp := fun vs H Q _ => ∃ a, vs = [V.ref a] ∧ H a = some (exo a C none) ∧ ∀ d, H d = none → d ≠ a → Q .non (upd (upd H d (exd d [("tag", .str z)])) a (exo a C (some d)))
def spE1 (C : Addr) (z f : Str) : Sp := fun vs H Q _ => ∃ a y, vs = [V.ref a, y] ∧ H a = some (exo a C none) ∧ ∀ d, H d = none → d ≠ a → Q .non (upd (upd (upd H d (exd d [("tag", .str z)])) a (exo a C (some d))) d (exd d [(f, y), ("tag", .str z)]))
/-- the call of super().__init__ is a plain method call -/
def SupEv (z : Str) (j : Nat) (p0 p1 p2 p3 p4 : Pos) : Prop := ∀ env : Env, ∃ pl : Sem Bool, eval (.Call (.Attribute (.Call (.Name "super" p0) [] [] p1) "__init__" p2) [.Constant (.str z) j p3] [] p4) env = (do
      let ov ← attributeBase (.Call (.Name "super" p0) [] [] p1) "__init__" env (eval (.Call (.Name "super" p0) [] [] p1) env)
      standAt p2.atName
      let (f1, first) ← holding [ov] (getMethod ov "__init__" pl)
      callWith p4 f1 first (backTo p4 (starEach [.Constant (.str z) j p3] env)) [])
section
variable {P : Program} {w : World} {K : PySem.W.Frag} {mg : Str → Option Value} {base : Heap} {CX : CXT} {k : Nat} {C f cc : Addr} {F : NF} {doc pm ctv : Value} {B nI iI : String} {mB : List Value}
theorem exn0_ok (hB : BaseB B nI iI mB) (U : SupB B nI iI mB P K mg C f cc F doc pm ctv) (hT : PySem.W.findIn K (.ref C) "tag" = some none) {z : Str} {j j2 : Nat} {p0 p1 p2 p3 p4 p5 q0 q1 q2 q3 : Pos} (hb : F.body = [supE z j p0 p1 p2 p3 p4 p5, asgC "tag" z j2 q0 q1 q2 q3]) (hev : SupEv z j p0 p1 p2 p3 p4)
    (S : NScope ["self", "__class__"] ["self"] ["__class__"] F.scope) (ks : F.scope.names.lookup ("super" : Str) = some .globalImplicit) (arg : ∃ ar, (F.params.posonlyargs ++ F.params.args).head? = some ar ∧ ar.arg = ("self" : Str)) :
    FnOk P w K mg base CX (k + 1) f (F.fd doc pm ctv) ["self"] (spE0 C z) := by
  obtain ⟨ar, ha, hs⟩ := arg
  refine supInitB_ok hB U ⟨hb, ks, ⟨ar, ha, by rw [hs]; rfl⟩, fun f L => hev _⟩ S (fun vs H Q E ⟨a, e, _⟩ => by rw [e]; rfl) (fun vs H Q E ⟨a, e, h, _⟩ => ⟨a, [], e, h⟩) ?_
  intro A outer s H vs Q E hr ⟨a, e, h1, h2⟩
  subst e
  refine ⟨_, pss_cons (psB_ost hB (pe_var (i := 0) (x := "self") rfl (.inl (S.par _ (List.mem_cons_self ..)))) pe_str rfl) pss_nil, ?_⟩
  exact ⟨V.ref a, rfl, a, C, rfl, U.ex, hT, .inl ⟨h1, fun d n1 n2 => h2 d n1 n2⟩⟩
theorem exn1_ok (hB : BaseB B nI iI mB) (U : SupB B nI iI mB P K mg C f cc F doc pm ctv) (hT : PySem.W.findIn K (.ref C) "tag" = some none) {z x : Str} (hX : PySem.W.findIn K (.ref C) x = some none) {j j2 : Nat} {p0 p1 p2 p3 p4 p5 q0 q1 q2 q3 r0 r1 r2 r3 : Pos} (hb : F.body = [supE z j p0 p1 p2 p3 p4 p5, asgC "tag" z j2 q0 q1 q2 q3, asgN x r0 r1 r2 r3]) (hev : SupEv z j p0 p1 p2 p3 p4)
    (S : NScope ["self", x, "__class__"] ["self", x] ["__class__"] F.scope) (ks : F.scope.names.lookup ("super" : Str) = some .globalImplicit) (arg : ∃ ar, (F.params.posonlyargs ++ F.params.args).head? = some ar ∧ ar.arg = ("self" : Str))
    (hd : (x == ("__debug__" : Str)) = false) (hcd : (x == ("__classdict__" : Str)) = false) :
    FnOk P w K mg base CX (k + 1) f (F.fd doc pm ctv) ["self", x] (spE1 C z x) := by
  obtain ⟨ar, ha, hs⟩ := arg
  refine supInitB_ok hB U ⟨hb, ks, ⟨ar, ha, by rw [hs]; rfl⟩, fun f L => hev _⟩ S (fun vs H Q E ⟨a, y, e, _⟩ => by rw [e]; rfl) (fun vs H Q E ⟨a, y, e, h, _⟩ => ⟨a, [y], e, h⟩) ?_
  intro A outer s H vs Q E hr ⟨a, y, e, h1, h2⟩
  subst e
  refine ⟨_, pss_cons (psB_ost hB (pe_var (i := 0) (x := "self") rfl (.inl (S.par _ (List.mem_cons_self ..)))) pe_str rfl) (pss_cons (psB_ost hB (pe_var (i := 0) (x := "self") rfl (.inl (S.par _ (List.mem_cons_self ..)))) (pe_var (i := 1) (x := x) rfl (.inl (S.par _ (List.mem_cons_of_mem _ (List.mem_cons_self ..)))) hd hcd) rfl) pss_nil), ?_⟩
  refine ⟨V.ref a, rfl, a, C, rfl, U.ex, hT, .inl ⟨h1, fun d n1 n2 => ?_⟩⟩
  refine ⟨y, rfl, V.ref a, rfl, a, C, rfl, U.ex, hX, .inr ⟨d, _, upd_same, ?_, ?_, h2 d n1 n2⟩⟩
  · rw [upd_ne n2, upd_same]
  · exact Nat.le_of_ble_eq_true rfl
end
end Mi
end part_Mi26
section part_Mi27
set_option maxRecDepth 100000
set_option maxHeartbeats 4000000
/-! Mi, part 27: C(e) as a value, C an own exception. -/
namespace Mi
open PySem PySem.Spec PyProof.Rows L2
section
variable {X : Cx} {pins : List (Addr × Obj)} {σ : L2.St} {H : Hp} {s : Shared} {a C d : Addr} {fs : List (Str × V)}
/-- the made exception is called so from now on -/
theorem Inv.named (I : Inv X pins σ H s) (ea : H a = some (exo a C (some d))) (ed : H d = some (exd d fs)) (ne : d ≠ a) : Inv X pins σ (upd (upd H d (.xd fs)) a (XO C a d)) s := by
  obtain ⟨hp, g, dr, t, os⟩ := s
  obtain ⟨t1, ho⟩ := exo_at I.hok ea
  obtain ⟨mA, hns, rel⟩ := exd_at I.hok ed
  have nn : ∀ {b : Addr}, H b = none → b ≠ a ∧ b ≠ d := fun {b} n => ⟨fun z => (by rw [z, ea] at n; cases n), fun z => (by rw [z, ed] at n; cases n)⟩
  have U : Un X.fs [] H (upd (upd H d (.xd fs)) a (XO C a d)) hp hp := {
    keep := fun b o q n _ _ => q
    slot := fun b o q n _ _ => ⟨o.slots, q⟩
    free := fun b o q n _ => by rw [upd_ne (nn n).1, upd_ne (nn n).2]; exact n
    there := fun b o q _ => ⟨o, q⟩
    tups := fun b xs q => by rw [upd_ne (at_ne ea q exo_tup), upd_ne (at_ne ed q exd_tup)]; exact q
    frzs := fun b o v q => by
      rw [upd_ne (at_ne ea q exo_frz), upd_ne (at_ne ed q fun z => by have z' : HO.ext _ = HO.frz o v := z; cases z')]; exact q
    tbls := fun b ps q => ⟨#[], by rw [upd_ne (at_ne ea q exo_tbl), upd_ne (at_ne ed q fun z => by have z' : HO.ext _ = HO.tbl ps := z; cases z'), q]; simp⟩ }
  refine I.un (t' := t) U fun b o q => ?_
  by_cases hb : b = a
  · subst hb
    rw [upd_same] at q
    cases q
    exact ⟨⟨_, _, ho, ⟨rfl, rfl⟩, rfl⟩, ⟨_, ho⟩, fun h1 h2 ⟨oe, vs, e1, e2⟩ k => ⟨oe, vs, k _ e1, e2⟩⟩
  · rw [upd_ne hb] at q
    by_cases hd : b = d
    · subst hd
      rw [upd_same] at q
      cases q
      exact ⟨mA, hns, rel⟩
    · rw [upd_ne hd] at q
      exact (I.hok b o q).stay (fun c v hc z => z)
        (fun c hc => by rw [upd_ne (at_ne ea hc exo_own), upd_ne (at_ne ed hc exd_own)]; exact hc) (fun c xs hc => by rw [upd_ne (at_ne ea hc exo_tup), upd_ne (at_ne ed hc exd_tup)]; exact hc)
end
/-- an own exception class, its __init__ done -/
structure ExC (P : Program) (w : World) (K : PySem.W.Frag) (mg : Str → Option Value) (base : Heap) (k : Nat) (c : Str) (ps : List Str) (sp : Addr → Sp) (C fI : Addr) (fd : FuncData) (nI : String) (mB : List Value) : Prop where
  cn : mg c = some (.ref C)
  T : OexB K nI mB C
  iC : PySem.W.findIn K (.ref C) "__init__" = some (some (.ref fI))
  tI : PySem.W.typeIn K (.ref fI) = some (.type "function")
  ok : FnOk P w K mg base (L2.CX P w) k fI fd ps (sp C)
/-- its values bound to its parameters, whatever stands around -/
def BindsEv (fd : FuncData) (args : Args) (r : List (Str × Value)) : Prop := ∀ s : Shared, BindsTo s fd args r
section
variable {X : Cx} {K : PySem.W.Frag} {mg : Str → Option Value} {W : WX} {g : G} {σ : L2.St} {Q : VK}
variable {e : Expr} {ma : ME} {mr : MA} {pos p : Pos} {es : List Expr} {c x z : Str} {k : Nat} {ps : List Str} {sp : Addr → Sp} {C fI : Addr} {fd : FuncData} {B nI iI : String} {mB : List Value}
/-- the call of the class, the values at hand -/
theorem exn_call (hB : BaseB B nI iI mB) (h : ExC X.prog X.w X.K X.mg X.base k c ps sp C fI fd nI mB) (hr : Room (k + 1) X.A) (tk : Takes X W) {pins : List (Addr × Obj)} {H1 : Hp} {us : List Value} {vs : List V} {s1 : Shared} (I1 : Inv X pins σ H1 s1) (r1 : Vals vs us) (hbs : ∀ u : Value, BindsEv fd ⟨u :: us, []⟩ (ps.zip (u :: us))) (hz : vs.length ≤ 1000) (hn : ∀ a, H1 a = none → sp C (V.ref a :: vs) (upd H1 a (exo a C none)) (fun v H2 => v = .non ∧ ∃ d fs, H2 a = some (exo a C (some d)) ∧ H2 d = some (exd d fs) ∧ d ≠ a ∧ Q (.ref a) (upd (upd H2 d (.xd fs)) a (XO C a d))) (WE W σ)) :
    wpAny (model X.prog X.w) X.A (call (.ref C) us) (EP X pins σ Q) X.xe s1 := by
  obtain ⟨nm, q, N, bs, bm, sn, sub, ab, col, dd, k0, k1, k2, k3, k5, hC, hbm⟩ := h.T.cls
  obtain ⟨hp, g, dr, tk', os⟩ := s1
  have hsz : hp.objs.size ≤ hp.objs.size + 1 := Nat.le_succ _
  have nn : H1 (hp.objs.size + 1) = none := I1.hok.fresh hsz
  have hq := hn (hp.objs.size + 1) nn
  have kk : ∀ b o, hp.get? b = some o → ((hp.push (PySem.W.kdv_tup us)).push (PySem.HandSPX.excO C hp.objs.size)).get? b = some o := fun b o e => Heap.get?_push_of_some _ (Heap.get?_push_of_some _ e)
  have hget : ((hp.push (PySem.W.kdv_tup us)).push (PySem.HandSPX.excO C hp.objs.size)).get? (hp.objs.size + 1) = some (PySem.HandSPX.excO C hp.objs.size) := by heap_get
  have I2 : Inv X pins σ (upd H1 (hp.objs.size + 1) (exo (hp.objs.size + 1) C none)) ⟨(hp.push (PySem.W.kdv_tup us)).push (PySem.HandSPX.excO C hp.objs.size), g, dr, tk', os⟩ :=
    I1.laid (t' := tk') (a := hp.objs.size + 1) (o := exo (hp.objs.size + 1) C none) (h' := (hp.push (PySem.W.kdv_tup us)).push (PySem.HandSPX.excO C hp.objs.size)) kk hsz (exo_ok hget)
  have r2 : Vals (V.ref (hp.objs.size + 1) :: vs) (Value.ref (hp.objs.size + 1) :: us) := .cons rfl r1
  have hus : us.length ≤ sizeLine := by
    rw [← Paired.length r1, sizeLine_eq]
    omega
  have z := code_at h.ok (hr.make C us []) (I2.env0.make C us []) (passAt tk σ) I2 (hbs (Value.ref (hp.objs.size + 1)) _) r2 hq
  refine wpAny_call (PySem.HandSPX.call_own hB.ef hbm.has (I1.kIn _ _ hC) (PySem.W.looks_findIn I1.kIn h.iC) (fun self => PySem.W.bind_fn I1.kIn self h.tI) hus (codeAny_mono z fun r s' hq' => ?_))
  cases r with
  | error er => exact hq'
  | ok fl =>
    cases fl with
    | ret u =>
      obtain ⟨v, H2, I3, rv, ev, d, fs, ea, ed, ne, q2⟩ := hq'
      subst ev
      exact ⟨rv, .ref (hp.objs.size + 1), _, Inv.named I3 ea ed ne, rfl, q2⟩
    | _ => exact hq'.elim
end
/-- a class of one field, of none -/
def HasE1 (P : Program) (w : World) (K : PySem.W.Frag) (mg : Str → Option Value) (base : Heap) (k : Nat) (c z f : Str) : Prop :=
  ∃ B nI iI mB C fI fd, BaseB B nI iI mB ∧ ExC P w K mg base k c ["self", f] (fun C => spE1 C z f) C fI fd nI mB ∧ (∀ u v : Value, BindsEv fd ⟨[u, v], []⟩ [("self", u), (f, v)]) ∧ (∀ u v : Value, BindsEv fd ⟨[u], [(f, v)]⟩ [("self", u), (f, v)])
def HasE0 (P : Program) (w : World) (K : PySem.W.Frag) (mg : Str → Option Value) (base : Heap) (k : Nat) (c z : Str) : Prop :=
  ∃ B nI iI mB C fI fd, BaseB B nI iI mB ∧ ExC P w K mg base k c ["self"] (fun C => spE0 C z) C fI fd nI mB ∧ (∀ u : Value, BindsEv fd ⟨[u], []⟩ [("self", u)])
abbrev HasE1X (X : Cx) := HasE1 X.prog X.w X.K X.mg X.base
abbrev HasE0X (X : Cx) := HasE0 X.prog X.w X.K X.mg X.base
section
variable {X : Cx} {K : PySem.W.Frag} {mg : Str → Option Value} {W : WX} {g : G} {σ : L2.St} {Q : VK}
variable {e : Expr} {ma : ME} {mr : MA} {pos p : Pos} {es : List Expr} {c f z : Str} {k : Nat}
def fExn1 (c z f : Str) : List T → MH → R := fun ts h => match ts with
  | [y] => .ok (.exn c [f, "tag"] [y, .str z]) h
  | _ => .stuck
def fExn0 (c z : Str) : List T → MH → R := fun ts h => match ts with
  | [] => .ok (.exn c ["tag"] [.str z]) h
  | _ => .stuck
/-- the exception stands -/
theorem exn_lands {C a d : Addr} {ns : List Str} {ts : List T} {fs : List (Str × V)} {H2 : Hp} (R : Rel K mg g) (hC : mg c = some (.ref C)) (ha : g.H a = none) (hd : g.H d = none) (ne : d ≠ a) (hn : fs.map (·.1) = ns) (rf : RepL K mg g ts (fs.map (·.2))) (hH : ∀ b, b ≠ a → b ≠ d → H2 b = g.H b)
    (h : wpR K mg W g σ Q (.ok (.exn c ns ts) g.h)) : Q (.ref a) (upd (upd H2 d (.xd fs)) a (XO C a d)) := by
  have e : upd (upd H2 d (.xd fs)) a (XO C a d) = upd (upd g.H d (.xd fs)) a (XO C a d) := by
    funext b
    by_cases h1 : b = a
    · rw [h1, upd_same, upd_same]
    · rw [upd_ne h1, upd_ne h1]
      by_cases h2 : b = d
      · rw [h2, upd_same, upd_same]
      · rw [upd_ne h2, upd_ne h2, hH b h1 h2]
  rw [e]
  have e0 : Ext g (g.lay d (.xd fs)) := lay_ext R hd
  have R0 : Rel K mg (g.lay d (.xd fs)) := R.lay hd
  have ha0 : (g.lay d (.xd fs)).H a = none := by
    show upd g.H d (.xd fs) a = none
    rw [upd_ne (Ne.symm ne)]; exact ha
  have e1 : Ext (g.lay d (.xd fs)) ((g.lay d (.xd fs)).lay a (XO C a d)) := lay_ext R0 ha0
  refine h ((g.lay d (.xd fs)).lay a (XO C a d)) (.ref a) rfl (e0.trans e1) (R0.lay ha0) ?_
  have k1 := (lay_sub ha0 (o := XO C a d)).keep d (.xd fs) upd_same (R.nohid hd)
  simp only [Rep]
  exact ⟨a, C, d, fs, rfl, ⟨upd_same, R0.nohid ha0⟩, k1, hC, hn, (rf.mono e0).mono e1⟩
theorem spE1_at {C a : Addr} {y : V} {t : T} (R : Rel K mg g) (hC : mg c = some (.ref C)) (ha : g.H a = none) (r : Rep K mg g t y) (h : wpR K mg W g σ Q (fExn1 c z f [t] g.h)) :
    spE1 C z f [.ref a, y] (upd g.H a (exo a C none)) (fun v H2 => v = .non ∧ ∃ d fs, H2 a = some (exo a C (some d)) ∧ H2 d = some (exd d fs) ∧ d ≠ a ∧ Q (.ref a) (upd (upd H2 d (.xd fs)) a (XO C a d))) (WE W σ) := by
  refine ⟨a, y, rfl, upd_same, fun d hd ne => ⟨rfl, d, _, ?_, upd_same, ne, ?_⟩⟩
  · rw [upd_ne (Ne.symm ne), upd_same]
  · refine exn_lands (ns := [f, "tag"]) (ts := [t, .str z]) R hC ha (by rw [upd_ne ne] at hd; exact hd) ne rfl (RepL.cons r (RepL.cons rStr RepL.nil)) (fun b h1 h2 => ?_) h
    rw [upd_ne h2, upd_ne h1, upd_ne h2, upd_ne h1]
theorem spE0_at {C a : Addr} (R : Rel K mg g) (hC : mg c = some (.ref C)) (ha : g.H a = none) (h : wpR K mg W g σ Q (fExn0 c z [] g.h)) :
    spE0 C z [.ref a] (upd g.H a (exo a C none)) (fun v H2 => v = .non ∧ ∃ d fs, H2 a = some (exo a C (some d)) ∧ H2 d = some (exd d fs) ∧ d ≠ a ∧ Q (.ref a) (upd (upd H2 d (.xd fs)) a (XO C a d))) (WE W σ) := by
  refine ⟨a, rfl, upd_same, fun d hd ne => ⟨rfl, d, [("tag", .str z)], upd_same, ?_, ne, ?_⟩⟩
  · rw [upd_ne ne, upd_same]
  · refine exn_lands (ns := ["tag"]) (ts := [.str z]) R hC ha (by rw [upd_ne ne] at hd; exact hd) ne rfl (RepL.cons rStr RepL.nil) (fun b h1 h2 => ?_) h
    rw [upd_ne h1, upd_ne h2, upd_ne h1]
/-- C(e) -/
theorem se_exn1 (Hx : HasE1X X k c z f) (hr : Room (k + 1) X.A) (tk : Takes X W) (ha : SE X W e ma) (hg : Gl X c := by rfl) (hdb : (c == ("__debug__" : Str)) = false := by decide)
    (he : starEach [e] X.env = (false, eval e X.env) :: starEach [] X.env := by rfl) (hpl : (backTo pos (starEach [] X.env)).any (·.1) = false := by rfl) :
    SE X W (.Call (.Name c p) [e] [] pos) (mA (fExn1 c z f) (aCons ma aNil)) := by
  obtain ⟨B, nI, iI, mB, C, fI, fd, hB, h, hb, _⟩ := Hx
  refine ⟨fun pins s σ H Q I q => ?_⟩
  obtain ⟨g, s0, rfl, R, S, q⟩ := q
  refine wpAny_Call_Name_kw (ld_glob I hg h.cn ?_ hdb)
  refine PySem.W.callWith_K (h₀ := X.base) I.ok.mod.kin h.T.kC (thn ((sa_cons ha sa_nil he).run pos pins s σ g.H _ I ⟨g, s0, rfl, R, S, wpL_of q (Q' := fun vs H1 => ∃ g1 t y, g1.H = H1 ∧ vs = [y] ∧ Rel X.K X.mg g1 ∧ Rep X.K X.mg g1 t y ∧ wpR X.K X.mg W g1 σ Q (fExn1 c z f [t] g1.h)) fun g1 ts vs e1 R1 r1 h1 => ?_⟩) fun us s1 ⟨vs, H1, I1, r, g1, t, y, eH, ev, R1, r1, h1⟩ => ⟨I1.kIn, ?_⟩) he hpl
  · match ts, r1, h1 with
    | [t], r1, h1 =>
      obtain ⟨y, ey, ry⟩ := r1.one
      exact ⟨g1, t, y, rfl, ey, R1, ry, h1⟩
    | [], r1, h1 => exact h1.elim
    | _ :: _ :: _, r1, h1 => exact h1.elim
  · subst eH ev
    refine exn_call hB h hr tk I1 r (fun u => ?_) (show 1 ≤ 1000 by omega) fun a hn => spE1_at R1 h.cn hn r1 h1
    cases r with
    | cons r1 r2 =>
      cases r2
      exact hb u _
/-- C() -/
theorem se_exn0 (Hx : HasE0X X k c z) (hr : Room (k + 1) X.A) (tk : Takes X W) (hg : Gl X c := by rfl) (hdb : (c == ("__debug__" : Str)) = false := by decide) :
    SE X W (.Call (.Name c p) [] [] pos) (mA (fExn0 c z) aNil) := by
  obtain ⟨B, nI, iI, mB, C, fI, fd, hB, h, hb⟩ := Hx
  refine ⟨fun pins s σ H Q I q => ?_⟩
  obtain ⟨g, s0, rfl, R, S, q⟩ := q
  refine wpAny_Call_Name_kw (ld_glob I hg h.cn ?_ hdb)
  exact PySem.W.callWith_K0 I.kIn h.T.kC (exn_call hB h hr tk I .nil (fun u => hb u) (Nat.zero_le _) fun a hn => spE0_at R h.cn hn q)
end
end Mi
end part_Mi27
section part_Mi28
set_option maxRecDepth 100000
set_option maxHeartbeats 4000000
/-! Mi, part 28: C(f = e), C an own exception. -/
namespace PySem
namespace MiX
open Builtin Builtin.ObjectAttr
section
variable {prog : Program} {w : World} {A : Around} {E : Value → Shared → Prop} {R : Result → Shared → Prop} {h : Heap} {g : Array GenState} {d : Drawn} {t : Nat} {os : OsState}
variable {nm q : Str} {C N : Addr} {bs bm bmB : List Value} {hdct : Bool} {sn : List Str} {sub : List Value} {ab : Bool} {col : Option Bool} {dd : Option Addr} {k0 k1 k2 k3 k5 : Option Value} {B newId initId : String} {kw : List (Str × Value)}
theorem chk_tcK {M : Model} {rest : List Value} {Q : Unit → Shared → Prop} (hC : h.get? C = some (excClassObj nm q C N bs bm hdct sn sub ab col dd k0 k1 k2 k3 k5 newId))
    (hq : Q () ⟨h, g, d, t, os⟩) : wpAny M A (checkBuiltinCall "type.__call__" ⟨.ref C :: rest, kw⟩) Q E ⟨h, g, d, t, os⟩ := by
  have f3 := tc_sub
  have hT : (⟨h, g, d, t, os⟩ : Shared).TypeIs (.ref C) "type" := ⟨_, hC, rfl⟩
  simp only [checkBuiltinCall, tc_kind, tc_split]
  repeat (any_goals (first | assumption | with_reducible refine wpAny_loadPart_at hC ?_ | with_reducible refine wpAny_onRaise ?_ | with_reducible refine wpAny_map ?_ | wp_step))
theorem chk_newK {M : Model} (F : ExcBaseFacts B newId initId bmB) (hT : ∀ X : String, bm.contains (.type X) = bmB.contains (.type X)) {rest : List Value} {Q : Unit → Shared → Prop}
    (hC : h.get? C = some (excClassObj nm q C N bs bm hdct sn sub ab col dd k0 k1 k2 k3 k5 newId)) (hq : Q () ⟨h, g, d, t, os⟩) : wpAny M A (checkBuiltinCall newId ⟨.ref C :: rest, kw⟩) Q E ⟨h, g, d, t, os⟩ := by
  have hcont : (Value.ref C :: bm).contains (.type B) = true := by rw [List.contains_cons, hT, F.hasB, Bool.or_true]
  have hstar := F.noStar
  simp only [checkBuiltinCall, F.newKind, F.newSplit, F.newRow]
  repeat (first | refine wpAny_loadPart_at hC ?_ | (refine wpAny_isSubtype_exc hC ?_; rw [hcont]) | refine wpAny_staticBase_exc hC ?_ | refine wpAny_madeBy_exc hC ?_ | simp only [bne_self_eq_false, Bool.false_eq_true, if_false] | wp_step)
  exact hq
theorem newK_own (F : ExcBaseFacts B newId initId bmB) (hT : ∀ X : String, bm.contains (.type X) = bmB.contains (.type X)) {rest : List Value}
    (hC : h.get? C = some (excClassObj nm q C N bs bm hdct sn sub ab col dd k0 k1 k2 k3 k5 newId))
    (hq : R (.ok (.ret (.ref (h.objs.size + 1)))) ⟨(h.push (PySem.W.kdv_tup rest)).push (PySem.HandSPX.excO C h.objs.size), g, d, t, os⟩) (hrest : rest.length ≤ sizeLine) :
    codeAny (model prog w) A (.builtin newId ⟨.ref C :: rest, kw⟩) R ⟨h, g, d, t, os⟩ := by
  have hends := F.ends
  have hcB : (Value.ref C :: bm).contains (.type B) = true := by rw [List.contains_cons, hT, F.hasB, Bool.or_true]
  have hcA : (Value.ref C :: bm).contains (.type "AttributeError") = false := by rw [List.contains_cons, hT, F.noAttr]; rfl
  have hcN : (Value.ref C :: bm).contains (.type "NameError") = false := by rw [List.contains_cons, hT, F.noName]; rfl
  refine codeAny_builtinAt F.entry ?_
  unfold Builtin.«BaseException.__new__»
  refine wpAt_bind ?_
  show wpAt _ _ _ (stack >>= _) _ _ _
  refine wpAt_bind (wpAt_stack fun p below => wpAt_of_wpAny ?_)
  wp_walk
  refine wpAt_of_wpAny ?_
  rw [F.owner]
  repeat (first | with_reducible refine wpAny_madeHere_exc F.canon hC ?_ | with_reducible refine wpAny_loadPart_at hC ?_ | (with_reducible refine wpAny_isSubtype_exc hC ?_; first | rw [hcB] | rw [hcA] | rw [hcN]) | wp_step)
  show R _ _
  rw [Heap.size_push]
  exact hq
theorem type_callK (F : ExcBaseFacts B newId initId bmB) (hT : ∀ X : String, bm.contains (.type X) = bmB.contains (.type X)) {rest : List Value} {fI : Addr} {Q : Fin → Shared → Prop}
    (hC : h.get? C = some (excClassObj nm q C N bs bm hdct sn sub ab col dd k0 k1 k2 k3 k5 newId))
    (hi : W.Looks (model prog w) h (typeLookup (.ref C) "__init__") (some (.ref fI))) (hb : ∀ self, W.Looks (model prog w) h (bindSpecial (.ref fI) self) (.ref fI, [self])) (hrest : rest.length ≤ sizeLine)
    (hq : codeAny (model prog w) A (.call (.ref fI) ⟨.ref (h.objs.size + 1) :: rest, kw⟩)
      (fun r s' => match r with | .ok (.ret v) => v = .none ∧ Q (.done (.ret (.ref (h.objs.size + 1)))) s' | .ok _ => False | .error e => E e s')
      ⟨(h.push (W.kdv_tup rest)).push (PySem.HandSPX.excO C h.objs.size), g, d, t, os⟩) :
    wpAny (model prog w) A (Builtin.«type.__call__» ⟨.ref C :: rest, kw⟩) Q E ⟨h, g, d, t, os⟩ := by
  repeat (first | with_reducible refine wpAny_loadPart_at hC ?_ | with_reducible refine wpAny_madeBy_exc hC ?_ | wp_step)
  refine codeAny_call_builtin_code (Code.quiet_builtin _ F.quiet) (chk_newK F hT hC ?_)
  refine newK_own F hT hC ?_ hrest
  show wpAny _ _ _ _ _ _
  have k : ∀ b o, h.get? b = some o → ((h.push (W.kdv_tup rest)).push (PySem.HandSPX.excO C h.objs.size)).get? b = some o := fun b o e => Heap.get?_push_of_some _ (Heap.get?_push_of_some _ e)
  have hC₁ := k _ _ hC
  have hget : ((h.push (W.kdv_tup rest)).push (PySem.HandSPX.excO C h.objs.size)).get? (h.objs.size + 1) = some (PySem.HandSPX.excO C h.objs.size) := by heap_get
  have hcC : (Value.ref C :: bm).contains (.ref C) = true := by simp
  have i1 := hi.keeps k
  have b1 := (hb (.ref (h.objs.size + 1))).keeps k
  unfold isInstance
  repeat (first | with_reducible refine wpAny_loadPart_at hget ?_ | (with_reducible refine wpAny_isSubtype_exc hC₁ ?_; rw [hcC]) | wp_step)
  show wpAny _ _ (typeLookup (.ref C) _) _ _ _
  refine i1.at ?_
  refine wpAny_holding (wpAny_bind (b1.at ?_))
  refine wpAny_bind (wpAny_call (codeAny_mono hq fun r s' z => ?_))
  rcases r with e | (v | _ | _ | _) <;> first | exact z | exact z.elim | skip
  obtain ⟨rfl, z⟩ := z
  first
    | exact wpAny_pure (wpAny_pure z)
    | (wp_walk; exact z)
theorem callK_own (F : ExcBaseFacts B newId initId bmB) (hT : ∀ X : String, bm.contains (.type X) = bmB.contains (.type X)) {rest : List Value} {fI : Addr}
    (hC : h.get? C = some (excClassObj nm q C N bs bm hdct sn sub ab col dd k0 k1 k2 k3 k5 newId))
    (hi : W.Looks (model prog w) h (typeLookup (.ref C) "__init__") (some (.ref fI))) (hb : ∀ self, W.Looks (model prog w) h (bindSpecial (.ref fI) self) (.ref fI, [self])) (hrest : rest.length ≤ sizeLine)
    (hq : codeAny (model prog w) (A.under (.builtin "type.__call__" ⟨.ref C :: rest, kw⟩)) (.call (.ref fI) ⟨.ref (h.objs.size + 1) :: rest, kw⟩) (W.InitBack (h.objs.size + 1) R)
      ⟨(h.push (W.kdv_tup rest)).push (PySem.HandSPX.excO C h.objs.size), g, d, t, os⟩) :
    codeAny (model prog w) A (.call (.ref C) ⟨rest, kw⟩) R ⟨h, g, d, t, os⟩ := by
  have f1 := tc_lookup
  have f2 := tc_bind (.ref C)
  have hTy : (⟨h, g, d, t, os⟩ : Shared).TypeIs (.ref C) "type" := ⟨_, hC, rfl⟩
  refine codeAny_of_tree ?_
  show wpAny _ _ (callAny (.ref C) _) _ _ _
  repeat (any_goals (first | assumption | with_reducible refine wpAny_loadPart_at hC ?_ | wp_step))
  refine ⟨rfl, ?_⟩
  refine codeAny_call_builtin_at (Code.quiet_builtin _ (by decide +kernel)) entry_typeCall (chk_tcK hC (type_callK F hT hC hi hb hrest ?_))
  refine codeAny_mono hq fun r s' z => ?_
  rcases r with e | (v | _ | _ | _) <;> exact z
end
end MiX
end PySem
end part_Mi28
section part_Mi29
set_option maxRecDepth 100000
set_option maxHeartbeats 4000000
/-! Mi, part 29: C(f = e); the fields of an exception, isinstance of it. -/
namespace Mi
open PySem PySem.Spec PyProof.Rows L2
section
variable {X : Cx} {K : PySem.W.Frag} {mg : Str → Option Value} {W : WX} {g : G} {σ : L2.St} {Q : VK}
variable {a e : Expr} {ma : ME} {mr : MA} {pos p kp : Pos} {es : List Expr} {c f z : Str} {k : Nat}
/-- C(f = e) -/
theorem se_exnK (Hx : HasE1X X k c z f) (hr : Room (k + 1) X.A) (tk : Takes X W) (hkw : SK X W [⟨some f, e, kp⟩] (aCons ma aNil)) (hg : Gl X c := by rfl) (hdb : (c == ("__debug__" : Str)) = false := by decide)
    (hall : (backToKw pos (keywordEach [⟨some f, e, kp⟩] X.env)).all (·.1.isSome) = true := by rfl) (hks : (backToKw pos (keywordEach [⟨some f, e, kp⟩] X.env)).filterMap (·.1) = [f] := by rfl)
    (hpl : ((backTo pos (starEach [] X.env)).any (·.1) || (backToKw pos (keywordEach [⟨some f, e, kp⟩] X.env)).any (·.1.isNone)) = false := by rfl) :
    SE X W (.Call (.Name c p) [] [⟨some f, e, kp⟩] pos) (mA (fExn1 c z f) (aCons ma aNil)) := by
  obtain ⟨B, nI, iI, mB, C, fI, fd, hB, h, _, hb⟩ := Hx
  refine ⟨fun pins s σ H Q I q => ?_⟩
  obtain ⟨g, s0, rfl, R, S, q⟩ := q
  have key : tMA X.K X.mg W (aCons ma aNil) σ g.H (fun zs H1 => ∃ g1 t y, g1.H = H1 ∧ zs = [y] ∧ Rel X.K X.mg g1 ∧ Rep X.K X.mg g1 t y ∧ wpR X.K X.mg W g1 σ Q (fExn1 c z f [t] g1.h)) :=
    ⟨g, s0, rfl, R, S, wpL_of q fun g1 ts vs e1 R1 r1 h1 => by
      match ts, r1, h1 with
      | [t], r1, h1 =>
        obtain ⟨y, ey, ry⟩ := r1.one
        exact ⟨g1, t, y, rfl, ey, R1, ry, h1⟩
      | [], r1, h1 => exact h1.elim
      | _ :: _ :: _, r1, h1 => exact h1.elim⟩
  refine wpAny_Call_Name_kw (ld_glob I hg h.cn ?_ hdb)
  refine PySem.W.callWith_KW0 (h₀ := X.base) I.ok.mod.kin h.T.kC hall ?_ hpl
  refine thn (hkw.run pos pins s σ g.H _ I key) fun ws s1 ⟨zs, H1, I1, rz, g1, t, y, eH, ev, R1, r1, h1⟩ => ⟨I1.kIn, ?_⟩
  rw [hks]
  subst eH ev
  cases rz with
  | @cons _ wv _ ws' rw1 rw2 =>
    cases rw2
    obtain ⟨nm, q, N, bs, bm, sn, sub, ab, col, dd, k0, k1, k2, k3, k5, hC, hbm⟩ := h.T.cls
    obtain ⟨hp, gn, dr, tk', os⟩ := s1
    have hsz : hp.objs.size ≤ hp.objs.size + 1 := Nat.le_succ _
    have nn : g1.H (hp.objs.size + 1) = none := I1.hok.fresh hsz
    have kk : ∀ b o, hp.get? b = some o → ((hp.push (PySem.W.kdv_tup [])).push (PySem.HandSPX.excO C hp.objs.size)).get? b = some o := fun b o e => Heap.get?_push_of_some _ (Heap.get?_push_of_some _ e)
    have hget : ((hp.push (PySem.W.kdv_tup [])).push (PySem.HandSPX.excO C hp.objs.size)).get? (hp.objs.size + 1) = some (PySem.HandSPX.excO C hp.objs.size) := by heap_get
    have I2 : Inv X pins σ (upd g1.H (hp.objs.size + 1) (exo (hp.objs.size + 1) C none)) ⟨(hp.push (PySem.W.kdv_tup [])).push (PySem.HandSPX.excO C hp.objs.size), gn, dr, tk', os⟩ :=
      I1.laid (t' := tk') (a := hp.objs.size + 1) (o := exo (hp.objs.size + 1) C none) (h' := (hp.push (PySem.W.kdv_tup [])).push (PySem.HandSPX.excO C hp.objs.size)) kk hsz (exo_ok hget)
    have r2 : Vals (V.ref (hp.objs.size + 1) :: [y]) (Value.ref (hp.objs.size + 1) :: [wv]) := .cons rfl (.cons rw1 .nil)
    have zz := code_at h.ok (hr.make C [] [(f, wv)]) (I2.env0.make C [] [(f, wv)]) (passAt tk σ) I2 (hb (Value.ref (hp.objs.size + 1)) wv _) r2 (spE1_at R1 h.cn nn r1 h1)
    refine wpAny_call (PySem.MiX.callK_own hB.ef hbm.has (I1.kIn _ _ hC) (PySem.W.looks_findIn I1.kIn h.iC) (fun self => PySem.W.bind_fn I1.kIn self h.tI) (Nat.zero_le _) (codeAny_mono zz fun r s' hq' => ?_))
    cases r with
    | error er => exact hq'
    | ok fl =>
      cases fl with
      | ret u =>
        obtain ⟨v, H2, I3, rv, ev, d, fs, ea, ed, ne, q2⟩ := hq'
        subst ev
        exact ⟨rv, .ref (hp.objs.size + 1), _, Inv.named I3 ea ed ne, rfl, q2⟩
      | _ => exact hq'.elim
/-! ### e.f -/
/-- what the classes must have for f to be read off their exceptions -/
def FldX (K : PySem.W.Frag) (mg : Str → Option Value) (cs : List Str) (f : Str) : Prop := ∀ c ∈ cs, ∀ C, mg c = some (.ref C) → XfC K C ∧ PySem.W.findIn K (.ref C) f = some none
def fFldX (cs : List Str) (f : Str) : T → MH → R := fun t h => match t with
  | .exn c ns ts => if cs.contains c then (match fldOf f ns ts with
    | some u => .ok u h
    | none => .stuck) else .stuck
  | _ => .stuck
/-- the object of an exception that is tracked -/
theorem xo_at {P : Program} {w : World} {H : Hp} {h : Heap} {C a d : Addr} {fs : List (Str × V)} (hok : HOk P w H h) (ea : H a = some (XO C a d)) (ed : H d = some (.xd fs)) :
    ∃ (oe od : Obj) (mA : Str → Option Value), PySem.W.InstAt h a oe C (some od) ∧ (∀ name, PySem.W.lookIn name od = some (mA name)) ∧ ∀ f, RelO (fs.lookup f) (mA f) := by
  have x : ObjOk P w H h a (.ext fun h => ∃ (oe : Obj) (vs : Array Value), h.get? a = some oe ∧ Zc (.ref C) (some d) oe ∧ oe.data = .fields vs) := hok a _ ea
  obtain ⟨⟨oe, vs, e1, e2, e3⟩, _⟩ := x
  obtain ⟨mA, hns, hr⟩ := (show ObjOk P w H h d (.xd fs) from hok d _ ed)
  obtain ⟨od, ho, hl⟩ := lookIn_ns hns
  exact ⟨oe, od, mA, ⟨e1, e2.1, by unfold PySem.W.notCls; rw [e3] <;> rfl, by rw [e2.2]; exact ho⟩, hl, hr⟩
theorem se_fldX {cs : List Str} (hC : FldX X.K X.mg cs f) (ha : SE X W a ma) (hb : attributeBase a f X.env (eval a X.env) = eval a X.env := by rfl) : SE X W (.Attribute a f pos) (m1 (fFldX cs f) ma) := by
  refine ⟨fun pins s σ H Q I q => ?_⟩
  obtain ⟨g, s0, rfl, R, S, q⟩ := q
  refine attr_of hb (thn (ha.run pins s σ g.H _ I ⟨g, s0, rfl, R, S, wpR_bind (Q := Q) q (Q' := fun v H1 => ∃ g1 t, g1.H = H1 ∧ Rel X.K X.mg g1 ∧ Rep X.K X.mg g1 t v ∧ wpR X.K X.mg W g1 σ Q (fFldX cs f t g1.h)) fun g1 t v e1 R1 r1 h1 => ⟨g1, t, rfl, R1, r1, h1⟩⟩) fun u s1 ⟨x, H1, I1, rx, g1, t, eH, R1, r1, h1⟩ => ?_)
  subst eH
  unfold fFldX at h1
  split at h1
  · rename_i cc ns ts
    split at h1
    · rename_i hc
      split at h1
      · rename_i y hy
        simp only [Rep] at r1
        obtain ⟨p1, C, d, fs, rfl, ⟨ea, _⟩, ⟨ed, _⟩, hm, hn, rf⟩ := r1
        obtain rfl : u = Value.ref p1 := rx
        obtain ⟨T, hno⟩ := hC cc (by simpa using hc) C hm
        obtain ⟨w', hw, rw'⟩ := fld_of hn rf hy
        obtain ⟨oe, od, mA, J, hl, hr⟩ := xo_at I1.hok ea ed
        obtain ⟨u', hu, ru⟩ := RelO.some_of (v := w') (o := mA f) (by rw [← hw]; exact hr f)
        exact HandSPX.exc_get I1.kIn J T.ga T.gg T.exC (PySem.W.findObj_own T.hdC hno rfl (by rw [hl, hu])) (handed_of ru) ⟨w', g1.H, I1.tok _, ru, wpR_here h1 R1 rw'⟩
      · exact h1.elim
    · exact h1.elim
  · exact h1.elim
/-! ### isinstance -/
/-- what the class D must say, so that isinstance asks its exceptions rightly -/
structure ExcK (K : PySem.W.Frag) (D : Addr) : Prop where
  cl : (PySem.W.clsIn K D).isSome = true
  hg : PySem.W.findIn K (.ref D) "__getattribute__" = some (some (.builtin "BaseException.__getattribute__"))
  hk : PySem.W.findIn K (.ref D) "__getattr__" = some none
  hs : PySem.W.subIn K (.ref D) (.type "BaseException") = some true
  ha : PySem.W.findIn K (.ref D) "__class__" = some (some (.builtin "object.__class__"))
  hn : PySem.W.specialIn K (.builtin "object.__class__") "__get__" = some (some (.builtin "getset_descriptor.__get__"))
  ht : PySem.W.takesIn K (.builtin "object.__class__") = some true
  hm : PySem.W.mroIn K D (.type "object") = some true
def rIsX (K : PySem.W.Frag) : List V → Hp → VK → Prop := fun xs H Q => ∃ (p D d : Addr) (fs : List (Str × V)) (c : V) (cv : Value) (b : Bool), xs = [.ref p, c] ∧ H p = some (XO D p d) ∧ H d = some (.xd fs) ∧ ExcK K D ∧ (∀ u, RelV c u → u = cv) ∧ PySem.W.kitOne K (.ref D) cv = some b ∧ Q (.bl b) H
theorem call_isX : CallR X (.builtin "isinstance") (rIsX X.K) := by
  intro pins s σ H xs us Q I r h
  obtain ⟨p, D, d, fs, c, cv, b, rfl, hp, hd, T, hcv, e, q⟩ := h
  cases r with
  | cons rx rr =>
    cases rr with
    | cons rt rr =>
      cases rr
      cases rx
      have ec := hcv _ rt
      subst ec
      obtain ⟨oe, od, mA, J, _, _⟩ := xo_at I.hok hp hd
      exact PySem.W.kia_one (PySem.W.kitx_exc T.cl T.hg T.hk T.hs T.ha T.hn T.ht T.hm) I.kIn J e (fun z => nomatch z) fun tk => ⟨.bl b, H, I.kept (t' := tk) fun _ _ z => z, rfl, q⟩
/-- isinstance(e, c): the class's answer, class by class -/
def fIsX (tab : List (Str × Bool)) : T → MH → R := fun t h => match t with
  | .exn c _ _ => (match tab.lookup c with
    | some b => .ok (.bl b) h
    | none => .stuck)
  | _ => .stuck
def IsxC (K : PySem.W.Frag) (mg : Str → Option Value) (cv : Value) (tab : List (Str × Bool)) : Prop := ∀ q ∈ tab, ∀ D, mg q.1 = some (.ref D) → ExcK K D ∧ PySem.W.kitOne K (.ref D) cv = some q.2
theorem use_isX {tab : List (Str × Bool)} {cv : Value} {vc : V} (HC : IsxC X.K X.mg cv tab) (hvc : ∀ u, RelV vc u → u = cv) {t : T} {v : V} (R : Rel X.K X.mg g) (r : Rep X.K X.mg g t v) (h : wpR X.K X.mg W g σ Q (fIsX tab t g.h)) : rIsX X.K [v, vc] g.H Q := by
  unfold fIsX at h
  split at h
  · rename_i cc ns ts
    split at h
    · rename_i b hb
      simp only [Rep] at r
      obtain ⟨p1, D, d, fs, rfl, ⟨ea, _⟩, ⟨ed, _⟩, hm, _, _⟩ := r
      obtain ⟨T, k1⟩ := HC _ (lookup_mem hb) D hm
      exact ⟨p1, D, d, fs, vc, cv, b, rfl, ea, ed, T, hvc, k1, wpR_here h R rBl⟩
    · exact h.elim
  · exact h.elim
/-- .. an own class -/
theorem se_isX {pa pc : Pos} {tab : List (Str × Bool)} {C : Addr} (hCC : X.mg c = some (.ref C)) (HC : IsxC X.K X.mg (.ref C) tab) (hmi : X.mg "isinstance" = none) (ha : SE X W a ma) (hg : Gl X "isinstance" := by rfl) (hgc : Gl X c := by rfl) (hdc : (c == ("__debug__" : Str)) = false := by decide)
    (he : starEach [a, .Name c pc] X.env = (false, eval a X.env) :: starEach [.Name c pc] X.env := by rfl) (he2 : starEach [.Name c pc] X.env = [(false, eval (.Name c pc) X.env)] := by rfl) (hpl : (backTo pos (starEach [.Name c pc] X.env)).any (·.1) = false := by rfl) :
    SE X W (.Call (.Name "isinstance" pa) [a, .Name c pc] [] pos) (m1 (fIsX tab) ma) := by
  refine weakE (pe_callB (id := "isinstance") call_isX hg hmi (by decide +kernel) (pa_cons ha (pa_cons (pe_glob hgc hCC (v := .ref C) rfl hdc) pa_nil he2) he) (by decide) (by decide) he hpl) ?_
  rintro σ H Q ⟨g, s, rfl, R, S, h⟩
  exact ⟨g, s, rfl, R, S, wpR_bind h fun g1 t v e1 R1 r1 h1 => use_isX (vc := .ref C) HC (fun u hu => hu) R1 r1 h1⟩
/-- .. a built-in one -/
theorem se_isXB {pa pc : Pos} {tab : List (Str × Bool)} {n : String} (HC : IsxC X.K X.mg (.type n) tab) (hmi : X.mg "isinstance" = none) (hmc : X.mg c = none) (ha : SE X W a ma) (hg : Gl X "isinstance" := by rfl) (hgc : Gl X c := by rfl) (hv : bootBuiltins c = some (.type n) := by decide +kernel)
    (hn : c ≠ "__name__" := by decide) (hdc : (c == ("__debug__" : Str)) = false := by decide)
    (he : starEach [a, .Name c pc] X.env = (false, eval a X.env) :: starEach [.Name c pc] X.env := by rfl) (he2 : starEach [.Name c pc] X.env = [(false, eval (.Name c pc) X.env)] := by rfl) (hpl : (backTo pos (starEach [.Name c pc] X.env)).any (·.1) = false := by rfl) :
    SE X W (.Call (.Name "isinstance" pa) [a, .Name c pc] [] pos) (m1 (fIsX tab) ma) := by
  refine weakE (pe_callB (id := "isinstance") call_isX hg hmi (by decide +kernel) (pa_cons ha (pa_cons (pe_bltn hgc hmc hv (v := .ty n) rfl hn hdc) pa_nil he2) he) (by decide) (by decide) he hpl) ?_
  rintro σ H Q ⟨g, s, rfl, R, S, h⟩
  exact ⟨g, s, rfl, R, S, wpR_bind h fun g1 t v e1 R1 r1 h1 => use_isX (vc := .ty n) HC (fun u hu => hu) R1 r1 h1⟩
end
end Mi
end part_Mi29
section part_Mi30
set_option maxRecDepth 100000
set_option maxHeartbeats 4000000
/-! Mi, part 30: the head's facts, own exceptions too (their __init__ has a closure; cStatics is looked at). -/
namespace Mi
open PySem PySem.Spec PyProof.Rows L2
abbrev FnS : Type := Option (Str × Str × Arguments × FuncBody × Scope × Addr × Addr)
abbrev Pth : Type := (PySem.W.Frag → Addr) × He.DefD
def fnS (K : PySem.W.Frag) (a : Addr) : FnS := match K.lookup a with
  | some ⟨_, _, .func fd, _⟩ => some (fd.name, fd.qualname, fd.params, fd.body, fd.scope, fd.globals, fd.builtins)
  | _ => none
def sVal (d : He.DefD) : FnS := some (d.name, d.qual, d.params, .stmts d.body, d.scope, mainGlobals, builtinsNs)
structure SaysY (fa : List He.Fa) (fn : List He.DefD) (sf : List Pth) (ex : PySem.W.Frag → Bool) (K : PySem.W.Frag) : Prop where
  d : He.SaysD fa fn K
  more : ex K = true
  sf : sf.map (fun q => fnS K (q.1 K)) = sf.map fun q => sVal q.2
def frY (g : Addr → Option Obj) (n : Nat) : PySem.W.Frag := He.frT g (He.asD g n ++ [cStatics])
abbrev AlY : Type := (He.AlD × Bool) × List FnS
def obsY (n : Nat) (fa : List He.Fa) (fn : List He.DefD) (sf : List Pth) (ex : PySem.W.Frag → Bool) (g : Addr → Option Obj) : AlY := ((He.obsD fa fn (frY g n), ex (frY g n)), sf.map fun q => fnS (frY g n) (q.1 (frY g n)))
def valY (fn : List He.DefD) (sf : List Pth) : AlY := ((He.valD fn, true), sf.map fun q => sVal q.2)
def hookY (n : Nat) (fa : List He.Fa) (fn : List He.DefD) (sf : List Pth) (ex : PySem.W.Frag → Bool) : PySem.W.Hook where
  α := AlY
  obs := fun s => obsY n fa fn sf ex s.heap.get?
  val := fun _ => valY fn sf
  says := fun _ h => ∃ K : PySem.W.Frag, K.In h ∧ SaysY fa fn sf ex K
  of := fun _ _ e => ⟨_, He.frT_in, congrArg (fun z : AlY => z.1.1) e, congrArg (fun z : AlY => z.1.2) e, congrArg (fun z : AlY => z.2) e⟩
  keeps := fun _ _ _ ⟨K, hK, c⟩ k => ⟨K, PySem.W.Frag.In.keeps hK k, c⟩
theorem obsY_eq {n : Nat} {fa : List He.Fa} {fn : List He.DefD} {sf : List Pth} {ex : PySem.W.Frag → Bool} {g : Addr → Option Obj} {s : Shared} (h : ∀ a, g a = s.heap.get? a) : obsY n fa fn sf ex g = (hookY n fa fn sf ex).obs s := by
  have e : g = s.heap.get? := funext h
  rw [e] <;> rfl
theorem SaysY.def_ {fa : List He.Fa} {fn : List He.DefD} {sf : List Pth} {ex : PySem.W.Frag → Bool} {K : PySem.W.Frag} (c : SaysY fa fn sf ex K) (i : Nat) {q : Pth} (h : sf[i]? = some q := by rfl) : fnS K (q.1 K) = sVal q.2 := by
  have e2 : (sf.map fun q => fnS K (q.1 K))[i]? = (sf.map fun q => sVal q.2)[i]? := by rw [c.sf]
  rw [List.getElem?_map, List.getElem?_map, h] at e2
  exact Option.some.inj e2
/-! ### an own exception -/
def oexB (K : PySem.W.Frag) (C : Addr) (nI : String) (mB : List Value) : Bool := match K.lookup C with
  | some ⟨.type ty, _, .cls cd, sl⟩ => (match cd.mro, sl.toList with
    | .ref C' :: bm, [_, _, _, _, some (.builtin n), _] => decide (ty = "type") && (decide (C' = C) && (decide (n = nI) && (!cd.hasDel && (cd.hasDict && refsBb mB bm))))
    | _, _ => false)
  | _ => false
theorem oexB_ok {K : PySem.W.Frag} {C : Addr} {nI : String} {mB : List Value} (h : oexB K C nI mB = true) : ∃ nm q N bs bm sn sub ab col dd k0 k1 k2 k3 k5, K.lookup C = some (excClassObj nm q C N bs bm true sn sub ab col dd k0 k1 k2 k3 k5 nI) ∧ RefsB mB bm := by
  unfold oexB at h
  split at h
  · rename_i ty dd cd sl q
    split at h
    · rename_i C' bm k0 k1 k2 k3 n k5 hm hs
      obtain ⟨h1, h⟩ := bb h
      obtain ⟨h2, h⟩ := bb h
      obtain ⟨h3, h⟩ := bb h
      obtain ⟨h4, h⟩ := bb h
      obtain ⟨h5, h6⟩ := bb h
      have e1 := of_decide_eq_true h1
      have e2 := of_decide_eq_true h2
      have e3 := of_decide_eq_true h3
      obtain ⟨nm, bs, mro, ns, qn, hd, sn, sub, ab, col, del⟩ := cd
      dsimp only at hm h4 h5
      subst e1 e2 e3 hm
      have e4 : del = false := by cases del <;> simp_all
      subst h5 e4
      have hsl : sl = #[k0, k1, k2, k3, some (.builtin n), k5] := by
        obtain ⟨l⟩ := sl
        simp only at hs
        rw [hs]
      subst hsl
      exact ⟨nm, qn, ns, bs, bm, sn, sub, ab, col, dd, k0, k1, k2, k3, k5, q, refsB_of h6⟩
    · cases h
  · cases h
def eqV (a b : Option Bool) : Bool := decide (a = b)
abbrev ini : Str := "__init__"
def exnB (K : PySem.W.Frag) (file c : Str) (B nI iI : String) (mB : List Value) (fs : List Str) : Bool :=
  He.eqO (PySem.W.nsIn K mainGlobals c) (some (some (.ref (He.ga K c)))) && (oexB K (He.ga K c) nI mB && (He.eqO (PySem.W.findIn K (.ref (He.ga K c)) "__setattr__") (some (some (.builtin "object.__setattr__"))) &&
  (decide (PySem.W.subIn K (.ref (He.ga K c)) (.type "BaseException") = some true) && (decide (PySem.W.typeIn K (.ref (He.ga K c)) = some (.type "type")) && (PySem.W.keepIn K (.ref (He.ga K c)) &&
  (He.eqO (PySem.W.findIn K (.ref (He.ga K c)) "__init__") (some (some (.ref (He.fAd K (c, some ini))))) && (decide (PySem.W.typeIn K (.ref (He.fAd K (c, some ini))) = some (.type "function")) &&
  ((match K.lookup (He.fAd K (c, some ini)) with
    | some ⟨_, _, .func ⟨_, q, _, _, _, _, [(y, cc)], .none, .none, _, _, none, .ref cd, _, _⟩, _⟩ => decide (y = "__class__") && (PySem.W.codeIn K (.ref cd) q && ((match K.lookup cd with
      | some ⟨_, _, .fields vs, _⟩ => (match vs[2]? with
        | some (Value.str fl _) => ((file : Str) == fl)
        | _ => false)
      | _ => false) && (match K.lookup cc with
      | some ⟨_, _, .cell (some (.ref C')), _⟩ => decide (C' = He.ga K c)
      | _ => false)))
    | _ => false) &&
  (decide (PySem.W.mroIn K (He.ga K c) (.ref (He.ga K c)) = some true) && (He.eqO (PySem.W.nsIn K cStatics "thirdparty.any") (some none) && (He.eqO (PySem.W.ks_superIn K (He.ga K c) (He.ga K c) "__init__") (some (some (.builtin iI))) &&
  (decide (PySem.W.subIn K (.ref (He.ga K c)) (.type B) = some true) && (He.eqO (PySem.W.nsIn K mainGlobals "super") (some none) && fs.all fun f => He.eqO (PySem.W.findIn K (.ref (He.ga K c)) f) (some none))))))))))))))
/-- what is told of the class, all at once -/
theorem exn_told {P : Program} {K : PySem.W.Frag} {mg : Str → Option Value} {h : Heap} {file c : Str} {B nI iI : String} {mB : List Value} {fs : List Str} {d : He.DefD} (X : K.In h) (G : h.Ns mainGlobals mg) (b : exnB K file c B nI iI mB fs = true) (e : fnS K (He.fAd K (c, some ini)) = sVal d)
    (hf : P.main.file = file) (ht : (P.main.scope.names.lookup ("super" : Str)).isSome = false) :
    mg c = some (.ref (He.ga K c)) ∧ PySem.W.findIn K (.ref (He.ga K c)) "__init__" = some (some (.ref (He.fAd K (c, some ini)))) ∧ PySem.W.typeIn K (.ref (He.fAd K (c, some ini))) = some (.type "function") ∧ (∀ f ∈ fs, PySem.W.findIn K (.ref (He.ga K c)) f = some none) ∧
      ∃ cc cd doc pm ctv, SupB B nI iI mB P K mg (He.ga K c) (He.fAd K (c, some ini)) cc ⟨d.name, d.qual, d.params, d.body, d.scope, [("__class__", cc)], cd⟩ doc pm ctv := by
  unfold exnB at b
  obtain ⟨b1, b⟩ := bb b
  obtain ⟨b2, b⟩ := bb b
  obtain ⟨b3, b⟩ := bb b
  obtain ⟨b4, b⟩ := bb b
  obtain ⟨b5, b⟩ := bb b
  obtain ⟨b6, b⟩ := bb b
  obtain ⟨b7, b⟩ := bb b
  obtain ⟨b8, b⟩ := bb b
  obtain ⟨b9, b⟩ := bb b
  obtain ⟨c1, b⟩ := bb b
  obtain ⟨c2, b⟩ := bb b
  obtain ⟨c3, b⟩ := bb b
  obtain ⟨c4, b⟩ := bb b
  obtain ⟨c5, c6⟩ := bb b
  refine ⟨PySem.W.mg_of X G (He.eqO_ok b1), He.eqO_ok b7, of_decide_eq_true b8, fun f hf => He.eqO_ok (List.all_eq_true.mp c6 f hf), ?_⟩
  unfold fnS sVal at e
  split at b9
  · rename_i oc od n1 q n3 n4 n5 n6 y cc n7 n8 cd n9 n10 osl lk
    rw [lk] at e
    have e2 : (some (n1, q, n3, n4, n5, n6, n10) : FnS) = some (d.name, d.qual, d.params, .stmts d.body, d.scope, mainGlobals, builtinsNs) := e
    simp only [Option.some.injEq, Prod.mk.injEq] at e2
    obtain ⟨h1, h2, h3, h4, h5, h6, h8⟩ := e2
    subst h1 h2 h3 h4 h5 h6 h8
    obtain ⟨d1, d2⟩ := bb b9
    obtain ⟨d2, d3⟩ := bb d2
    obtain ⟨d3, d4⟩ := bb d3
    have ey := of_decide_eq_true d1
    subst ey
    refine ⟨cc, cd, n7, n8, n9, ⟨⟨oc, od, osl, lk⟩, rfl, d2, ?_, ?_, of_decide_eq_true c1, He.eqO_ok c2, He.eqO_ok c3, of_decide_eq_true c4, ⟨oexB_ok b2, He.eqO_ok b3, of_decide_eq_true b4, of_decide_eq_true b5, b6⟩, ht, PySem.W.mg_none_of X G (He.eqO_ok c5)⟩⟩
    · split at d3
      · rename_i ccl cdd vs ccs lk2
        split at d3
        · rename_i fl tf q3
          exact ⟨ccl, cdd, vs, ccs, fl, tf, lk2, q3, by rw [hf]; exact d3⟩
        · cases d3
      · cases d3
    · split at d4
      · rename_i cl cld C' csl lk3
        have eC := of_decide_eq_true d4
        subst eC
        exact ⟨cl, cld, csl, lk3⟩
      · cases d4
  · cases b9
section
variable {P : Program} {w : World} {K : PySem.W.Frag} {mg : Str → Option Value} {base h : Heap} {file c : Str} {B nI iI : String} {mB : List Value} {fs : List Str} {d : He.DefD}
theorem hasE0_of (hB : BaseB B nI iI mB) (X : K.In h) (G : h.Ns mainGlobals mg) (b : exnB K file c B nI iI mB fs = true) (e : fnS K (He.fAd K (c, some ini)) = sVal d) (hf : P.main.file = file) (ht : (P.main.scope.names.lookup ("super" : Str)).isSome = false) (hm : ("tag" : Str) ∈ fs)
    {z : Str} {j j2 : Nat} {p0 p1 p2 p3 p4 p5 q0 q1 q2 q3 : Pos} (hb : d.body = [supE z j p0 p1 p2 p3 p4 p5, asgC "tag" z j2 q0 q1 q2 q3]) (hev : SupEv z j p0 p1 p2 p3 p4)
    (S : NdefX.nscB ["self", "__class__"] ["self"] ["__class__"] d.scope = true) (ks : d.scope.names.lookup ("super" : Str) = some .globalImplicit) (arg : ∃ ar, (d.params.posonlyargs ++ d.params.args).head? = some ar ∧ ar.arg = ("self" : Str))
    (b1 : ∀ (cl : List (Str × Addr)) (cd : Addr) (doc pm ctv u : Value), bindArgs (PySem.W.fnX d.name d.qual d.params d.body d.scope cl .none .none doc pm none (.ref cd) ctv) ⟨[u], []⟩ = pure [(("self" : Str), u)]) : HasE0 P w K mg base 1 c z := by
  obtain ⟨h1, h2, h3, h4, cc, cd, doc, pm, ctv, U⟩ := exn_told X G b e hf ht
  exact ⟨B, nI, iI, mB, _, _, _, hB, ⟨h1, U.ex, h2, h3, exn0_ok hB U (h4 _ hm) hb hev (NdefX.nscope_by S) ks arg⟩, fun u s => .of_eq (b1 _ _ _ _ _ _)⟩
theorem hasE1_of (hB : BaseB B nI iI mB) (X : K.In h) (G : h.Ns mainGlobals mg) (b : exnB K file c B nI iI mB fs = true) (e : fnS K (He.fAd K (c, some ini)) = sVal d) (hf : P.main.file = file) (ht : (P.main.scope.names.lookup ("super" : Str)).isSome = false) (hm : ("tag" : Str) ∈ fs)
    {z f : Str} (hm2 : f ∈ fs) {j j2 : Nat} {p0 p1 p2 p3 p4 p5 q0 q1 q2 q3 r0 r1 r2 r3 : Pos} (hb : d.body = [supE z j p0 p1 p2 p3 p4 p5, asgC "tag" z j2 q0 q1 q2 q3, asgN f r0 r1 r2 r3]) (hev : SupEv z j p0 p1 p2 p3 p4)
    (S : NdefX.nscB ["self", f, "__class__"] ["self", f] ["__class__"] d.scope = true) (ks : d.scope.names.lookup ("super" : Str) = some .globalImplicit) (arg : ∃ ar, (d.params.posonlyargs ++ d.params.args).head? = some ar ∧ ar.arg = ("self" : Str))
    (hdb : (f == ("__debug__" : Str)) = false) (hcd : (f == ("__classdict__" : Str)) = false)
    (b1 : ∀ (cl : List (Str × Addr)) (cd : Addr) (doc pm ctv u v : Value), bindArgs (PySem.W.fnX d.name d.qual d.params d.body d.scope cl .none .none doc pm none (.ref cd) ctv) ⟨[u, v], []⟩ = pure [(("self" : Str), u), (f, v)])
    (b2 : ∀ (cl : List (Str × Addr)) (cd : Addr) (doc pm ctv u v : Value), bindArgs (PySem.W.fnX d.name d.qual d.params d.body d.scope cl .none .none doc pm none (.ref cd) ctv) ⟨[u], [(f, v)]⟩ = pure [(("self" : Str), u), (f, v)]) : HasE1 P w K mg base 1 c z f := by
  obtain ⟨h1, h2, h3, h4, cc, cd, doc, pm, ctv, U⟩ := exn_told X G b e hf ht
  exact ⟨B, nI, iI, mB, _, _, _, hB, ⟨h1, U.ex, h2, h3, exn1_ok hB U (h4 _ hm) (h4 _ hm2) hb hev (NdefX.nscope_by S) ks arg hdb hcd⟩, fun u v s => .of_eq (b1 _ _ _ _ _ _ _), fun u v s => .of_eq (b2 _ _ _ _ _ _ _)⟩
theorem HasE0.up {j k : Nat} {z : Str} (x : HasE0 P w K mg base j c z) (l : j ≤ k) : HasE0 P w K mg base k c z := by
  obtain ⟨B, nI, iI, mB, C, fI, fd, hB, h, hb⟩ := x
  exact ⟨B, nI, iI, mB, C, fI, fd, hB, ⟨h.cn, h.T, h.iC, h.tI, h.ok.mono l⟩, hb⟩
theorem HasE1.up {j k : Nat} {z f : Str} (x : HasE1 P w K mg base j c z f) (l : j ≤ k) : HasE1 P w K mg base k c z f := by
  obtain ⟨B, nI, iI, mB, C, fI, fd, hB, h, hb⟩ := x
  exact ⟨B, nI, iI, mB, C, fI, fd, hB, ⟨h.cn, h.T, h.iC, h.tI, h.ok.mono l⟩, hb⟩
end
def clsBody (s : Stmt) : List Stmt := match s with
  | .ClassDef _ _ _ b .. => b
  | _ => []
/-! ### the other facts of exceptions, as Bools -/
def excKB (K : PySem.W.Frag) (D : Addr) : Bool := (PySem.W.clsIn K D).isSome && (He.eqO (PySem.W.findIn K (.ref D) "__getattribute__") (some (some (.builtin "BaseException.__getattribute__"))) && (He.eqO (PySem.W.findIn K (.ref D) "__getattr__") (some none) &&
  (decide (PySem.W.subIn K (.ref D) (.type "BaseException") = some true) && (He.eqO (PySem.W.findIn K (.ref D) "__class__") (some (some (.builtin "object.__class__"))) &&
  (He.eqO (PySem.W.specialIn K (.builtin "object.__class__") "__get__") (some (some (.builtin "getset_descriptor.__get__"))) && (decide (PySem.W.takesIn K (.builtin "object.__class__") = some true) && decide (PySem.W.mroIn K D (.type "object") = some true)))))))
theorem excKB_ok {K : PySem.W.Frag} {D : Addr} (b : excKB K D = true) : ExcK K D := by
  unfold excKB at b
  obtain ⟨b1, b⟩ := bb b
  obtain ⟨b2, b⟩ := bb b
  obtain ⟨b3, b⟩ := bb b
  obtain ⟨b4, b⟩ := bb b
  obtain ⟨b5, b⟩ := bb b
  obtain ⟨b6, b⟩ := bb b
  obtain ⟨b7, b8⟩ := bb b
  exact ⟨b1, He.eqO_ok b2, He.eqO_ok b3, of_decide_eq_true b4, He.eqO_ok b5, He.eqO_ok b6, of_decide_eq_true b7, of_decide_eq_true b8⟩
/-- isinstance's answers, class by class -/
def isxB (K : PySem.W.Frag) (cv : Value) (tab : List (Str × Bool)) : Bool := tab.all fun q => He.eqO (PySem.W.nsIn K mainGlobals q.1) (some (some (.ref (He.ga K q.1)))) && (excKB K (He.ga K q.1) && decide (PySem.W.kitOne K (.ref (He.ga K q.1)) cv = some q.2))
theorem isxB_ok {K : PySem.W.Frag} {mg : Str → Option Value} {h : Heap} {cv : Value} {tab : List (Str × Bool)} (X : K.In h) (G : h.Ns mainGlobals mg) (b : isxB K cv tab = true) : IsxC K mg cv tab := fun q hq D hD => by
  obtain ⟨b1, b2⟩ := bb (List.all_eq_true.mp b q hq)
  obtain ⟨b2, b3⟩ := bb b2
  have e := PySem.W.mg_of X G (He.eqO_ok b1)
  rw [hD] at e
  cases e
  exact ⟨excKB_ok b2, of_decide_eq_true b3⟩
/-- f may be read off the exceptions of cs -/
def fldXB (K : PySem.W.Frag) (cs : List Str) (f : Str) : Bool := cs.all fun c => He.eqO (PySem.W.nsIn K mainGlobals c) (some (some (.ref (He.ga K c)))) && (xfB K (He.ga K c) && He.eqO (PySem.W.findIn K (.ref (He.ga K c)) f) (some none))
theorem fldXB_ok {K : PySem.W.Frag} {mg : Str → Option Value} {h : Heap} {cs : List Str} {f : Str} (X : K.In h) (G : h.Ns mainGlobals mg) (b : fldXB K cs f = true) : FldX K mg cs f := fun c hc C hC => by
  obtain ⟨b1, b2⟩ := bb (List.all_eq_true.mp b c hc)
  obtain ⟨b2, b3⟩ := bb b2
  have e := PySem.W.mg_of X G (He.eqO_ok b1)
  rw [hC] at e
  cases e
  exact ⟨xfB_ok b2, He.eqO_ok b3⟩
end Mi
end part_Mi30
section part_Mi31
set_option maxRecDepth 100000
set_option maxHeartbeats 4000000
/-! Mi, part 31: comparisons by several roads, isinstance(x, (C, D)), clear, list(e) as a changeable list, sorted(pairs). -/
namespace Mi
open PySem PySem.Spec PyProof.Rows L2
section
variable {X : Cx} {K : PySem.W.Frag} {mg : Str → Option Value} {W : WX} {g : G} {σ : L2.St} {Q : VK}
variable {a b e : Expr} {ma mb me : ME} {mr : MA} {pos p : Pos} {es : List Expr} {c x : Str}
variable {k : Nat} {qual : Str} {st : Stmt} {ps : List Str} {mf : MF} {fm : List T → MH → R}
/-! ### comparisons -/
def CmpM (X : Cx) (W : WX) (op : CmpOp) (f : T → T → MH → R) : Prop := ∀ (g : G) (σ : L2.St) (t u : T) (v w : V) (y z : Value) (pins : List (Addr × Obj)) (s : Shared) (Q : VK), Rel X.K X.mg g → Rep X.K X.mg g t v → Rep X.K X.mg g u w → Inv X pins σ g.H s → RelV v y → RelV w z → wpR X.K X.mg W g σ Q (f t u g.h) → wpAny (model X.prog X.w) X.A (compareOp op y z) (EP X pins σ Q) X.xe s
theorem cm_op {op : CmpOp} {f : T → T → MH → R} {r : R2} (ho : OpR X (compareOp op) r) (hm : OpM X f r) : CmpM X W op f := fun g σ t u v w y z pins s Q R r1 r2 I rv rw' h => ho pins s σ g.H v w y z Q I rv rw' (hm W g σ t u v w Q R r1 r2 h)
def fAlt2 (f f' : T → T → MH → R) : T → T → MH → R := fun t u h => (f t u h).orElse (f' t u h)
theorem cm_alt {op : CmpOp} {f f' : T → T → MH → R} (h1 : CmpM X W op f) (h2 : CmpM X W op f') : CmpM X W op (fAlt2 f f') := fun g σ t u v w y z pins s Q R r1 r2 I rv rw' h => by
  unfold fAlt2 at h
  cases q : f t u g.h with
  | ok u' h' => rw [q] at h; exact h1 g σ t u v w y z pins s Q R r1 r2 I rv rw' (by rw [q]; exact h)
  | ex y' h' => rw [q] at h; exact h1 g σ t u v w y z pins s Q R r1 r2 I rv rw' (by rw [q]; exact h)
  | stuck => rw [q] at h; exact h2 g σ t u v w y z pins s Q R r1 r2 I rv rw' h
theorem cm_in {neg : Bool} {op : CmpOp} (hop : (neg = false ∧ op = .In) ∨ (neg = true ∧ op = .NotIn)) (Hm : HasMX X k c "__contains__" qual st ps [] mf) (hr : Room k X.A) (tk : Takes X W) (cl : Calls2 X W ps.length mf fm) (hb : PosD st "__contains__" qual ps 0 ps.length 0) : CmpM X W op (fInO neg c fm) :=
  fun g σ t u v w y z pins s Q R r1 r2 I rv rw' h => inO_ok hop Hm hr tk cl hb R r1 r2 I rv rw' h
theorem cm_eq {cs : List Str} (HC : EqC X.K X.mg c cs) (Hm : HasMX X k c "__eq__" qual st ps [] mf) (hr : Room k X.A) (tk : Takes X W) (cl : Calls2 X W ps.length mf fm) (hb : PosD st "__eq__" qual ps 0 ps.length 0) : CmpM X W .Eq (fEqO cs c fm) :=
  fun g σ t u v w y z pins s Q R r1 r2 I rv rw' h => eqO_ok (fun _ _ => rfl) rfl HC Hm hr tk cl hb R r1 r2 I rv rw' h
theorem se_cm {op : CmpOp} {f : T → T → MH → R} (hc : CmpM X W op f) (ha : SE X W a ma) (hb : SE X W b mb) (hm : behindInMarks op b = false) : SE X W (.Compare a [op] [b] pos) (m2 f ma mb) := use_m2 hm ha hb hc
theorem wpR_of_T {Qb : Bool → Hp → Prop} {r : R} (h : wpT K mg W g σ Qb r) : wpR K mg W g σ (fun z H => ∃ k, z = .bl k ∧ Qb k H) r := by
  cases r with
  | ok t h' =>
    cases t with
    | bl b => exact fun g' v q e R r => ⟨b, rep_bl r, h g' q e R⟩
    | _ => exact h.elim
  | ex x h' => exact h
  | stuck => exact h
/-- .. as a test -/
theorem st_cm {op : CmpOp} {f : T → T → MH → R} (hc : CmpM X W op f) (ha : SE X W a ma) (hb : SE X W b mb) (hm : behindInMarks op b = false) : ST X W (.Compare a [op] [b] pos) (m2 f ma mb) := by
  refine ⟨fun pins s σ H Q I h => ?_⟩
  obtain ⟨g, s0, rfl, R, S, h⟩ := h
  have key : tM X.K X.mg W ma σ g.H (fun v H1 => tM X.K X.mg W mb σ H1 fun w H2 => ∃ g2 t u, g2.H = H2 ∧ Rel X.K X.mg g2 ∧ Rep X.K X.mg g2 t v ∧ Rep X.K X.mg g2 u w ∧ wpT X.K X.mg W g2 σ Q (f t u g2.h)) :=
    ⟨g, s0, rfl, R, S, wpT_bind h fun g1 t v e1 R1 r1 h1 => ⟨g1, s0, rfl, R1, S.mono e1, wpT_bind h1 fun g2 u w e2 R2 r2 h2 => ⟨g2, t, u, rfl, R2, r1.mono e2, r2, h2⟩⟩⟩
  refine wpAny_isTrue_Compare1 (thn (ha.run pins s σ g.H _ I key) fun v s1 ⟨x, H1, I1, r1, q1⟩ => thn (hb.run pins s1 σ H1 _ I1 q1) fun u s2 ⟨y, H2, I2, r2, g2, t, u', eH, R2, rt, ru, q2⟩ => ?_) hm
  subst eH
  refine thn (hc g2 σ t u' x y v u pins s2 _ R2 rt ru I2 r1 r2 (wpR_of_T q2)) fun c s3 ⟨z, H3, I3, r3, k, e, q3⟩ => ?_
  subst e
  cases r3
  exact wpAny_truthy_bool ⟨H3, I3, q3⟩
/-! ### isinstance(x, (c, d)) -/
def isi2B (a c d : Ty5) : Bool := isi5 a c || isi5 a d
theorem isi2B_ok (a c d : Ty5) : PySem.W.kitAny X.K (.type a.name) [.type c.name, .type d.name] = some (isi2B a c d) := by
  unfold isi2B
  cases h : isi5 a c with
  | true => exact kitAny_cons (kit_ty (by rw [isi5_ok, h])) (fun z => by cases z) (fun _ => rfl)
  | false => exact kitAny_cons (kit_ty (by rw [isi5_ok, h])) (fun _ => kitAny_cons (kit_ty (isi5_ok a d)) (fun z => by rw [z]; exact kitAny_nil) (fun z => by rw [z]; rfl)) (fun z => by cases z)
def fIsi2 (c d : Ty5) : T → MH → R := fun t h => match tyOfT t h with
  | some a => .ok (.bl (isi2B a c d)) h
  | none => .stuck
theorem se_isi2 {pa pc pd pt : Pos} {y z : Str} {kt : Nat} (c d : Ty5) (hmi : X.mg "isinstance" = none) (hmc : X.mg y = none) (hmd : X.mg z = none) (ha : SE X W a ma) (hg : Gl X "isinstance" := by rfl) (hgc : Gl X y := by rfl) (hgd : Gl X z := by rfl) (hv : bootBuiltins y = some (.type c.name) := by decide +kernel) (hv2 : bootBuiltins z = some (.type d.name) := by decide +kernel)
    (hn : y ≠ "__name__" := by decide) (hdc : (y == ("__debug__" : Str)) = false := by decide) (hn2 : z ≠ "__name__" := by decide) (hdc2 : (z == ("__debug__" : Str)) = false := by decide)
    (h1 : starEach [.Name y pc, .Name z pd] X.env = (false, eval (.Name y pc) X.env) :: starEach [.Name z pd] X.env := by rfl) (h2 : starEach [.Name z pd] X.env = (false, eval (.Name z pd) X.env) :: starEach [] X.env := by rfl)
    (he : starEach [a, .Tuple [.Name y pc, .Name z pd] kt pt] X.env = (false, eval a X.env) :: starEach [.Tuple [.Name y pc, .Name z pd] kt pt] X.env := by rfl) (he2 : starEach [.Tuple [.Name y pc, .Name z pd] kt pt] X.env = (false, eval (.Tuple [.Name y pc, .Name z pd] kt pt) X.env) :: starEach [] X.env := by rfl)
    (hpl : (backTo pos (starEach [.Tuple [.Name y pc, .Name z pd] kt pt] X.env)).any (·.1) = false := by rfl) :
    SE X W (.Call (.Name "isinstance" pa) [a, .Tuple [.Name y pc, .Name z pd] kt pt] [] pos) (m1 (fIsi2 c d) ma) := by
  refine weakE (pe_callB (id := "isinstance") call_isiT hg hmi (by decide +kernel) (pa_cons ha (pa_cons (pe_tup (pa_cons (pe_bltn hgc hmc hv (v := .ty c.name) rfl hn hdc) (pa_cons (pe_bltn hgd hmd hv2 (v := .ty d.name) rfl hn2 hdc2) pa_nil h2) h1)) pa_nil he2) he) (by decide) (by decide) he hpl) ?_
  rintro σ H Q ⟨g, s, rfl, R, S, h⟩
  refine ⟨g, s, rfl, R, S, wpR_bind h fun g1 t v e1 R1 r1 h1 => ?_⟩
  unfold fIsi2 at h1
  split at h1
  · rename_i a' q
    refine ⟨by show 2 ≤ sizeLine; rw [sizeLine_eq]; omega, fun tp htp => ?_⟩
    have R2 : Rel X.K X.mg (g1.lay tp (.tup [V.ty c.name, V.ty d.name])) := R1.lay htp
    have e2 : Ext g1 (g1.lay tp (.tup [V.ty c.name, V.ty d.name])) := lay_ext R1 htp
    exact ⟨v, tp, [V.ty c.name, V.ty d.name], .type a'.name, [.type c.name, .type d.name], isi2B a' c d, rfl, upd_same, .cons (.ty _) (.cons (.ty _) .nil), tyx_of R2 (r1.mono e2) q, isi2B_ok a' c d, wpR_here (g := g1.lay tp (.tup [V.ty c.name, V.ty d.name])) (wpR.ext h1 e2) R2 rBl⟩
  · exact h1.elim
/-! ### lists -/
def fClear : T → List T → MH → R := fun t ts h => match ts with
  | [] => match liveL t h with
    | some (i, _) => .ok .non (h.set i (.lst []))
    | none => .stuck
  | _ => .stuck
theorem meClear : MeM X fClear rClear := by
  intro W g σ t ts x vs Q R r rs h
  unfold fClear at h
  split at h
  · simp only [RepL] at rs
    split at h
    · rename_i i xs q
      obtain ⟨p, ws, rfl, hp, hh, h1, l1⟩ := live_of R r q
      exact ⟨p, ws, rfl, rs, h1, wpR_put h R hp hh RepL.nil rNon⟩
    · exact h.elim
  · exact h.elim
theorem perm_inv {α β : Type} {f : α → β} {zs ys : List β} (h : zs.Perm ys) : ∀ {ks : List α}, zs = ks.map f → ∃ L : List α, L.Perm ks ∧ ys = L.map f := by
  induction h with
  | nil => intro ks e; cases ks with
    | nil => exact ⟨[], .nil, rfl⟩
    | cons _ _ => cases e
  | cons x p ih => intro ks e; cases ks with
    | nil => cases e
    | cons k ks =>
      rw [List.map_cons] at e
      injection e with e1 e2
      obtain ⟨L, p1, e3⟩ := ih e2
      exact ⟨k :: L, p1.cons k, by rw [List.map_cons, e1, e3]⟩
  | swap x y l => intro ks e; cases ks with
    | nil => cases e
    | cons k ks => cases ks with
      | nil => cases e
      | cons k2 ks =>
        rw [List.map_cons, List.map_cons] at e
        injection e with e1 e2
        injection e2 with e2 e3
        exact ⟨k2 :: k :: ks, .swap _ _ _, by rw [List.map_cons, List.map_cons, ← e1, ← e2, ← e3]⟩
  | trans p q ih1 ih2 =>
    intro ks e
    obtain ⟨L1, p1, e1⟩ := ih1 e
    obtain ⟨L2, p2, e2⟩ := ih2 e1
    exact ⟨L2, p2.trans p1, e2⟩
/-- sorted(l), l a list of different pairs of small ints -/
def fSortP : List T → MH → R := fun ts h => match ts with
  | [.lst xs] => match pks xs with
    | some ps => if ps.length < 64 ∧ ps.all smallP = true ∧ ps.Nodup then .ok (.lst ((srtP ps).map pairT)) h else .stuck
    | none => .stuck
  | _ => .stuck
theorem mSortP : CallM X fSortP (rSortU X.K 2 64) := by
  intro W g σ ts vs Q R r h
  unfold fSortP at h
  split at h
  · rename_i xs
    obtain ⟨v, rfl, rv⟩ := r.one
    obtain ⟨l, ws, rfl, hsq, hr⟩ := rv.sqL
    split at h
    · rename_i ps hps
      rw [pks_eq hps] at hr
      split at h
      · rename_i hc
        obtain ⟨hlen, hsm, hnd⟩ := hc
        obtain ⟨ks, e1, e2, hk⟩ := keys_of hr
        have hl : ks.length = ps.length := by
          have := congrArg List.length e2
          simpa using this
        have hbd : ∀ q ∈ ks, q.2.length = 2 ∧ TS.Bd 64 q.2 := fun q hq => by
          obtain ⟨p', hp', e5, _, _⟩ := hk q hq
          have hsm' := of_decide_eq_true (show decide _ = true from List.all_eq_true.mp hsm p' hp')
          rw [e5]
          refine ⟨rfl, fun m hm => ?_⟩
          rcases List.mem_cons.mp hm with z | z
          · omega
          · rw [List.mem_singleton] at z
            omega
        refine ⟨l, ws, rfl, hsq, by rw [e1, List.length_map]; omega, fun x hx => ?_, fun ys p hp hpw hpn => ?_⟩
        · rw [e1] at hx
          obtain ⟨q, hq, rfl⟩ := List.mem_map.mp hx
          obtain ⟨_, _, _, _, h5⟩ := hk q hq
          exact ⟨q.2, ⟨q.1, rfl, h5⟩, hbd q hq⟩
        · rw [e1] at hp
          obtain ⟨L', pm, eL⟩ := perm_inv hp.symm rfl
          subst eL
          have inL : ∀ q ∈ L', q ∈ ks := fun q hq => pm.mem_iff.mp hq
          let un : List Int → Int × Int := fun l => (l.getD 0 0, l.getD 1 0)
          have hun : ∀ q ∈ ks, q.2 = [(un q.2).1, (un q.2).2] := fun q hq => by
            obtain ⟨p', _, e5, _⟩ := hk q hq
            rw [e5] <;> rfl
          have e6 : L'.map (·.2) = ((L'.map fun q => un q.2)).map (fun p => [p.1, p.2]) := by
            rw [List.map_map]
            exact List.map_congr_left fun q hq => hun q (inL q hq)
          have eks : ks.map (fun q => un q.2) = ps := by
            have z : (ks.map (·.2)).map un = (ps.map fun p => [p.1, p.2]).map un := by rw [e2]
            rw [List.map_map, List.map_map] at z
            have z2 : ps.map (un ∘ fun p => [p.1, p.2]) = ps := by
              conv => rhs; rw [← List.map_id ps]
              exact List.map_congr_left fun q _ => rfl
            rw [z2] at z
            exact z
          have ndL : (L'.map fun q => un q.2).Nodup := by
            have : (L'.map fun q => un q.2).Perm ps := by
              rw [← eks]
              exact pm.map _
            exact this.nodup_iff.mpr hnd
          have pw : L'.Pairwise fun q r => TS.code 64 q.2 ≤ TS.code 64 r.2 := by
            have z := List.pairwise_map.mp hpw
            refine z.imp_of_mem fun {q r} hq hr hh => ?_
            obtain ⟨_, _, _, _, h5⟩ := hk q (inL q hq)
            obtain ⟨_, _, _, _, h6⟩ := hk r (inL r hr)
            exact hh _ _ ⟨q.1, rfl, h5⟩ ⟨r.1, rfl, h6⟩
          have asc : AscP (L'.map fun q => un q.2) := by
            refine List.pairwise_map.mpr ?_
            have nd' := List.pairwise_map.mp ndL
            refine (nd'.and pw).imp_of_mem fun {q r} hq hr hh => ?_
            obtain ⟨p1, m1, e7, _⟩ := hk q (inL q hq)
            obtain ⟨p2, m2, e8, _⟩ := hk r (inL r hr)
            obtain ⟨ne, le⟩ := hh
            have s1 := of_decide_eq_true (show decide _ = true from List.all_eq_true.mp hsm p1 m1)
            have s2 := of_decide_eq_true (show decide _ = true from List.all_eq_true.mp hsm p2 m2)
            have ne' : ([p1.1, p1.2] : List Int) ≠ [p2.1, p2.2] := fun z => ne (by
              show un q.2 = un r.2
              rw [e7, e8, z])
            rw [e7, e8] at le
            have z := pair_lt le ne' ⟨s1.1, s1.2.1⟩ s1.2.2 ⟨s2.1, s2.2.1⟩ s2.2.2
            show ltPr (un q.2) (un r.2) = true
            rw [e7, e8]
            exact ltPr_iff.mpr z
          have eS : srtP ps = L'.map fun q => un q.2 := by
            refine ascP_uniq asc_srtP asc fun r => ?_
            rw [mem_srtP, ← eks]
            exact ((pm.map fun q => un q.2).mem_iff).symm
          have rl : RepL X.K X.mg g ((srtP ps).map pairT) (L'.map fun q => V.ref q.1) := by
            rw [eS]
            refine reps_of (ks := ks) e6 fun q hq => ?_
            obtain ⟨p', _, e5, r5, _⟩ := hk q (inL q hq)
            exact ⟨p', e5, r5⟩
          exact wpR_lst h R rl hpn
      · exact h.elim
    · exact h.elim
  · exact h.elim
end
end Mi
end part_Mi31
section part_Mi32
set_option maxRecDepth 100000
set_option maxHeartbeats 4000000
/-! Mi, part 32: classmethods; cls(..). -/
namespace Mi
open PySem PySem.Spec PyProof.Rows L2
/-- a classmethod of the class -/
def HasC (P : Program) (w : World) (K : PySem.W.Frag) (mg : Str → Option Value) (base : Heap) (k : Nat) (c x qual : Str) (st : Stmt) (ps : List Str) (dts : List T) (m : MF) : Prop :=
  ∃ C p f fd dvs mc, mg c = some (.ref C) ∧ ClX.CRead K C mc ∧ ClX.CMet K C mc x p f ∧ FnH P w K mg base k x qual st ps dts m f fd dvs
section
variable {X : Cx} {K : PySem.W.Frag} {mg : Str → Option Value} {W : WX} {g : G} {σ : L2.St} {Q : VK}
variable {a b e : Expr} {ma mb me : ME} {mr mk : MA} {pos p apos : Pos} {es : List Expr} {c x : Str} {kws : List Keyword}
variable {k n j : Nat} {qual : Str} {st : Stmt} {ps ks : List Str} {is : List Nat} {dts : List T} {mf : MF} {fm : List T → MH → R}
abbrev HasCX (X : Cx) := HasC X.prog X.w X.K X.mg X.base
theorem rep_cls {C : Addr} (h : mg c = some (.ref C)) : Rep K mg g (.cls c) (.ref C) := by
  simp only [Rep]
  exact ⟨C, rfl, h⟩
/-- C as a value -/
theorem se_cls {C : Addr} (h : X.mg c = some (.ref C)) (hg : Gl X c := by rfl) (hd : (c == ("__debug__" : Str)) = false := by decide) : SE X W (.Name c pos) (mC (.cls c)) := se_c (pe_glob hg h (v := .ref C) rfl hd) fun g => rep_cls h
/-- the call of a bound classmethod -/
theorem run_cmM {C q f : Addr} {fd : FuncData} {pins : List (Addr × Obj)} {s : Shared} {us : List Value} {kw : List (Str × Value)} {all : List Value} {vs : List V} {H : Hp} (F : FnOk X.prog X.w X.K X.mg X.base (L2.CX X.prog X.w) k f fd ps (spM X.K X.mg ps.length mf)) (hr : Room k X.A) (tk : Takes X W)
    (I : Inv X ((q, PySem.W.methodObj (.ref f) (.ref C)) :: pins) σ H s) (hb : BindsTo s fd ⟨.ref C :: us, kw⟩ (ps.zip all)) (r : Vals vs all) (h : spM X.K X.mg ps.length mf vs H Q (WE W σ)) :
    wpAny (model X.prog X.w) X.A (call (.ref q) us kw) (EP X pins σ Q) X.xe s := by
  have z : wpAny (model X.prog X.w) X.A (call (.ref q) us kw) (EP X ((q, PySem.W.methodObj (.ref f) (.ref C)) :: pins) σ Q) X.xe s := by
    refine wpAny_call (PySem.W.method_call (ClX.pin_at I) (codeAny_mono (code_at F hr I.env0 (passAt tk σ) I hb r h) fun r s' hq => ?_))
    cases r with
    | error e => exact hq
    | ok fl => cases fl <;> exact hq
  exact thn z fun _ _ y => ClX.unpinE y
/-- C.m(e, ..) -/
def mCm (c : Str) (dts : List T) (fm : List T → MH → R) (mr : MA) : ME := fun s h => (mr s h).bind fun ts h2 => fm (.cls c :: (ts ++ dts)) h2
theorem se_cm1 {pl : Sem Bool} (Hm : HasCX X k c x qual st ps dts mf) (hr : Room k X.A) (tk : Takes X W) (cl : Calls2 X W ps.length mf fm) (hb : PosD st x qual ps dts.length n j) (hn : n + (dts.length - j) = ps.length) (ha : SA X W (e :: es) mr) (hg : Gl X c := by rfl) (hd : (c == ("__debug__" : Str)) = false := by decide)
    (hst : starEach (e :: es) X.env = (false, eval e X.env) :: starEach es X.env := by rfl) (hpl : (backTo pos (starEach es X.env)).any (·.1) = false := by rfl)
    (ht : eval (.Call (.Attribute (.Name c p) x apos) (e :: es) [] pos) X.env = (do
      let ov ← eval (.Name c p) X.env
      standAt apos.atName
      let (f, first) ← holding [ov] (getMethod ov x pl)
      callWith pos f first (backTo pos (starEach (e :: es) X.env)) (backToKw pos (keywordEach [] X.env))) := by rfl) :
    SE X W (.Call (.Attribute (.Name c p) x apos) (e :: es) [] pos) (mCm c (dts.drop j) fm mr) := by
  obtain ⟨C, pp, f, fd, dvs, mc, hC, hrd, hme, hf⟩ := Hm
  obtain ⟨ds, hds, hbs⟩ := posD_binds hf hb hn
  refine ⟨fun pins s σ H Q I h => ?_⟩
  obtain ⟨g, s0, rfl, R, S, h⟩ := h
  refine PySem.W.methodCall_KW (pl := pl) (thn ((pe_glob hg hC (v := .ref C) rfl hd).run pins s σ g.H (fun v H1 => v = .ref C ∧ H1 = g.H) I ⟨rfl, rfl⟩) fun u s1 ⟨v, H1, I1, rv, ev, eH⟩ => ?_) ht
  subst ev eH
  obtain rfl : u = Value.ref C := rv
  refine ClX.getmethcm_ok I1 hrd hme fun s2 I2 => ?_
  refine ClX.callwith_cm I2 (ClX.base_none I1 (Nat.le_refl _)) hme.fi (thn (ha.run pos _ s2 σ g.H _ I2 ⟨g, s0, rfl, R, S, wpL_of h (Q' := fun vs H2 => spM X.K X.mg ps.length mf (V.ref C :: (vs ++ dvs.drop j)) H2 Q (WE W σ)) fun g2 ts vs e2 R2 r2 h2 => ?_⟩) fun us s3 ⟨vs, H2, I3, r2, q2⟩ => ⟨⟨ClX.pin_at I3, I3.kIn⟩, ?_⟩) hst hpl
  · exact cl g2 σ (.cls c :: (ts ++ dts.drop j)) (V.ref C :: (vs ++ dvs.drop j)) Q R2 (RepL.cons (rep_cls hC) (r2.append ((hf.dr g2).drop j))) h2
  · have rr : Vals (V.ref C :: (vs ++ dvs.drop j)) (Value.ref C :: (us ++ ds)) := .cons rfl (r2.append hds)
    have hl2 : ((Value.ref C :: us) ++ ds).length = ps.length := by
      have := spM_len q2
      rw [← this]
      exact rr.length.symm
    exact run_cmM hf.ok hr tk I3 (hbs s3 (Value.ref C :: us) I3.kIn hl2) rr q2
/-- C.m(k = e, ..) -/
def mCmK (c : Str) (nk : Nat) (is : List Nat) (dts : List T) (fm : List T → MH → R) (mk : MA) : ME := fun s h => (mk s h).bind fun us h2 => if us.length = nk then fm (pick is (.cls c :: (us ++ dts))) h2 else .stuck
theorem se_cmK {pl : Sem Bool} (Hm : HasCX X k c x qual st ps dts mf) (hr : Room k X.A) (tk : Takes X W) (cl : Calls2 X W ps.length mf fm) (hb : KwD st x qual ps dts.length 1 ks is) (hkw : SK X W kws mk) (hg : Gl X c := by rfl) (hd : (c == ("__debug__" : Str)) = false := by decide)
    (hall : (backToKw pos (keywordEach kws X.env)).all (·.1.isSome) = true := by rfl) (hks : (backToKw pos (keywordEach kws X.env)).filterMap (·.1) = ks := by rfl)
    (hpl : ((backTo pos (starEach [] X.env)).any (·.1) || (backToKw pos (keywordEach kws X.env)).any (·.1.isNone)) = false := by rfl)
    (ht : eval (.Call (.Attribute (.Name c p) x apos) [] kws pos) X.env = (do
      let ov ← eval (.Name c p) X.env
      standAt apos.atName
      let (f, first) ← holding [ov] (getMethod ov x pl)
      callWith pos f first (backTo pos (starEach [] X.env)) (backToKw pos (keywordEach kws X.env))) := by rfl) :
    SE X W (.Call (.Attribute (.Name c p) x apos) [] kws pos) (mCmK c ks.length is dts fm mk) := by
  obtain ⟨C, pp, f, fd, dvs, mc, hC, hrd, hme, hf⟩ := Hm
  obtain ⟨its, rv0, hbs⟩ := kwD_binds hf hb
  refine ⟨fun pins s σ H Q I h => ?_⟩
  obtain ⟨g, s0, rfl, R, S, h⟩ := h
  refine PySem.W.methodCall_KW (pl := pl) (thn ((pe_glob hg hC (v := .ref C) rfl hd).run pins s σ g.H (fun v H1 => v = .ref C ∧ H1 = g.H) I ⟨rfl, rfl⟩) fun u s1 ⟨v, H1, I1, rv, ev, eH⟩ => ?_) ht
  subst ev eH
  obtain rfl : u = Value.ref C := rv
  refine ClX.getmethcm_ok I1 hrd hme fun s2 I2 => ?_
  have hbq := ClX.base_none I1 (Nat.le_refl _)
  have key : tMA X.K X.mg W mk σ g.H (fun zs H2 => zs.length = ks.length ∧ spM X.K X.mg ps.length mf (pick is (V.ref C :: (zs ++ dvs))) H2 Q (WE W σ)) :=
    ⟨g, s0, rfl, R, S, wpL_of h fun g2 us zs e2 R2 r2 h2 => by
      split at h2
      · rename_i q
        refine ⟨by rw [← r2.length]; exact q, cl g2 σ (pick is (.cls c :: (us ++ dts))) _ Q R2 (pick_repL (RepL.cons (rep_cls hC) (r2.append (hf.dr g2))) is) h2⟩
      · exact h2.elim⟩
  refine PySem.W.callWith_of (P := fun h => PySem.W.MethP X.K s1.heap.objs.size f (.ref C) h) hpl (PySem.W.keeps_M hme.fi) (evalArgs_kw2_nil hall (thn (hkw.run pos _ s2 σ g.H _ I2 key) fun ws s3 ⟨zs, H2, I3, rz, l2, q2⟩ => ⟨⟨ClX.pin_at I3, I3.kIn⟩, ?_⟩))
  rw [hks]
  exact run_cmM hf.ok hr tk I3 (hbs s3 [Value.ref C] ws I3.kIn rfl (rz.length.symm.trans l2)) (pick_vals (show Vals (V.ref C :: (zs ++ dvs)) (Value.ref C :: (ws ++ its)) from .cons rfl (rz.append rv0)) is) q2
/-- x(e, ..), x a name that holds a class -/
def mMkV (mx : ME) (c : Str) (f : List T → MH → R) (mr : MA) : ME := fun s h => (mx s h).bind fun t h1 => match t with
  | .cls c' => if c' = c then (mr s h1).bind f else .stuck
  | _ => .stuck
theorem se_makeV {frz : Bool} (Hi : HasIX X k c qual st ps dts mf) (hr : Room (k + 1) X.A) (tk : Takes X W) (hb : PosD st "__init__" qual ps dts.length n j) (hn : n + (dts.length - j) = ps.length) (h1n : 1 ≤ n) (hx : SE X W (.Name x p) mb) (ha : SA X W (e :: es) mr)
    (he : starEach (e :: es) X.env = (false, eval e X.env) :: starEach es X.env := by rfl) (hpl : (backTo pos (starEach es X.env)).any (·.1) = false := by rfl) :
    SE X W (.Call (.Name x p) (e :: es) [] pos) (mMkV mb c (fMkN (n - 1) (fMk frz c mf (dts.drop j))) mr) := by
  obtain ⟨C, f, fd, dvs, hC, M, hf⟩ := Hi
  obtain ⟨ds, hds, hbs⟩ := posD_binds hf hb hn
  refine ⟨fun pins s σ H Q I h => ?_⟩
  obtain ⟨g, s0, rfl, R, S, h⟩ := h
  refine wpAny_Call_Name_kw (thn (hx.run pins s σ g.H _ I ⟨g, s0, rfl, R, S, wpR_bind (Q := Q) h (Q' := fun v H1 => ∃ g1, g1.H = H1 ∧ v = .ref C ∧ Ext g g1 ∧ Rel X.K X.mg g1 ∧ wpR X.K X.mg W g1 σ Q ((mr s0 g1.h).bind (fMkN (n - 1) (fMk frz c mf (dts.drop j))))) fun g1 t v e1 R1 r1 h1 => ?_⟩) fun u s1 ⟨v, H1, I1, rv, g1, eH, ev, e1, R1, h1⟩ => ?_)
  · split at h1
    · rename_i c'
      split at h1
      · rename_i ec
        subst ec
        simp only [Rep] at r1
        obtain ⟨C', e2, hC'⟩ := r1
        rw [hC] at hC'
        cases hC'
        exact ⟨g1, rfl, e2, e1, R1, h1⟩
      · exact h1.elim
    · exact h1.elim
  · subst eH ev
    obtain rfl : u = Value.ref C := rv
    refine PySem.W.callWith_K (h₀ := X.base) I1.ok.mod.kin M.kp (thn (ha.run pos pins s1 σ g1.H _ I1 ⟨g1, s0, rfl, R1, S.mono e1, wpL_of h1 (Q' := fun vs H1 => vs.length = n - 1 ∧ ∀ x1 dx, H1 x1 = none → H1 dx = none → dx ≠ x1 → spM X.K X.mg ps.length mf (.ref x1 :: (vs ++ dvs.drop j)) (upd (upd H1 dx (.own x1)) x1 (.ins C dx [])) (fun v H2 => v = .non ∧ Q (.ref x1) H2) (WE W σ)) fun g2 ts vs e2 R2 r2 h2 => ?_⟩) fun us s2 ⟨vs, H2, I2, r, hv, q⟩ => ⟨I2.kIn, ?_⟩) he hpl
    · unfold fMkN at h2
      split at h2
      · rename_i hl
        refine ⟨r2.length.symm.trans hl, fun x1 dx hx hdx ne => make_use R2 r2 (fun g => (hf.dr g).drop j) hC hx hdx ne ?_ h2⟩
        rw [List.length_append, hl, List.length_drop]
        omega
      · exact h2.elim
    · have hl : us.length = n - 1 := r.length.symm.trans hv
      refine make_at M hf.ok hr (passAt tk σ) I2 (fun u => u :: (us ++ ds)) (fun x => x :: (vs ++ dvs.drop j)) [] (fun s' u ki => hbs s' (u :: us) ki ?_) (fun x u rx => .cons rx (r.append hds)) q
      have h5 := hds.length
      have h6 := hf.dl
      rw [List.length_append, List.length_cons, hl, ← h5, List.length_drop, h6]
      omega
end
end Mi
end part_Mi32
section part_Mi33
set_option maxRecDepth 100000
set_option maxHeartbeats 4000000
/-! Mi, part 33: != where the class has __eq__ alone; small things for printed classes. -/
namespace PySem
namespace MiX
open Builtin
section
variable {prog : Program} {w : World} {A : Around} {E : Value → Shared → Prop} {h : Heap} {g : Array GenState} {d : Drawn} {t : Nat} {os : OsState} {K : W.Frag} {x C f : Addr} {ox : Obj} {od : Option Obj} {b tb : Value}
theorem objNe_K (X : K.In h) (I : W.InstAt h x ox C od) (hs : W.findIn K (.ref C) "__eq__" = some (some (.ref f))) (hf : W.isFn K (.ref f) = true) (hu : A.units < cLine) {Q : Fin → Shared → Prop}
    (hcall : wpAny (model prog w) A (call (.ref f) [.ref x, b]) (fun v s' => ∃ b, v = .bool b ∧ Q (.done (.ret (.bool (!b)))) s') E ⟨h, g, d, t, os⟩) :
    wpAny (model prog w) A (Builtin.«object.__ne__» ⟨[.ref x, b], []⟩) Q E ⟨h, g, d, t, os⟩ := by
  unfold Builtin.«object.__ne__»
  repeat (first
    | with_reducible refine wpAny_cRoomFor hu ?_
    | (refine wpAny_bind (m := callSpecialIfBound? (.ref x) (Str.ofString "__eq__") [b])
        (W.ifBound_K (s := ⟨h, g, d, t, os⟩) X I hs hf (wpAny_mono hcall (fun r s' hr => by
          obtain ⟨b, rfl, hq⟩ := hr
          repeat (first | exact hq | exact wpAny_pure hq | exact wpAny_truthy_bool hq | (refine wpAny_bind (m := truthy (.bool _)) (wpAny_truthy_bool ?_)) | wp_step)) fun _ _ e => e)))
    | wp_step)
theorem tryNe_K (X : K.In h) (I : W.InstAt h x ox C od) (hn : W.findIn K (.ref C) "__ne__" = some (some (.builtin "object.__ne__"))) (hs : W.findIn K (.ref C) "__eq__" = some (some (.ref f))) (hf : W.isFn K (.ref f) = true) (ho : W.mroIn K C (.type "object") = some true) (hu : A.units + 1 < cLine) {Q : Option Value → Shared → Prop}
    (hcall : wpAny (model prog w) A.in1 (call (.ref f) [.ref x, b]) (fun v s' => ∃ b, v = .bool b ∧ Q (some (.bool (!b))) s') E ⟨h, g, d, t, os⟩) :
    wpAny (model prog w) A (tryCompare (.ref x) "__ne__" b) Q E ⟨h, g, d, t, os⟩ := by
  have SL := F.slot_range_iterator_ne
  have sub : W.Looks (model prog w) h (isInstance (.ref x) (.type "object")) true := I.type.andThen (W.looks_mroIn X ho)
  simp only [tryCompare]
  refine wpAny_bind ?_
  simp only [callSpecialIfBound?, bindSpecialIfBound?]
  refine wpAny_holding (wpAny_bind (wpAny_bind (wpAny_bind (I.type.at ((W.looks_findIn X hn).at ?_)))))
  have go : wpAny (model prog w) A (call (.builtin "object.__ne__") ([.ref x] ++ [b])) (fun r s' => ∃ bb, r = .bool bb ∧ Q (some (.bool bb)) s') E ⟨h, g, d, t, os⟩ := by
    refine wpAny_call (codeAny_call_builtin SL.plain F.cmpEntry_ne (@W.check_slot (model prog w) _ _ ⟨h, g, d, t, os⟩ "object.__ne__" "object" "__ne__" (.ref x) [b] [] _ F.cmpKind_ne F.cmpSplit_ne sub (F.cmpArgs_ne _ _) ?_))
    exact objNe_K (A := A.in1) X I hs hf hu (wpAny_mono hcall (fun v s' hv => by obtain ⟨bb, rfl, hq⟩ := hv; exact ⟨bb, rfl, _, rfl, hq⟩) fun _ _ e => e)
  have fin : wpAny (model prog w) A (call (.builtin "object.__ne__") ([.ref x] ++ [b]) >>= fun v => pure (some v)) (fun r s' => wpAny (model prog w) A (match r with | some .notImplemented | none => pure none | some v => pure (some v) : Sem (Option Value)) Q E s') E ⟨h, g, d, t, os⟩ := by
    refine wpAny_bind (wpAny_mono go (fun v s' hv => ?_) fun _ _ e => e)
    obtain ⟨bb, rfl, hq⟩ := hv
    exact wpAny_pure (wpAny_pure hq)
  have hbind := SL.bind (.ref x)
  refine wpAny_bind (wpAny_askSetting (wpAny_ite ?_))
  split
  · exact wpAny_bind (wpAny_of_eq hbind (wpAny_pure (by exact fin)))
  · exact wpAny_tryCatch (wpAny_bind (wpAny_of_eq hbind (wpAny_pure (by exact fin))))
theorem richNe_K {Q : Value → Shared → Prop} (X : K.In h) (I : W.InstAt h x ox C od) (hb : W.Looks (model prog w) h (typeOf b) tb) (hnf : W.notFirst K C tb = true) (hn : W.findIn K (.ref C) "__ne__" = some (some (.builtin "object.__ne__"))) (hs : W.findIn K (.ref C) "__eq__" = some (some (.ref f))) (hf : W.isFn K (.ref f) = true)
    (ho : W.mroIn K C (.type "object") = some true) (hu : A.units + 1 < cLine)
    (hcall : wpAny (model prog w) A.in1 (call (.ref f) [.ref x, b]) (fun v s' => ∃ b, v = .bool b ∧ Q (.bool (!b)) s') E ⟨h, g, d, t, os⟩) :
    wpAny (model prog w) A (richCompare .NotEq (.ref x) b) Q E ⟨h, g, d, t, os⟩ := by
  have one : wpAny (model prog w) A (tryCompare (.ref x) "__ne__" b) (fun r s' => ∃ v, r = some v ∧ Q v s') E ⟨h, g, d, t, os⟩ :=
    tryNe_K X I hn hs hf ho hu (wpAny_mono hcall (fun v s' hv => by obtain ⟨bb, rfl, hq⟩ := hv; exact ⟨bb, rfl, _, rfl, hq⟩) fun _ _ e => e)
  unfold richCompare
  simp only [oneThing_ref]
  refine wpAny_holding (wpAny_bind (wpAny_cRoomFor (Nat.lt_of_succ_lt hu) ?_))
  rw [cmpInfo_NotEq]
  dsimp only
  refine wpAny_bind (I.type.at (wpAny_bind (hb.at ?_)))
  split
  · rename_i q
    have e : W.subIn K tb (.ref C) = some false := by
      rcases Bool.or_eq_true_iff.mp hnf with e | e
      · rw [beq_iff_eq.mp e] at q; simp at q
      · exact beq_iff_eq.mp e
    refine wpAny_bind ((W.looks_subIn X e).at ?_)
    simp only [Bool.false_eq_true, if_false]
    refine wpAny_bind (wpAny_mono one (fun r s' z => ?_) fun _ _ e => e)
    obtain ⟨v, rfl, hq⟩ := z
    exact wpAny_pure hq
  · refine wpAny_bind (wpAny_pure ?_)
    simp only [Bool.false_eq_true, if_false]
    refine wpAny_bind (wpAny_mono one (fun r s' z => ?_) fun _ _ e => e)
    obtain ⟨v, rfl, hq⟩ := z
    exact wpAny_pure hq
end
end MiX
end PySem
end part_Mi33
section part_Mi34
set_option maxRecDepth 100000
set_option maxHeartbeats 4000000
/-! Mi, part 34: what printed classes want. -/
namespace Mi
open PySem PySem.Spec PyProof.Rows L2
section
variable {X : Cx} {K : PySem.W.Frag} {mg : Str → Option Value} {W : WX} {g : G} {σ : L2.St} {Q : VK}
variable {a b e : Expr} {ma mb me : ME} {mr mk : MA} {pos p apos : Pos} {es : List Expr} {c x : Str}
variable {k n j : Nat} {qual : Str} {st : Stmt} {ps ks : List Str} {is : List Nat} {dts : List T} {mf : MF} {fm : List T → MH → R}
/-! ### x != y -/
structure NeC (K : PySem.W.Frag) (mg : Str → Option Value) (c : Str) : Prop where
  ne : ∀ C, mg c = some (.ref C) → PySem.W.findIn K (.ref C) "__ne__" = some (some (.builtin "object.__ne__")) ∧ PySem.W.mroIn K C (.type "object") = some true
def fNeO (cs : List Str) (c : Str) (fm : List T → MH → R) : T → T → MH → R := fun t u h => if isCls c t h && knownT cs u h then (fm [t, u] h).bind (fBlB true) else .stuck
theorem cm_ne {cs : List Str} (HC : EqC X.K X.mg c cs) (HN : NeC X.K X.mg c) (Hm : HasMX X k c "__eq__" qual st ps [] mf) (hr : Room (k + 1) X.A) (tk : Takes X W) (cl : Calls2 X W ps.length mf fm) (hb : PosD st "__eq__" qual ps 0 ps.length 0) : CmpM X W .NotEq (fNeO cs c fm) := by
  intro g σ t u v w y z pins s Q R r1 r2 I rv rw' h
  obtain ⟨C, f, fd, dvs, hC, hcl, hme, hf⟩ := Hm
  unfold fNeO at h
  split at h
  · rename_i zc
    obtain ⟨z1, z3⟩ := Bool.and_eq_true_iff.mp zc
    obtain ⟨p1, C1, dx, fs, rfl, hp, hc1⟩ := isCls_at R r1 z1
    have z2 : C1 = C := by rw [hC] at hc1; cases hc1; rfl
    subst z2
    cases (show y = Value.ref p1 from rv)
    obtain ⟨mA, O, _⟩ := ins_get I.hok hp
    obtain ⟨od, J, _⟩ := O.look
    obtain ⟨tb, ht, hk⟩ := type_of R r2 I rw' z3
    have nf : PySem.W.notFirst X.K C1 tb = true := by
      rcases hk with ⟨a, rfl⟩ | ⟨c', C', hc', hm', rfl⟩
      · exact HC.ty C1 hC a
      · exact HC.own C1 hC c' hc' C' hm'
    obtain ⟨n1, n2⟩ := HN.ne C1 hC
    have hu : X.A.units + 1 < cLine := by have := hr.un; omega
    obtain ⟨hp0, g0, d0, t0, o0⟩ := s
    show wpAny _ _ (richCompare .NotEq (.ref p1) z) _ _ _
    refine PySem.MiX.richNe_K I.kIn J ht nf n1 hme.at_ hme.fn n2 hu ?_
    refine wpAny_mono (run_in1 (A := X.A.in1) (us := [Value.ref p1, z]) (vs := [V.ref p1, w]) (Q := fun r H2 => ∃ b : Bool, r = .bl b ∧ Q (.bl (!b)) H2) hf hr.in1 I.env0.in1 tk hb I (.cons rfl (.cons rw' .nil)) ?_) (fun r s' hq => ?_) fun _ _ y => y
    · refine cl g σ [t, u] [V.ref p1, w] _ R (RepL.cons r1 (RepL.cons r2 RepL.nil)) (wpR_bind h fun g2 t2 v2 e2 R2 r2 h2 => ?_)
      unfold fBlB at h2
      split at h2
      · rename_i b
        exact ⟨b, rep_bl r2, wpR_here h2 R2 rBl⟩
      · exact h2.elim
    · obtain ⟨v3, H3, I3, rv3, b, rfl, q3⟩ := hq
      cases rv3
      exact ⟨b, rfl, .bl (!b), H3, I3, rfl, q3⟩
  · exact h.elim
/-! ### list(e), changeable -/
def fListN : List T → MH → R := fun ts h => match fList ts h with
  | .ok (.lst xs) h1 => .ok (.ref h1.length) (h1 ++ [.lst xs])
  | _ => .stuck
theorem mListN : CallM X fListN (fun xs H Q => ∃ p ys, xs = [.ref p] ∧ (SqL X.K H p ys ∨ SqT X.K H p ys) ∧ ∀ l, H l = none → Q (.ref l) (upd H l (.lst ys))) := by
  intro W g σ ts vs Q R r h
  unfold fListN fList at h
  split at h
  · rename_i xs h1 q
    split at q
    · obtain ⟨v, rfl, rv⟩ := r.one
      split at q
      · rename_i ys q2
        cases q
        obtain ⟨p, vs, rfl, h2, l1⟩ := seq_of R rv q2
        exact ⟨p, vs, rfl, h2, fun l hl => wpR_new h R l1 hl⟩
      · cases q
    · cases q
  · exact h.elim
end
theorem hu64 {k : Nat} {A : Around} (r : Room k A) : A.units + 64 < cLine := by have := r.un; omega
/-! ### more room -/
section
variable {P : Program} {w : World} {K : PySem.W.Frag} {mg : Str → Option Value} {base : Heap} {j k : Nat} {c x qual : Str} {st : Stmt} {ps : List Str} {dts : List T} {m : MF}
theorem HasM.up (h : HasM P w K mg base j c x qual st ps dts m) (l : j ≤ k) : HasM P w K mg base k c x qual st ps dts m := let ⟨C, f, fd, dvs, h1, h2, h3, h4⟩ := h; ⟨C, f, fd, dvs, h1, h2, h3, h4.up l⟩
theorem HasI.up (h : HasI P w K mg base j c qual st ps dts m) (l : j ≤ k) : HasI P w K mg base k c qual st ps dts m := let ⟨C, f, fd, dvs, h1, h2, h3⟩ := h; ⟨C, f, fd, dvs, h1, h2, h3.up l⟩
theorem HasP.up (h : HasP P w K mg base j c x qual st m) (l : j ≤ k) : HasP P w K mg base k c x qual st m := let ⟨C, p, f, fd, dvs, h1, h2, h3, h4⟩ := h; ⟨C, p, f, fd, dvs, h1, h2, h3, h4.up l⟩
theorem HasC.up (h : HasC P w K mg base j c x qual st ps dts m) (l : j ≤ k) : HasC P w K mg base k c x qual st ps dts m := let ⟨C, p, f, fd, dvs, mc, h1, h2, h3, h4⟩ := h; ⟨C, p, f, fd, dvs, mc, h1, h2, h3, h4.up l⟩
theorem posD0 (h : ∀ (kV doc pm : Value) (an : Option Addr) (cdv ct : Value) (us : List Value), us.length = n → bindArgs (PySem.W.fnOf x qual (defArgs st) (defBody st) (defScope st) .none kV doc pm an cdv ct) ⟨us, []⟩ = pure (ps.zip us)) : PosD st x qual ps 0 n i := by
  intro dV kV doc pm an cdv ct us its hu hi
  rw [if_pos rfl]
  exact h kV doc pm an cdv ct us hu
theorem posDs {nd n i : Nat} (hnd : nd ≠ 0) (h : ∀ (T : Addr) (kV doc pm : Value) (an : Option Addr) (cdv ct : Value) (us its : List Value), us.length = n → its.length = nd →
    ∃ k, bindArgs (PySem.W.fnOf x qual (defArgs st) (defBody st) (defScope st) (.ref T) kV doc pm an cdv ct) ⟨us, []⟩ = seqItems? (.ref T) >>= k ∧ k (some its.toArray) = pure (ps.zip (us ++ its.drop i))) : PosD st x qual ps nd n i := by
  intro dV kV doc pm an cdv ct us its hu hi
  rw [if_neg hnd]
  exact fun T => h T kV doc pm an cdv ct us its hu hi
theorem kwD0 (h : ∀ (kV doc pm : Value) (an : Option Addr) (cdv ct : Value) (us ws : List Value), us.length = n → ws.length = ks.length →
    bindArgs (PySem.W.fnOf x qual (defArgs st) (defBody st) (defScope st) .none kV doc pm an cdv ct) ⟨us, ks.zip ws⟩ = pure (ps.zip (pick is (us ++ ws)))) : KwD st x qual ps 0 n ks is := by
  intro kV doc pm an cdv ct us ws its hu hw hi
  rw [if_pos rfl]
  cases its with
  | nil => rw [List.append_nil]; exact h kV doc pm an cdv ct us ws hu hw
  | cons _ _ => cases hi
theorem kwDs {nd n : Nat} (hnd : nd ≠ 0) (h : ∀ (T : Addr) (kV doc pm : Value) (an : Option Addr) (cdv ct : Value) (us ws its : List Value), us.length = n → ws.length = ks.length → its.length = nd →
    ∃ k, bindArgs (PySem.W.fnOf x qual (defArgs st) (defBody st) (defScope st) (.ref T) kV doc pm an cdv ct) ⟨us, ks.zip ws⟩ = seqItems? (.ref T) >>= k ∧ k (some its.toArray) = pure (ps.zip (pick is (us ++ ws ++ its)))) : KwD st x qual ps nd n ks is := by
  intro kV doc pm an cdv ct us ws its hu hw hi
  rw [if_neg hnd]
  exact fun T => h T kV doc pm an cdv ct us ws its hu hw hi
end
/-! ### what the module says of methods -/
abbrev FunW (K : PySem.W.Frag) (mg : Str → Option Value) (x qual : Str) (st : Stmt) (dts : List T) (f : Addr) (fd : FuncData) (dvs : List V) : Prop := FunD K x qual (defArgs st) (defBody st) (defScope st) dvs [] f fd ∧ dvs.length = dts.length ∧ ∀ g, RepL K mg g dts dvs
def MethAt (K : PySem.W.Frag) (mg : Str → Option Value) (c x qual : Str) (st : Stmt) (dts : List T) : Prop := ∃ C f fd dvs, mg c = some (.ref C) ∧ Cls K C ∧ Meth K C x f ∧ FunW K mg x qual st dts f fd dvs
def InitAt (K : PySem.W.Frag) (mg : Str → Option Value) (c qual : Str) (st : Stmt) (dts : List T) : Prop := ∃ C f fd dvs, mg c = some (.ref C) ∧ Mk K C f ∧ FunW K mg "__init__" qual st dts f fd dvs
def PropAt (K : PySem.W.Frag) (mg : Str → Option Value) (c x qual : Str) (st : Stmt) : Prop := ∃ C p f fd dvs, mg c = some (.ref C) ∧ Cls K C ∧ PropOf K C x p f ∧ FunW K mg x qual st [] f fd dvs
def CmAt (K : PySem.W.Frag) (mg : Str → Option Value) (c x qual : Str) (st : Stmt) (dts : List T) : Prop := ∃ C p f fd dvs mc, mg c = some (.ref C) ∧ ClX.CRead K C mc ∧ ClX.CMet K C mc x p f ∧ FunW K mg x qual st dts f fd dvs
/-! ### .. as Bools -/
def okA (K : PySem.W.Frag) (a : Addr) (q : Str) (dts : List T) : Bool := PySem.W.keepIn K (.ref a) && (match K.lookup a with
  | some ⟨_, _, .func fd, _⟩ => fd.closure.isEmpty && (PySem.W.codeIn K fd.code q && (match fd.defaults, dts with
    | .none, [] => true
    | .ref T, t :: ts => (match K.lookup T with
      | some ⟨_, _, .seq its _, _⟩ => kTs K (t :: ts) its.toList
      | _ => false)
    | _, _ => false))
  | _ => false)
theorem okA_ok {K : PySem.W.Frag} {mg : Str → Option Value} {a : Addr} {x qual : Str} {st : Stmt} {dts : List T} (e : fnS K a = some (x, qual, defArgs st, .stmts (defBody st), defScope st, mainGlobals, builtinsNs)) (b : okA K a qual dts = true) : ∃ fd dvs, FunW K mg x qual st dts a fd dvs := by
  unfold okA at b
  obtain ⟨kp, b⟩ := bb b
  unfold fnS at e
  split at b
  · rename_i oc od fd osl lk
    rw [lk] at e
    obtain ⟨n1, n2, n3, n4, n5, n6, n7, n8, n9, n10, n11, n12, n13, n14, n15⟩ := fd
    have e2 : (some (n1, n2, n3, n4, n5, n6, n15) : FnS) = some (x, qual, defArgs st, .stmts (defBody st), defScope st, mainGlobals, builtinsNs) := e
    simp only [Option.some.injEq, Prod.mk.injEq] at e2
    obtain ⟨h1, h2, h3, h4, h5, h6, h8⟩ := e2
    subst h1 h2 h3 h4 h5 h6 h8
    obtain ⟨b1, b⟩ := bb b
    obtain ⟨b2, b3⟩ := bb b
    have e7 : n7 = [] := List.isEmpty_iff.mp b1
    subst e7
    dsimp only at b3
    split at b3
    · exact ⟨_, [], ⟨⟨oc, od, _, n9, n10, n11, n12, n13, n14, osl, rfl, lk, b2, .inl ⟨rfl, rfl⟩, .inl rfl⟩, kp⟩, rfl, fun g => RepL.nil⟩
    · rename_i T t ts q1 q2
      split at b3
      · rename_i oc2 od2 its n2' sl2 lk2
        obtain ⟨vs, rs, qs⟩ := kTs_of (mg := mg) (fun t _ u hu => kT_of t u hu) b3
        have hl := (qs ⟨[], [], [], fun _ => none⟩).length
        have hne : vs ≠ [] := fun z => by rw [z] at hl; simp at hl
        exact ⟨_, vs, ⟨⟨oc, od, _, n9, n10, n11, n12, n13, n14, osl, rfl, lk, b2, .inr ⟨hne, T, _, its.toList, n2', rfl, lk2, by simp, rs⟩, .inl rfl⟩, kp⟩, hl.symm, qs⟩
      · cases b3
    · cases b3
  · cases b
def gloB (K : PySem.W.Frag) (c : Str) : Bool := He.eqO (PySem.W.nsIn K mainGlobals c) (some (some (.ref (He.ga K c))))
def recA (K : PySem.W.Frag) (T : String) (c x : Str) : Addr := match PySem.W.recIn K (He.ma K (He.ga K c) x) T with
  | some (.ref g :: _) => g
  | _ => 0
def pthM (c x : Str) : PySem.W.Frag → Addr := fun K => He.ma K (He.ga K c) x
def pthR (T : String) (c x : Str) : PySem.W.Frag → Addr := fun K => recA K T c x
section
variable {K : PySem.W.Frag} {mg : Str → Option Value} {h : Heap} {c x : Str} {d : He.DefD} {st : Stmt} {dts : List T}
def methB (K : PySem.W.Frag) (c x q : Str) (dts : List T) : Bool := gloB K c && ((He.Fa.cls c).ok K && ((He.Fa.meth c x).ok K && okA K (pthM c x K) q dts))
theorem methB_ok {qual : Str} (X : K.In h) (G : h.Ns mainGlobals mg) (e : fnS K (pthM c x K) = some (x, qual, defArgs st, .stmts (defBody st), defScope st, mainGlobals, builtinsNs)) (b : methB K c x qual dts = true) : MethAt K mg c x qual st dts := by
  obtain ⟨b1, b⟩ := bb b
  obtain ⟨b2, b⟩ := bb b
  obtain ⟨b3, b4⟩ := bb b
  obtain ⟨fd, dvs, z⟩ := okA_ok (mg := mg) e b4
  exact ⟨_, _, fd, dvs, PySem.W.mg_of X G (He.eqO_ok b1), He.cls_ok b2, He.meth_ok b3, z⟩
def initB (K : PySem.W.Frag) (c q : Str) (dts : List T) : Bool := gloB K c && ((He.Fa.mkr c).ok K && okA K (pthM c ini K) q dts)
theorem initB_ok {qual : Str} (X : K.In h) (G : h.Ns mainGlobals mg) (e : fnS K (pthM c ini K) = some (ini, qual, defArgs st, .stmts (defBody st), defScope st, mainGlobals, builtinsNs)) (b : initB K c qual dts = true) : InitAt K mg c qual st dts := by
  obtain ⟨b1, b⟩ := bb b
  obtain ⟨b2, b3⟩ := bb b
  obtain ⟨fd, dvs, z⟩ := okA_ok (mg := mg) e b3
  exact ⟨_, _, fd, dvs, PySem.W.mg_of X G (He.eqO_ok b1), He.mkr_ok b2, z⟩
def propB (K : PySem.W.Frag) (c x q : Str) : Bool := gloB K c && ((He.Fa.cls c).ok K && (He.eqO (PySem.W.findIn K (.ref (He.ga K c)) x) (some (some (.ref (He.ma K (He.ga K c) x)))) && (He.eqO (PySem.W.specialIn K (.ref (He.ma K (He.ga K c) x)) "__get__") (some (some (.builtin "property.__get__"))) &&
  (decide (PySem.W.takesIn K (.ref (He.ma K (He.ga K c) x)) = some true) && ((match PySem.W.recIn K (He.ma K (He.ga K c) x) "property" with
    | some (.ref _ :: _) => true
    | _ => false) && okA K (pthR "property" c x K) q [])))))
theorem propB_ok {qual : Str} (X : K.In h) (G : h.Ns mainGlobals mg) (e : fnS K (pthR "property" c x K) = some (x, qual, defArgs st, .stmts (defBody st), defScope st, mainGlobals, builtinsNs)) (b : propB K c x qual = true) : PropAt K mg c x qual st := by
  obtain ⟨b1, b⟩ := bb b
  obtain ⟨b2, b⟩ := bb b
  obtain ⟨b3, b⟩ := bb b
  obtain ⟨b4, b⟩ := bb b
  obtain ⟨b5, b⟩ := bb b
  obtain ⟨b6, b7⟩ := bb b
  obtain ⟨fd, dvs, z⟩ := okA_ok (mg := mg) e b7
  refine ⟨_, _, _, fd, dvs, PySem.W.mg_of X G (He.eqO_ok b1), He.cls_ok b2, ⟨He.eqO_ok b3, He.eqO_ok b4, of_decide_eq_true b5, ?_⟩, z⟩
  show ∃ rest, PySem.W.recIn K (He.ma K (He.ga K c) x) "property" = some (.ref (recA K "property" c x) :: rest)
  unfold recA
  split at b6
  · rename_i gg rest q
    exact ⟨rest, by rw [q]⟩
  · cases b6
def cmB (K : PySem.W.Frag) (c x q : Str) (dts : List T) : Bool := gloB K c && (PySem.W.readsIn K (He.ga K c) (.type "type") && (He.eqO (PySem.W.specialIn K (.ref (He.ga K c)) "__getattribute__") (some (some (.builtin "type.__getattribute__"))) && ((match PySem.W.findCls K (.ref (He.ga K c)) (.type "type") x with
    | some (.get (.builtin gi) (.ref p) .none (.ref C)) => decide (gi = "classmethod.__get__") && (decide (p = He.ma K (He.ga K c) x) && decide (C = He.ga K c))
    | _ => false) && ((match PySem.W.recIn K (He.ma K (He.ga K c) x) "classmethod" with
    | some (.ref _ :: _) => true
    | _ => false) && (PySem.W.fnIn K (pthR "classmethod" c x K) && okA K (pthR "classmethod" c x K) q dts)))))
theorem cmB_ok {qual : Str} (X : K.In h) (G : h.Ns mainGlobals mg) (e : fnS K (pthR "classmethod" c x K) = some (x, qual, defArgs st, .stmts (defBody st), defScope st, mainGlobals, builtinsNs)) (b : cmB K c x qual dts = true) : CmAt K mg c x qual st dts := by
  obtain ⟨b1, b⟩ := bb b
  obtain ⟨b2, b⟩ := bb b
  obtain ⟨b3, b⟩ := bb b
  obtain ⟨b4, b⟩ := bb b
  obtain ⟨b5, b⟩ := bb b
  obtain ⟨b6, b7⟩ := bb b
  obtain ⟨fd, dvs, z⟩ := okA_ok (mg := mg) e b7
  refine ⟨_, He.ma K (He.ga K c) x, _, fd, dvs, .type "type", PySem.W.mg_of X G (He.eqO_ok b1), ⟨b2, He.eqO_ok b3⟩, ⟨?_, ?_, b6⟩, z⟩
  · split at b4
    · rename_i gi p C q
      obtain ⟨c1, c2⟩ := bb b4
      obtain ⟨c2, c3⟩ := bb c2
      have e1 := of_decide_eq_true c1
      have e2 := of_decide_eq_true c2
      have e3 := of_decide_eq_true c3
      subst e1 e2 e3
      exact q
    · cases b4
  · show ∃ rest, PySem.W.recIn K (He.ma K (He.ga K c) x) "classmethod" = some (.ref (recA K "classmethod" c x) :: rest)
    unfold recA
    split at b5
    · rename_i gg rest q
      exact ⟨rest, by rw [q]⟩
    · cases b5
def allTy (f : Ty5 → Bool) : Bool := f .non && (f .bl && (f .int && (f .str && (f .tup && (f .lst && f .dct)))))
theorem allTy_ok {f : Ty5 → Bool} (b : allTy f = true) (a : Ty5) : f a = true := by
  obtain ⟨b1, b⟩ := bb b
  obtain ⟨b2, b⟩ := bb b
  obtain ⟨b3, b⟩ := bb b
  obtain ⟨b4, b⟩ := bb b
  obtain ⟨b5, b⟩ := bb b
  obtain ⟨b6, b7⟩ := bb b
  cases a <;> assumption
def eqcB (K : PySem.W.Frag) (c : Str) (cs : List Str) : Bool := gloB K c && (allTy (fun a => PySem.W.notFirst K (He.ga K c) (.type a.name)) && cs.all fun c' => gloB K c' && PySem.W.notFirst K (He.ga K c) (.ref (He.ga K c')))
theorem eqcB_ok {cs : List Str} (X : K.In h) (G : h.Ns mainGlobals mg) (b : eqcB K c cs = true) : EqC K mg c cs := by
  obtain ⟨b1, b⟩ := bb b
  obtain ⟨b2, b3⟩ := bb b
  have e := PySem.W.mg_of X G (He.eqO_ok b1)
  refine ⟨fun C hC a => ?_, fun C hC c' hc' C' hC' => ?_⟩
  · rw [hC] at e; cases e
    exact allTy_ok b2 a
  · rw [hC] at e; cases e
    obtain ⟨d1, d2⟩ := bb (List.all_eq_true.mp b3 c' hc')
    have e' := PySem.W.mg_of X G (He.eqO_ok d1)
    rw [hC'] at e'; cases e'
    exact d2
def necB (K : PySem.W.Frag) (c : Str) : Bool := gloB K c && (He.eqO (PySem.W.findIn K (.ref (He.ga K c)) "__ne__") (some (some (.builtin "object.__ne__"))) && decide (PySem.W.mroIn K (He.ga K c) (.type "object") = some true))
theorem necB_ok (X : K.In h) (G : h.Ns mainGlobals mg) (b : necB K c = true) : NeC K mg c := by
  obtain ⟨b1, b⟩ := bb b
  obtain ⟨b2, b3⟩ := bb b
  have e := PySem.W.mg_of X G (He.eqO_ok b1)
  exact ⟨fun C hC => by rw [hC] at e; cases e; exact ⟨He.eqO_ok b2, of_decide_eq_true b3⟩⟩
def isicB (K : PySem.W.Frag) (c : Str) (tab : List (Str × Bool)) : Bool := gloB K c && (allTy (fun a => decide (PySem.W.kitOne K (.type a.name) (.ref (He.ga K c)) = some false)) && tab.all fun q => gloB K q.1 && (decide (PySem.W.kitOne K (.ref (He.ga K q.1)) (.ref (He.ga K c)) = some q.2) && ((He.Fa.cls q.1).ok K &&
  (He.eqO (PySem.W.findIn K (.ref (He.ga K q.1)) "__class__") (some (some (.builtin "object.__class__"))) && (He.eqO (PySem.W.specialIn K (.builtin "object.__class__") "__get__") (some (some (.builtin "getset_descriptor.__get__"))) && (decide (PySem.W.takesIn K (.builtin "object.__class__") = some true) && decide (PySem.W.mroIn K (He.ga K q.1) (.type "object") = some true)))))))
theorem isicB_ok {tab : List (Str × Bool)} (X : K.In h) (G : h.Ns mainGlobals mg) (b : isicB K c tab = true) : IsiC K mg c tab := by
  obtain ⟨b1, b⟩ := bb b
  obtain ⟨b2, b3⟩ := bb b
  have e := PySem.W.mg_of X G (He.eqO_ok b1)
  refine ⟨⟨_, e⟩, fun C hC a => ?_, fun C hC q hq C' hC' => ?_⟩
  · rw [hC] at e; cases e
    exact of_decide_eq_true (allTy_ok b2 a)
  · rw [hC] at e; cases e
    obtain ⟨d1, d⟩ := bb (List.all_eq_true.mp b3 q hq)
    obtain ⟨d2, d⟩ := bb d
    obtain ⟨d3, d⟩ := bb d
    obtain ⟨d4, d⟩ := bb d
    obtain ⟨d5, d⟩ := bb d
    obtain ⟨d6, d7⟩ := bb d
    have e' := PySem.W.mg_of X G (He.eqO_ok d1)
    rw [hC'] at e'; cases e'
    exact ⟨of_decide_eq_true d2, He.cls_ok d3, He.eqO_ok d4, He.eqO_ok d5, of_decide_eq_true d6, of_decide_eq_true d7⟩
def fldcB (K : PySem.W.Frag) (cs : List Str) (f : Str) : Bool := cs.all fun c => gloB K c && ((He.Fa.cls c).ok K && (He.Fa.noat c f).ok K)
theorem fldcB_ok {cs : List Str} {f : Str} (X : K.In h) (G : h.Ns mainGlobals mg) (b : fldcB K cs f = true) : FldC K mg cs f := fun c hc C hC => by
  obtain ⟨b1, b⟩ := bb (List.all_eq_true.mp b c hc)
  obtain ⟨b2, b3⟩ := bb b
  have e := PySem.W.mg_of X G (He.eqO_ok b1)
  rw [hC] at e
  cases e
  exact ⟨He.cls_ok b2, He.noat_ok b3⟩
end
end Mi
end part_Mi34
section part_Mi35
set_option maxRecDepth 100000
set_option maxHeartbeats 4000000
/-! Mi, part 35: changeable lists lent to a call that changes nothing. -/
namespace Mi
open PySem PySem.Spec PyProof.Rows L2
mutual
/-- no list in it -/
def noL : T → Bool
  | .non => true
  | .bl _ => true
  | .int _ => true
  | .str _ => true
  | .tup xs => noLL xs
  | .lst _ => false
  | .frl _ => false
  | .dct _ vs => noLL vs
  | .obj _ _ vs => noLL vs
  | .ref _ => false
  | .exn _ _ vs => noLL vs
  | .cls _ => true
  | .fn _ _ _ => true
  | .fnc _ _ _ _ => false
  | .tpl _ => false
def noLL : List T → Bool
  | [] => true
  | t :: ts => noL t && noLL ts
end
theorem noLL_mem : ∀ {ts : List T}, noLL ts = true → ∀ t ∈ ts, noL t = true
  | [], _, t, h => by cases h
  | u :: ts, h, t, ht => by
    simp only [noLL, Bool.and_eq_true] at h
    rcases List.mem_cons.mp ht with e | e
    · rw [e]; exact h.1
    · exact noLL_mem h.2 t e
def unref (h : MH) (t : T) : T := match t with
  | .ref i => match h[i]? with
    | some (.lst xs) => .lst xs
    | _ => t
  | _ => t
def isRef : T → Bool
  | .ref _ => true
  | _ => false
section
variable {X : Cx} {K : PySem.W.Frag} {mg : Str → Option Value} {W : WX} {g g' : G} {σ : L2.St} {Q : VK}
/-- a tree without lists leans on no list -/
theorem Rep.subN (k : ∀ a o, g.H a = some o → ¬ g.hid a → (∀ ws, o ≠ .lst ws) → g'.H a = some o ∧ ¬ g'.hid a) : ∀ t, noL t = true → ∀ v, Rep K mg g t v → Rep K mg g' t v := by
  intro t
  induction t using T.ind with
  | non => intro _ v h; simpa only [Rep] using h
  | bl b => intro _ v h; simpa only [Rep] using h
  | int i => intro _ v h; simpa only [Rep] using h
  | str s => intro _ v h; simpa only [Rep] using h
  | cls c => intro _ v h; simpa only [Rep] using h
  | fn kk I C =>
    intro _ v h; simp only [Rep] at h ⊢
    exact h.subH fun a o z1 z2 z3 => k a o z1 z2 (fun ws e => by obtain ⟨φ, z⟩ := z3; rw [z] at e; cases e)
  | fnc kk I C n => intro c; simp only [noL] at c; cases c
  | tup xs ih =>
    intro c v h; simp only [Rep] at h ⊢; simp only [noL] at c
    obtain ⟨p, vs, e1, h1, h2⟩ := h
    refine ⟨p, vs, e1, ?_, RepL.monoC (noLL_mem c) ih h2⟩
    rcases h1 with ⟨⟨o, h1, hd⟩, n⟩ | h1
    · have z := k _ _ h1 n (fun ws e => by cases e)
      exact .inl ⟨⟨o, z.1, hd⟩, z.2⟩
    · exact .inr h1
  | tpl xs _ => intro c; simp only [noL] at c; cases c
  | lst xs ih => intro c; simp only [noL] at c; cases c
  | frl xs ih => intro c; simp only [noL] at c; cases c
  | dct ks vs ih1 ih2 =>
    intro c v h; simp only [Rep] at h ⊢; simp only [noL] at c
    obtain ⟨p, kvs, e1, ⟨h1, n⟩, e2, h2⟩ := h
    exact ⟨p, kvs, e1, k _ _ h1 n (fun ws e => by cases e), e2, RepL.monoC (noLL_mem c) ih2 h2⟩
  | obj cc ns vs ih =>
    intro c v h; simp only [Rep] at h ⊢; simp only [noL] at c
    obtain ⟨p, C, dx, fs, e1, ⟨h1, n⟩, e2, e3, h2⟩ := h
    exact ⟨p, C, dx, fs, e1, k _ _ h1 n (fun ws e => by cases e), e2, e3, RepL.monoC (noLL_mem c) ih h2⟩
  | ref i => intro c; simp only [noL] at c; cases c
  | exn cc ns vs ih =>
    intro c v h; simp only [Rep] at h ⊢; simp only [noL] at c
    obtain ⟨p, C, d, fs, e1, ⟨h1, n⟩, ⟨h2, n2⟩, e2, e3, h3⟩ := h
    exact ⟨p, C, d, fs, e1, k _ _ h1 n (fun ws e => by have e : HO.ext _ = HO.lst ws := e; cases e), k _ _ h2 n2 (fun ws e => by cases e), e2, e3, RepL.monoC (noLL_mem c) ih h3⟩
theorem RepL.subN (k : ∀ a o, g.H a = some o → ¬ g.hid a → (∀ ws, o ≠ .lst ws) → g'.H a = some o ∧ ¬ g'.hid a) {ts : List T} {vs : List V} (c : noLL ts = true) (h : RepL K mg g ts vs) : RepL K mg g' ts vs :=
  RepL.monoC (noLL_mem c) (fun t _ c v => Rep.subN k t c v) h
/-- the ghost of a call that sees of the changeable objects only the lists at bs, as values -/
def G.bor (g : G) (bs : List Addr) : G := ⟨[], [], g.hidL.filter (fun a => !bs.contains a), g.H⟩
theorem hid_bor {bs : List Addr} {H : Hp} {a : Addr} : G.hid ⟨[], [], g.hidL.filter (fun a => !bs.contains a), H⟩ a ↔ g.hid a ∧ a ∉ bs := by
  constructor
  · rintro (h | ⟨i, o, h, _⟩)
    · have h2 : a ∈ g.hidL.filter (fun a => !bs.contains a) := h
      rw [List.mem_filter] at h2
      exact ⟨hidL_mem.mp h2.1, by simpa using h2.2⟩
    · simp at h
  · rintro ⟨h, n⟩
    refine .inl ?_
    show a ∈ g.hidL.filter (fun a => !bs.contains a)
    rw [List.mem_filter]
    exact ⟨hidL_mem.mpr h, by simpa using n⟩
theorem Rel.bor (R : Rel K mg g) (bs : List Addr) : Rel K mg (g.bor bs) :=
  ⟨rfl, fun i j a h => (live_nil h).elim, fun a _ i h => live_nil h, fun a ha => R.hid_there (hidL_mem.mp (List.mem_filter.mp (show a ∈ g.hidL.filter _ from ha)).1), fun i a h => (live_nil h).elim, fun i a o h => by simp [G.bor] at h⟩
theorem bor_back {gc : G} {bs : List Addr} (R : Rel K mg g) (e : Ext (g.bor bs) gc) : Ext g { g with H := gc.H } ∧ Rel K mg { g with H := gc.H } := by
  have kp : ∀ a o, g.H a = some o → gc.H a = some o := fun a o h => by
    by_cases q : (g.bor bs).hid a
    · rcases q with q | ⟨i, o', q, _⟩
      · have := e.pvk a q
        rw [this]; exact h
      · simp [G.bor] at q
    · exact (e.keep a o h q).1
  have hs : Sub g { g with H := gc.H } := ⟨fun _ _ h => h, fun a o h n => ⟨kp a o h, n⟩⟩
  refine ⟨⟨hs.rho, rfl, fun a ha => ?_, hs.keep⟩, R.len, R.inj, R.npv, fun a ha => ?_, fun i a ha => ?_, fun i a o h1 h2 => (R.obj i a o h1 h2).sub hs fun u hu => kp a u hu⟩
  · obtain ⟨o, h⟩ := R.pvt a ha
    exact (kp a o h).trans h.symm
  · obtain ⟨o, h⟩ := R.pvt a ha; exact ⟨o, kp a o h⟩
  · obtain ⟨o, h⟩ := R.tr i a ha; exact ⟨o, kp a o h⟩
theorem hid_ext {gc : G} {bs : List Addr} (e : Ext (g.bor bs) gc) {a : Addr} (h : g.hid a) (n : a ∉ bs) : gc.hid a := .inl (by
  rw [e.pv]
  show a ∈ g.hidL.filter (fun a => !bs.contains a)
  rw [List.mem_filter]
  exact ⟨hidL_mem.mpr h, by simpa using n⟩)
/-- what may come back -/
def backOk (bs : Bool) (t : T) : Bool := closed t && (!bs || noL t)
def backOkL (bs : Bool) (ts : List T) : Bool := closedL ts && (!bs || noLL ts)
theorem keepC {gc : G} {bs : List Addr} (e : Ext (g.bor bs) gc) (hb : bs = []) : ∀ a o, gc.H a = some o → ¬ gc.hid a → (G.mk g.rho g.h g.pv gc.H).H a = some o ∧ ¬ (G.mk g.rho g.h g.pv gc.H).hid a := fun a o h n => ⟨h, fun z => n (hid_ext e z (by rw [hb]; simp))⟩
theorem keepN {gc : G} {bs : List Addr} (e : Ext (g.bor bs) gc) (hl : ∀ b ∈ bs, ∃ ws, gc.H b = some (.lst ws)) : ∀ a o, gc.H a = some o → ¬ gc.hid a → (∀ ws, o ≠ .lst ws) → (G.mk g.rho g.h g.pv gc.H).H a = some o ∧ ¬ (G.mk g.rho g.h g.pv gc.H).hid a := fun a o h n hne => ⟨h, fun z => n (hid_ext e z fun hm => by
  obtain ⟨ws, q⟩ := hl a hm
  rw [h] at q
  exact hne ws (Option.some.inj q))⟩
theorem rep_backB {gc : G} {bs : List Addr} {b : Bool} (e : Ext (g.bor bs) gc) (hb : b = false → bs = []) (hl : ∀ b ∈ bs, ∃ ws, gc.H b = some (.lst ws)) {t : T} {v : V} (c : backOk b t = true) (r : Rep K mg gc t v) : Rep K mg { g with H := gc.H } t v := by
  unfold backOk at c
  obtain ⟨c1, c2⟩ := bb c
  cases b with
  | false => exact Rep.subC (keepC e (hb rfl)) t c1 v r
  | true => exact Rep.subN (keepN e hl) t (by simpa using c2) v r
theorem repX_backB {gc : G} {bs : List Addr} {b : Bool} (e : Ext (g.bor bs) gc) (hb : b = false → bs = []) (hl : ∀ b ∈ bs, ∃ ws, gc.H b = some (.lst ws)) {x : Exc} {cls : Value} {d : Option Addr} (c : backOkL b x.vs = true) (r : RepX K mg gc x cls d) : RepX K mg { g with H := gc.H } x cls d := by
  obtain ⟨C, da, fs, e1, e2, e3, ⟨h1, n⟩, e4, h2⟩ := r
  have kx := keepN e hl da (.xd fs) h1 n (fun ws z => by cases z)
  refine ⟨C, da, fs, e1, e2, e3, kx, e4, ?_⟩
  unfold backOkL at c
  obtain ⟨c1, c2⟩ := bb c
  cases b with
  | false => exact RepL.subC (keepC e (hb rfl)) c1 h2
  | true => exact RepL.subN (keepN e hl) (by simpa using c2) h2
/-- the lent lists' places -/
def refAds (g : G) : List T → List Addr
  | [] => []
  | .ref i :: ts => match g.rho[i]? with
    | some a => a :: refAds g ts
    | none => refAds g ts
  | _ :: ts => refAds g ts
theorem refAds_nil {ts : List T} (h : ts.any isRef = false) : refAds g ts = [] := by
  induction ts with
  | nil => rfl
  | cons t ts ih =>
    rw [List.any_cons, Bool.or_eq_false_iff] at h
    cases t with
    | ref i => simp [isRef] at h
    | _ => exact ih h.2
/-- the arguments, the lists lent -/
theorem bor_args (R : Rel K mg g) {bs : List Addr} : ∀ {ts : List T} {vs : List V}, RepL K mg g ts vs → closedL (ts.map (unref g.h)) = true → (∀ a ∈ refAds g ts, a ∈ bs) → RepL K mg (g.bor bs) (ts.map (unref g.h)) vs ∧ ∀ a ∈ refAds g ts, ∃ ws, g.H a = some (.lst ws)
  | [], vs, r, _, _ => ⟨by simpa only [List.map_nil, RepL] using r, fun a ha => by simp [refAds] at ha⟩
  | t :: ts, vs, r, c, hs => by
    simp only [RepL] at r
    obtain ⟨v, ws, rfl, r1, r2⟩ := r
    rw [List.map_cons] at c ⊢
    simp only [closedL, Bool.and_eq_true] at c
    have kf : ∀ a o, g.H a = some o → ¬ g.hid a → (g.bor bs).H a = some o ∧ ¬ (g.bor bs).hid a := fun a o h n => ⟨h, fun z => n (hid_bor.mp z).1⟩
    have plain : ∀ t : T, isRef t = false → Rep K mg g t v → closed (unref g.h t) = true → Rep K mg (g.bor bs) (unref g.h t) v := fun t hr r c => by
      have e : unref g.h t = t := by cases t <;> first | rfl | simp [isRef] at hr
      rw [e] at c ⊢
      exact Rep.subC kf t c v r
    by_cases hr : isRef t = true
    · cases t with
      | ref i =>
        have r1' := r1
        simp only [Rep] at r1'
        obtain ⟨p, rfl, hp⟩ := r1'
        have ead : refAds g (.ref i :: ts) = p :: refAds g ts := by simp [refAds, hp]
        rw [ead] at hs ⊢
        obtain ⟨i1, i2⟩ := bor_args R r2 c.2 fun a ha => hs a (List.mem_cons_of_mem _ ha)
        cases q : g.h[i]? with
        | none => simp [unref, q, closed] at c
        | some o =>
          cases o with
          | lst xs =>
            have eu : unref g.h (.ref i) = .lst xs := by simp [unref, q]
            rw [eu] at c ⊢
            obtain ⟨ys, h1, h2⟩ := R.obj i p _ hp q
            refine ⟨RepL.cons ?_ i1, fun a ha => ?_⟩
            · simp only [Rep]
              refine ⟨p, ys, rfl, ⟨h1, fun z => (hid_bor.mp z).2 (hs p List.mem_cons_self)⟩, RepL.subC kf ?_ h2⟩
              simpa only [closed] using c.1
            · rcases List.mem_cons.mp ha with e | e
              · rw [e]; exact ⟨ys, h1⟩
              · exact i2 a e
          | dead => simp [unref, q, closed] at c
          | dct _ _ => simp [unref, q, closed] at c
          | ins _ _ _ => simp [unref, q, closed] at c
          | tab _ _ => simp [unref, q, closed] at c
          | cel _ => simp [unref, q, closed] at c
      | _ => simp [isRef] at hr
    · have hr : isRef t = false := by simpa using hr
      have ead : refAds g (t :: ts) = refAds g ts := by cases t <;> first | rfl | simp [isRef] at hr
      rw [ead] at hs ⊢
      obtain ⟨i1, i2⟩ := bor_args R r2 c.2 hs
      exact ⟨RepL.cons (plain t hr r1 c.1) i1, i2⟩
def borR (b : Bool) (r : R) (h : MH) : R := match r with
  | .ok t _ => if backOk b t then .ok t h else .stuck
  | .ex x _ => if backOkL b x.vs then .ex x h else .stuck
  | .stuck => .stuck
/-- a call that changes nothing, changeable lists lent -/
def fB (n : Nat) (m : MF) : List T → MH → R := fun ts h => if ts.length = n ∧ closedL (ts.map (unref h)) = true then borR (ts.any isRef) (m (ts.map (unref h)) []) h else .stuck
theorem lst_stay {gc : G} {bs : List Addr} (hl : ∀ a ∈ bs, ∃ ws, g.H a = some (.lst ws)) (e : Ext (g.bor bs) gc) : ∀ b ∈ bs, ∃ ws, gc.H b = some (.lst ws) := fun b hb => by
  obtain ⟨ws, h⟩ := hl b hb
  exact ⟨ws, (e.keep b _ h fun z => (hid_bor.mp z).2 hb).1⟩
theorem calls_bo {n : Nat} {m : MF} : Calls2 X W n m (fB n m) := fun g σ ts vs Q R r h => by
  unfold fB at h
  split at h
  · rename_i q
    obtain ⟨hn, hc⟩ := q
    obtain ⟨rb, hl⟩ := bor_args (bs := refAds g ts) R r hc fun a ha => ha
    have hb : ts.any isRef = false → refAds g ts = [] := refAds_nil
    refine ⟨g.bor (refAds g ts), ts.map (unref g.h), rfl, R.bor _, rb, by rw [List.length_map]; exact hn, ?_⟩
    show wpD X.K X.mg (g.bor (refAds g ts)) Q (WE W σ) (m (ts.map (unref g.h)) [])
    unfold borR at h
    cases q2 : m (ts.map (unref g.h)) [] with
    | ok t h' =>
      rw [q2] at h
      dsimp only at h
      split at h
      · rename_i ct
        intro gc v _ e _ rv
        obtain ⟨e1, R1⟩ := bor_back R e
        exact h { g with H := gc.H } v rfl e1 R1 (rep_backB e hb (lst_stay hl e) ct rv)
      · exact h.elim
    | ex x h' =>
      rw [q2] at h
      dsimp only at h
      split at h
      · rename_i ct
        intro gc cls d _ e _ rv
        obtain ⟨e1, R1⟩ := bor_back R e
        exact h { g with H := gc.H } cls d rfl e1 R1 (repX_backB e hb (lst_stay hl e) ct rv)
      · exact h.elim
    | stuck => rw [q2] at h; exact h.elim
  · exact h.elim
/-! ### C(e, ..): made by a call that changes nothing else; a value from now on -/
def fMkB (c : Str) (mf : MF) (dts : List T) : List T → MH → R := fun ts h => if closedL (ts.map (unref h)) then (match mf (.ref 0 :: (ts.map (unref h) ++ dts)) [.ins c [] []] with
  | .ok .non h2 => if backOk (ts.any isRef) (fzT (.ref 0) h2).1 then .ok (fzT (.ref 0) h2).1 h else .stuck
  | .ex y _ => if backOkL (ts.any isRef) y.vs then .ex y h else .stuck
  | _ => .stuck) else .stuck
theorem make_useB {c : Str} {mf : MF} {C x1 dx : Addr} {ts dt : List T} {vs dv : List V} {nn : Nat} (R : Rel K mg g) (r : RepL K mg g ts vs) (rd : ∀ g, RepL K mg g dt dv) (hC : mg c = some (.ref C)) (hx : g.H x1 = none) (hdx : g.H dx = none) (ne : dx ≠ x1) (hn : (ts ++ dt).length + 1 = nn)
    (h : wpR K mg W g σ Q (fMkB c mf dt ts g.h)) : spM K mg nn mf (.ref x1 :: (vs ++ dv)) (upd (upd g.H dx (.own x1)) x1 (.ins C dx [])) (fun v H2 => v = .non ∧ Q (.ref x1) H2) (WE W σ) := by
  unfold fMkB at h
  split at h
  · rename_i hc
    obtain ⟨rb, hl⟩ := bor_args (bs := refAds g ts) R r hc fun a ha => ha
    have hb : ts.any isRef = false → refAds g ts = [] := refAds_nil
    have Rb := R.bor (refAds g ts)
    have hx' : (g.bor (refAds g ts)).H x1 = none := hx
    have hdx' : (g.bor (refAds g ts)).H dx = none := hdx
    have e0 : Ext (g.bor (refAds g ts)) ((g.bor (refAds g ts)).lay dx (.own x1)) := lay_ext Rb hdx'
    have R0 : Rel K mg ((g.bor (refAds g ts)).lay dx (.own x1)) := Rb.lay hdx'
    have hx0 : ((g.bor (refAds g ts)).lay dx (.own x1)).H x1 = none := by
      show upd g.H dx (.own x1) x1 = none
      rw [upd_ne (Ne.symm ne)]; exact hx
    obtain ⟨g1, e1, e2, ex, R1, rr⟩ := ref_lay (o := .ins c [] []) (ho := .ins C dx []) R0 hx0 (fun g2 s2 hq => ⟨C, dx, [], hq, hC, rfl, RepL.nil⟩) (by intro z; cases z)
    refine ⟨g1, .ref 0 :: (ts.map (unref g.h) ++ dt), e1, R1, RepL.cons rr ((((rb.mono e0).mono ex)).append (rd g1)), by rw [List.length_cons, List.length_append, List.length_map, ← List.length_append]; exact hn, ?_⟩
    have e3 : g1.h = [.ins c [] []] := e2
    rw [e3]
    have eg : Ext (g.bor (refAds g ts)) g1 := e0.trans ex
    cases q : mf (.ref 0 :: (ts.map (unref g.h) ++ dt)) [.ins c [] []] with
    | ok t h2 =>
      rw [q] at h
      cases t with
      | non =>
        dsimp only at h
        split at h
        · rename_i ct
          intro g' v eh eg' R' rv
          have eh : g'.h = h2 := eh
          refine ⟨rep_non rv, ?_⟩
          have rx : Rep K mg g' (.ref 0) (.ref x1) := rr.mono eg'
          obtain ⟨g'', z1, z2, z3, z4, z5⟩ := fz_ok R' rx
          have e9 : Ext (g.bor (refAds g ts)) g'' := (eg.trans eg').trans z3
          rw [eh] at z5
          rw [← z1]
          obtain ⟨k1, k2⟩ := bor_back R e9
          exact h { g with H := g''.H } (.ref x1) rfl k1 k2 (rep_backB e9 hb (lst_stay hl e9) ct z5)
        · exact h.elim
      | _ => exact h.elim
    | ex y h2 =>
      rw [q] at h
      dsimp only at h
      split at h
      · rename_i ct
        intro g' cls d eh eg' R' rx
        have e9 := eg.trans eg'
        obtain ⟨k1, k2⟩ := bor_back R e9
        exact h { g with H := g'.H } cls d rfl k1 k2 (repX_backB e9 hb (lst_stay hl e9) ct rx)
      · exact h.elim
    | stuck => rw [q] at h; exact h.elim
  · exact h.elim
end
section
variable {X : Cx} {W : WX} {e : Expr} {mb : ME} {mr mk : MA} {pos p : Pos} {es : List Expr} {c x : Str} {kws : List Keyword}
variable {k n j : Nat} {qual : Str} {st : Stmt} {ps ks : List Str} {is : List Nat} {dts : List T} {mf : MF}
theorem se_makeB (Hi : HasIX X k c qual st ps dts mf) (hr : Room (k + 1) X.A) (tk : Takes X W) (hb : PosD st "__init__" qual ps dts.length n j) (hn : n + (dts.length - j) = ps.length) (h1n : 1 ≤ n) (ha : SA X W (e :: es) mr) (hg : Gl X c := by rfl)
    (hdb : (c == ("__debug__" : Str)) = false := by decide) (he : starEach (e :: es) X.env = (false, eval e X.env) :: starEach es X.env := by rfl) (hpl : (backTo pos (starEach es X.env)).any (·.1) = false := by rfl) :
    SE X W (.Call (.Name c p) (e :: es) [] pos) (mA (fMkN (n - 1) (fMkB c mf (dts.drop j))) mr) := by
  obtain ⟨C, f, fd, dvs, hC, M, hf⟩ := Hi
  obtain ⟨ds, hd, hbs⟩ := posD_binds hf hb hn
  refine ⟨fun pins s σ H Q I h => ?_⟩
  obtain ⟨g, s0, rfl, R, S, h⟩ := h
  refine wpAny_Call_Name_kw (ld_glob I hg hC ?_ hdb)
  refine PySem.W.callWith_K (h₀ := X.base) I.ok.mod.kin M.kp (thn (ha.run pos pins s σ g.H _ I ⟨g, s0, rfl, R, S, wpL_of h (Q' := fun vs H1 => vs.length = n - 1 ∧ ∀ x1 dx, H1 x1 = none → H1 dx = none → dx ≠ x1 → spM X.K X.mg ps.length mf (.ref x1 :: (vs ++ dvs.drop j)) (upd (upd H1 dx (.own x1)) x1 (.ins C dx [])) (fun v H2 => v = .non ∧ Q (.ref x1) H2) (WE W σ)) fun g1 ts vs e1 R1 r1 h1 => ?_⟩) fun us s1 ⟨vs, H1, I1, r, hv, q⟩ => ⟨I1.kIn, ?_⟩) he hpl
  · unfold fMkN at h1
    split at h1
    · rename_i hl
      refine ⟨r1.length.symm.trans hl, fun x1 dx hx hdx ne => make_useB R1 r1 (fun g => (hf.dr g).drop j) hC hx hdx ne ?_ h1⟩
      rw [List.length_append, hl, List.length_drop]
      omega
    · exact h1.elim
  · have hl : us.length = n - 1 := r.length.symm.trans hv
    refine make_at M hf.ok hr (passAt tk σ) I1 (fun u => u :: (us ++ ds)) (fun x => x :: (vs ++ dvs.drop j)) [] (fun s' u ki => hbs s' (u :: us) ki ?_) (fun x u rx => .cons rx (r.append hd)) q
    have h5 := hd.length
    have h6 := hf.dl
    rw [List.length_append, List.length_cons, hl, ← h5, List.length_drop, h6]
    omega
end
end Mi
end part_Mi35
section part_Mi36
set_option maxRecDepth 100000
set_option maxHeartbeats 2000000
/-! Mi, part 36: a comprehension inside a comprehension; str(o) of an own class. -/
namespace Mi
open PySem PySem.Spec PyProof.Rows L2
theorem blkOk_in {X : Cx} {N : List Str} {sc scope1 scope2 : Scope} {own : List (Str × Nat)} {s : Shared} {H : Hp} {cl : List (Str × Addr)} {C : Addr} {fp : List Addr} (hN : X.N = N) (hs : X.env.scope = sc) (h : blkC N (relS scope1 sc) scope2 own = true) :
    BlkOk (X.blk s H scope1 (compEnvC scope1 cl C X.env) fp).N (X.blk s H scope1 (compEnvC scope1 cl C X.env) fp).env.scope scope2 own := by
  subst hN hs
  exact blkOk_by h
section
variable {X : Cx} {K : PySem.W.Frag} {mg : Str → Option Value} {W : WX} {g g' : G} {σ : L2.St} {Q : VK} {D : Ends}
variable {a b e : Expr} {ma mb mc me mt : ME} {mr mk : MA} {pos p apos : Pos} {es : List Expr} {c x : Str}
variable {k n j : Nat} {qual : Str} {st : Stmt} {ps ks : List Str} {dts : List T} {mf : MF} {fm : List T → MH → R}
/-- str(o) -/
theorem se_strO {pa : Pos} (Hm : HasMX X k c "__str__" qual st ps [] mf) (hr : Room (k + 2) X.A) (tk : Takes X W) (cl : Calls2 X W ps.length mf fm) (hb : PosD st "__str__" qual ps 0 ps.length 0) (hm : X.mg "str" = none) (ha : SE X W a ma) (hg : Gl X "str" := by rfl)
    (he : starEach [a] X.env = (false, eval a X.env) :: starEach [] X.env := by rfl) (hpl : (backTo pos (starEach [] X.env)).any (·.1) = false := by rfl) :
    SE X W (.Call (.Name "str" pa) [a] [] pos) (m1 (fO1 c fm fStrB) ma) := by
  obtain ⟨C, f, fd, dvs, hC, hcl, hme, hf⟩ := Hm
  refine ⟨fun pins s σ H Q I h => ?_⟩
  obtain ⟨g, s0, rfl, R, S, h⟩ := h
  have key : tCons (tM X.K X.mg W ma) tNil σ g.H (fun vs H1 => ∃ g1 t v, g1.H = H1 ∧ vs = [v] ∧ Rel X.K X.mg g1 ∧ Rep X.K X.mg g1 t v ∧ wpR X.K X.mg W g1 σ Q (fO1 c fm fStrB t g1.h)) :=
    ⟨g, s0, rfl, R, S, wpR_bind h fun g1 t v e1 R1 r1 h1 => ⟨g1, t, v, rfl, rfl, R1, r1, h1⟩⟩
  refine wpAny_Call_Name_kw (ld_blt (u := .type "str") I hg hm (by decide +kernel) ?_ (by decide) (by decide))
  refine PyProof.Rows.callWith_type1 (thn ((pa_cons ha pa_nil he).run pos pins s σ g.H _ I key) fun us s1 ⟨vs, H1, I1, r, q⟩ => ?_) he hpl
  · obtain ⟨g1, t, v, rfl, rfl, R1, r1, h1⟩ := q
    unfold fO1 at h1
    split at h1
    · rename_i z
      obtain ⟨p1, C1, dx, fs, rfl, hp, hc1⟩ := isCls_at R1 r1 z
      have z2 : C1 = C := by rw [hC] at hc1; cases hc1; rfl
      subst z2
      cases r with
      | cons r0 rn =>
        cases rn
        rename_i u _
        cases (show u = Value.ref p1 from r0)
        obtain ⟨mA, O, _⟩ := ins_get I1.hok hp
        obtain ⟨od, J, _⟩ := O.look
        obtain ⟨m, hF⟩ := I1.fr
        refine PySem.W.kso_call hr.in1.in1.units0 (I1.ok.mod.kin.keeps hF.keep) J hme.at_ hme.fn ?_
        refine wpAny_mono (run_in1 (vs := [V.ref p1]) (Q := fun v H2 => ∃ n : Str, v = .str n ∧ Q (.str n) H2) hf (hr.in1.in1) I1.env0.in1.in1 tk hb I1 (.cons rfl .nil) ?_) (fun w s' hw => ?_) fun _ _ y => y
        · refine cl g1 σ [t] [V.ref p1] _ R1 (RepL.cons r1 RepL.nil) (wpR_bind h1 fun g2 t2 v2 e2 R2 r2 h2 => ?_)
          unfold fStrB at h2
          split at h2
          · rename_i i
            exact ⟨i, rep_str r2, wpR_here h2 R2 rStr⟩
          · exact h2.elim
        · obtain ⟨v3, H3, I3, rv, i, rfl, q3⟩ := hw
          obtain ⟨tk3, e3⟩ := (show ∃ t, w = Value.str i t from rv)
          subst e3
          exact ⟨.str i, H3, I3, ⟨_, rfl⟩, q3⟩
    · exact h1.elim
/-! ### [.., *e, ..] -/
def aStar (me : ME) (mr : MA) : MA := fun s h => match me s h with
  | .ok t h1 => match seqOf t h1 with
    | some xs => match mr s h1 with
      | .ok ts h2 => .ok (xs ++ ts) h2
      | .ex x h2 => .ex x h2
      | .stuck => .stuck
    | none => .stuck
  | .ex x h1 => .ex x h1
  | .stuck => .stuck
theorem sa_star {es : List Expr} {me : ME} {mr : MA} {sp : Pos} (he : SE X W e me) (hr : SA X W es mr) (hs : starEach (.Starred e sp :: es) X.env = (true, eval e X.env) :: starEach es X.env := by rfl) : SA X W (.Starred e sp :: es) (aStar me mr) := by
  refine weakA (StX.pa_star he hr hs) ?_
  rintro σ H Q ⟨g, s, rfl, R, S, h⟩
  refine ⟨g, s, rfl, R, S, ?_⟩
  unfold aStar at h
  cases q : me s g.h with
  | ok t h1 =>
    rw [q] at h
    dsimp only at h
    intro g1 v q1 e1 R1 r1
    cases q3 : seqOf t h1 with
    | none => rw [q3] at h; exact h.elim
    | some xs =>
      rw [q3] at h
      dsimp only at h
      obtain ⟨p, vs, e2, hq, l1⟩ := seq_of R1 r1 (by rw [q1]; exact q3)
      refine ⟨p, vs, e2, hq.symm, g1, s, rfl, R1, S.mono e1, ?_⟩
      rw [q1]
      cases q2 : mr s h1 with
      | ok ts h2 =>
        rw [q2] at h
        intro g2 ws q4 e3 R2 r2
        exact h g2 (vs ++ ws) q4 (e1.trans e3) R2 ((l1.mono e3).append r2)
      | ex x h2 =>
        rw [q2] at h
        exact fun g2 cls d q4 e3 R2 r2 => h g2 cls d q4 (e1.trans e3) R2 r2
      | stuck => rw [q2] at h; exact h.elim
  | ex x h1 => rw [q] at h; exact h
  | stuck => rw [q] at h; exact h.elim
end
section
variable {X : Cx} {K : PySem.W.Frag} {mg : Str → Option Value} {W : WX} {g : G} {σ : L2.St} {Q : VK}
variable {a b e : Expr} {ma mb me : ME} {mr mk : MA} {pos p : Pos} {es : List Expr} {c x : Str} {kws : List Keyword}
variable {k n j : Nat} {qual : Str} {st : Stmt} {ps ks : List Str} {dts : List T} {mf : MF}
/-! ### C(k = e, ..), lists lent -/
theorem pick_shift {α : Type} (x : α) : ∀ (js : List Nat) (l : List α), pick (js.map (· + 1)) (x :: l) = pick js l
  | [], l => rfl
  | j :: js, l => by
    have ih := pick_shift x js l
    unfold pick at ih ⊢
    simp only [List.map_cons, List.filterMap_cons, List.getElem?_cons_succ]
    cases l[j]? with
    | none => exact ih
    | some y => simp only [ih]
theorem pick_self {α : Type} {is js : List Nat} (hj : is = 0 :: js.map (· + 1)) (x : α) (l : List α) : pick is (x :: l) = x :: pick js l := by
  subst hj
  have ih := pick_shift x js l
  unfold pick at ih ⊢
  simp only [List.filterMap_cons, List.getElem?_cons_zero, ih]
def mMkKB (c : Str) (mf : MF) (nn nk : Nat) (js : List Nat) (dts : List T) (mk : MA) : ME := fun s h => (mk s h).bind fun us h2 => if us.length = nk ∧ (pick js (us ++ dts)).length + 1 = nn then fMkB c mf [] (pick js (us ++ dts)) h2 else .stuck
theorem se_makeKB0 {is js : List Nat} (Hi : HasIX X k c qual st ps dts mf) (hr : Room (k + 1) X.A) (tk : Takes X W) (hb : KwD st "__init__" qual ps dts.length 1 ks is) (hkw : SK X W kws mk) (hj : is = 0 :: js.map (· + 1)) (hg : Gl X c := by rfl)
    (hall : (backToKw pos (keywordEach kws X.env)).all (·.1.isSome) = true := by rfl) (hks : (backToKw pos (keywordEach kws X.env)).filterMap (·.1) = ks := by rfl)
    (hdb : (c == ("__debug__" : Str)) = false := by decide)
    (hpl : ((backTo pos (starEach [] X.env)).any (·.1) || (backToKw pos (keywordEach kws X.env)).any (·.1.isNone)) = false := by rfl) :
    SE X W (.Call (.Name c p) [] kws pos) (mMkKB c mf ps.length ks.length js dts mk) := by
  obtain ⟨C, f, fd, dvs, hC, M, hf⟩ := Hi
  obtain ⟨its, rv, hbs⟩ := kwD_binds hf hb
  refine ⟨fun pins s σ H Q I h => ?_⟩
  obtain ⟨g, s0, rfl, R, S, h⟩ := h
  unfold mMkKB at h
  have key : tMA X.K X.mg W mk σ g.H (fun zs H2 => zs.length = ks.length ∧ ∀ x1 dx, H2 x1 = none → H2 dx = none → dx ≠ x1 → spM X.K X.mg ps.length mf (pick is ((.ref x1 :: []) ++ zs ++ dvs)) (upd (upd H2 dx (.own x1)) x1 (.ins C dx [])) (fun v H3 => v = .non ∧ Q (.ref x1) H3) (WE W σ)) :=
    ⟨g, s0, rfl, R, S, wpL_of h fun g2 us zs e2 R2 r2 h2 => by
      split at h2
      · rename_i q
        refine ⟨by rw [← r2.length]; exact q.1, fun x1 dx hx hdx ne => ?_⟩
        have e := pick_self hj (V.ref x1) (zs ++ dvs)
        have z := make_useB (nn := ps.length) (dt := []) (dv := []) R2 (pick_repL (r2.append (hf.dr g2)) js) (fun _ => RepL.nil) hC hx hdx ne (by rw [List.append_nil]; exact q.2) h2
        rw [List.append_nil] at z
        rw [show ((V.ref x1 :: []) ++ zs ++ dvs) = V.ref x1 :: (zs ++ dvs) from by simp, e]
        exact z
      · exact h2.elim⟩
  refine wpAny_Call_Name_kw (ld_glob I hg hC ?_ hdb)
  refine PySem.W.callWith_KW0 (h₀ := X.base) I.ok.mod.kin M.kp hall ?_ hpl
  refine thn (hkw.run pos pins s σ g.H _ I key) fun ws s2 ⟨zs, H2, I2, rz, l2, q2⟩ => ⟨I2.kIn, ?_⟩
  rw [hks]
  exact make_at (us := []) M hf.ok hr (passAt tk σ) I2 (fun u => pick is ((u :: []) ++ ws ++ its)) (fun x => pick is ((x :: []) ++ zs ++ dvs)) (ks.zip ws) (fun s' u ki => hbs s' [u] ws ki rfl (rz.length.symm.trans l2)) (fun x u rx => pick_vals (((show Vals (x :: []) (u :: []) from .cons rx .nil).append rz).append rv) is) q2
end
end Mi
end part_Mi36
section part_Mi37
set_option maxRecDepth 100000
set_option maxHeartbeats 2000000
/-! Mi, part 37: < and >= of tuples of ints. -/
namespace Mi
open PySem PySem.Spec PyProof.Rows L2
section
variable {X : Cx} {K : PySem.W.Frag} {mg : Str → Option Value} {W : WX} {g : G} {σ : L2.St} {Q : VK}
theorem hu0 {k : Nat} {A : Around} (r : Room k A) : A.units < cLine := by have := r.un; omega
def lexT (r : Int → Int → Bool) (z : Nat → Nat → Bool) (ns ms : List Int) : Bool :=
  Ob.lexAt (fun j => decide (ns.getD j 0 = ms.getD j 0)) (fun j => r (ns.getD j 0) (ms.getD j 0)) (z ns.length ms.length) 0 (min ns.length ms.length)
def rCmpT (K : PySem.W.Frag) (r : Int → Int → Bool) (z : Nat → Nat → Bool) : R2 := fun x y H Q => ∃ (a b : Addr) (ns ms : List Int), x = .ref a ∧ y = .ref b ∧ SqT K H a (ns.map V.int) ∧ SqT K H b (ms.map V.int) ∧ Q (.bl (lexT r z ns ms)) H
theorem op_ltT (hu : X.A.units < cLine) : OpR X (compareOp .Lt) (rCmpT X.K (fun i j => decide (i < j)) fun i j => decide (i < j)) := by
  intro pins s σ H x y v u Q I rx ry h
  obtain ⟨a, b, ns, ms, rfl, rfl, ha, hb, q⟩ := h
  cases rx
  cases ry
  obtain ⟨its, r1, p1, _⟩ := I.tuple ha
  obtain ⟨its2, r2, p2, _⟩ := I.tuple hb
  have i1 : IntsAre its ns := Vals.ints r1
  have i2 : IntsAre its2 ms := Vals.ints r2
  have e1 : its.toArray.size = ns.length := by rw [List.size_toArray]; exact i1.length
  have e2 : its2.toArray.size = ms.length := by rw [List.size_toArray]; exact i2.length
  have at1 : ∀ j (h1 : j < its.toArray.size), ∃ t, its.toArray[j] = .int (ns.getD j 0) t := fun j h1 => PyProof.Rows.IntsAre.int_at i1 _ _ (by simp at h1; simp [h1])
  have at2 : ∀ j (h1 : j < its2.toArray.size), ∃ t, its2.toArray[j] = .int (ms.getD j 0) t := fun j h1 => PyProof.Rows.IntsAre.int_at i2 _ _ (by simp at h1; simp [h1])
  have R := Ob.RcOp.tuples_lt (A := X.A) (s := s) (e := fun j => decide (ns.getD j 0 = ms.getD j 0)) (r := fun j => decide (ns.getD j 0 < ms.getD j 0)) p1 p2 hu (fun j h1 h2 => by
    obtain ⟨t, et⟩ := at1 j h1
    obtain ⟨t', et'⟩ := at2 j h2
    rw [et, et']
    have z : (ns.getD j 0 == ms.getD j 0) = decide (ns.getD j 0 = ms.getD j 0) := by
      by_cases q : ns.getD j 0 = ms.getD j 0
      · rw [decide_eq_true q]; exact beq_iff_eq.mpr q
      · rw [decide_eq_false q]; exact beq_eq_false_iff_ne.mpr q
    rw [← z]
    exact SeqAt.EqAt.int_int _ _ _ _) (fun j h1 h2 _ => by
    obtain ⟨t, et⟩ := at1 j h1
    obtain ⟨t', et'⟩ := at2 j h2
    rw [et, et']
    exact Ob.RcOp.lt_int _ _ _ _)
  rw [e1, e2] at R
  have z : wpAny (model X.prog X.w) X.A (compareOp .Lt (.ref a) (.ref b)) (EP X pins σ Q) X.xe s := R X.prog X.w X.xe (EP X pins σ Q) ⟨.bl _, H, I, rfl, q⟩
  exact z
theorem op_geT (hu : X.A.units < cLine) : OpR X (compareOp .GtE) (rCmpT X.K (fun i j => decide (j ≤ i)) fun i j => decide (j ≤ i)) := by
  intro pins s σ H x y v u Q I rx ry h
  obtain ⟨a, b, ns, ms, rfl, rfl, ha, hb, q⟩ := h
  cases rx
  cases ry
  obtain ⟨its, r1, p1, _⟩ := I.tuple ha
  obtain ⟨its2, r2, p2, _⟩ := I.tuple hb
  have i1 : IntsAre its ns := Vals.ints r1
  have i2 : IntsAre its2 ms := Vals.ints r2
  have e1 : its.toArray.size = ns.length := by rw [List.size_toArray]; exact i1.length
  have e2 : its2.toArray.size = ms.length := by rw [List.size_toArray]; exact i2.length
  have at1 : ∀ j (h1 : j < its.toArray.size), ∃ t, its.toArray[j] = .int (ns.getD j 0) t := fun j h1 => PyProof.Rows.IntsAre.int_at i1 _ _ (by simp at h1; simp [h1])
  have at2 : ∀ j (h1 : j < its2.toArray.size), ∃ t, its2.toArray[j] = .int (ms.getD j 0) t := fun j h1 => PyProof.Rows.IntsAre.int_at i2 _ _ (by simp at h1; simp [h1])
  have R := Ob.RcOp.tuples_ge (A := X.A) (s := s) (e := fun j => decide (ns.getD j 0 = ms.getD j 0)) (r := fun j => decide (ms.getD j 0 ≤ ns.getD j 0)) p1 p2 hu (fun j h1 h2 => by
    obtain ⟨t, et⟩ := at1 j h1
    obtain ⟨t', et'⟩ := at2 j h2
    rw [et, et']
    have z : (ns.getD j 0 == ms.getD j 0) = decide (ns.getD j 0 = ms.getD j 0) := by
      by_cases q : ns.getD j 0 = ms.getD j 0
      · rw [decide_eq_true q]; exact beq_iff_eq.mpr q
      · rw [decide_eq_false q]; exact beq_eq_false_iff_ne.mpr q
    rw [← z]
    exact SeqAt.EqAt.int_int _ _ _ _) (fun j h1 h2 _ => by
    obtain ⟨t, et⟩ := at1 j h1
    obtain ⟨t', et'⟩ := at2 j h2
    rw [et, et']
    exact Ob.RcOp.ge_int _ _ _ _)
  rw [e1, e2] at R
  have z : wpAny (model X.prog X.w) X.A (compareOp .GtE (.ref a) (.ref b)) (EP X pins σ Q) X.xe s := R X.prog X.w X.xe (EP X pins σ Q) ⟨.bl _, H, I, rfl, q⟩
  exact z
def intsT? : List T → Option (List Int)
  | [] => some []
  | .int i :: ts => (intsT? ts).map (i :: ·)
  | _ :: _ => none
theorem intsT?_eq : ∀ {ts : List T} {ns : List Int}, intsT? ts = some ns → ts = ns.map T.int
  | [], ns, h => by cases h; rfl
  | t :: ts, ns, h => by
    unfold intsT? at h
    split at h
    · rename_i h0; cases h0
    · rename_i i ts' h0
      injection h0 with h1 h2
      subst h1 h2
      cases q : intsT? ts with
      | none => rw [q] at h; cases h
      | some ks => rw [q] at h; cases h; rw [intsT?_eq q]; rfl
    · cases h
theorem repL_ints : ∀ {ns : List Int} {vs : List V}, RepL K mg g (ns.map T.int) vs → vs = ns.map V.int
  | [], vs, h => by simpa only [List.map_nil, RepL] using h
  | n :: ns, vs, h => by
    simp only [List.map_cons, RepL] at h
    obtain ⟨v, w, rfl, r1, r2⟩ := h
    rw [rep_int r1, repL_ints r2]; rfl
def fCmpT (r : Int → Int → Bool) (z : Nat → Nat → Bool) : T → T → MH → R := fun t u h => match t, u with
  | .tup xs, .tup ys => match intsT? xs, intsT? ys with
    | some ns, some ms => .ok (.bl (lexT r z ns ms)) h
    | _, _ => .stuck
  | _, _ => .stuck
theorem mCmpT {r : Int → Int → Bool} {z : Nat → Nat → Bool} : OpM X (fCmpT r z) (rCmpT X.K r z) := by
  intro W g σ t u x y Q R r1 r2 h
  unfold fCmpT at h
  split at h
  · split at h
    · rename_i ns ms e1 e2
      have e1 := intsT?_eq e1
      have e2 := intsT?_eq e2
      subst e1 e2
      obtain ⟨p, vs, rfl, h1, l1⟩ := r1.sqT
      obtain ⟨p2, vs2, rfl, h2, l2⟩ := r2.sqT
      rw [repL_ints l1] at h1
      rw [repL_ints l2] at h2
      exact ⟨p, p2, ns, ms, rfl, rfl, h1, h2, wpR_here h R rBl⟩
    · exact h.elim
  · exact h.elim
theorem blCmpT {r : Int → Int → Bool} {z : Nat → Nat → Bool} : BlM (fCmpT r z) := fun t u h => by
  unfold fCmpT
  repeat' split
  all_goals first | exact .inl ⟨_, rfl⟩ | exact .inr rfl
theorem opM_alt {f f' : T → T → MH → R} {r r' : R2} (h1 : OpM X f r) (h2 : OpM X f' r') : OpM X (fAlt2 f f') (fun x y H Q => r x y H Q ∨ r' x y H Q) := by
  intro W g σ t u x y Q R r1 r2 h
  unfold fAlt2 at h
  cases q : f t u g.h with
  | ok u' h' => rw [q] at h; exact .inl (h1 W g σ t u x y Q R r1 r2 (by rw [q]; exact h))
  | ex y' h' => rw [q] at h; exact .inl (h1 W g σ t u x y Q R r1 r2 (by rw [q]; exact h))
  | stuck => rw [q] at h; exact .inr (h2 W g σ t u x y Q R r1 r2 h)
theorem bl_alt {f f' : T → T → MH → R} (h1 : BlM f) (h2 : BlM f') : BlM (fAlt2 f f') := fun t u h => by
  unfold fAlt2
  rcases h1 t u h with ⟨b, e⟩ | e
  · rw [e]; exact .inl ⟨b, rfl⟩
  · rw [e]; exact h2 t u h
def fLtA := fAlt2 fLt (fCmpT (fun i j => decide (i < j)) fun i j => decide (i < j))
def fGeA := fAlt2 fGe (fCmpT (fun i j => decide (j ≤ i)) fun i j => decide (j ≤ i))
theorem op_ltA (hu : X.A.units < cLine) : OpR X (compareOp .Lt) (fun x y H Q => rCmp (fun i j => decide (i < j)) (fun a b => decide (a < b)) x y H Q ∨ rCmpT X.K (fun i j => decide (i < j)) (fun i j => decide (i < j)) x y H Q) := op_ltV.or (op_ltT hu)
theorem op_geA (hu : X.A.units < cLine) : OpR X (compareOp .GtE) (fun x y H Q => rCmp (fun i j => decide (j ≤ i)) (fun a b => !decide (a < b)) x y H Q ∨ rCmpT X.K (fun i j => decide (j ≤ i)) (fun i j => decide (j ≤ i)) x y H Q) := op_geV.or (op_geT hu)
theorem mLtA : OpM X fLtA (fun x y H Q => rCmp (fun i j => decide (i < j)) (fun a b => decide (a < b)) x y H Q ∨ rCmpT X.K (fun i j => decide (i < j)) (fun i j => decide (i < j)) x y H Q) := opM_alt mLtV mCmpT
theorem mGeA : OpM X fGeA (fun x y H Q => rCmp (fun i j => decide (j ≤ i)) (fun a b => !decide (a < b)) x y H Q ∨ rCmpT X.K (fun i j => decide (j ≤ i)) (fun i j => decide (j ≤ i)) x y H Q) := opM_alt mGeV mCmpT
theorem blLtA : BlM fLtA := bl_alt blLt blCmpT
theorem blGeA : BlM fGeA := bl_alt blGe blCmpT
end
end Mi
end part_Mi37
section part_Mi38
set_option maxRecDepth 100000
set_option maxHeartbeats 2000000
/-! Mi, part 38: lambdas are made. -/
namespace MiLam
open PySem PySem.Spec PySem.Calls PyProof.Rows PySem.W
section
variable {M : Model} {A : Around} {E : Value → Shared → Prop} {s : Shared} {name qual : Str} {params : Arguments} {body : Expr} {scope : Scope} {env : Env} {c P : Addr} {ps : Array Value} {pos : Pos} {firstLine : Nat} {mg : Str → Option Value}
  {clos : List (Str × Addr)} {Q : Value → Shared → Prop} {dv : Value}
abbrev fdOf (name qual : Str) (params : Arguments) (body : Expr) (scope : Scope) (cl : List (Str × Addr)) (dv pm cdv ct : Value) : FuncData := { kla_fn name qual params body scope cl pm cdv ct with defaults := dv }
abbrev objOf (fd : FuncData) : Obj := { cls := .type "function", data := .func fd }
theorem tail_new (hcl : closureFor scope env = pure clos) (hge0 : env.globals = mainGlobals) (hg : s.heap.Ns mainGlobals mg) (hcode : env.code = .ref c) (C : CodeHd s.heap c P) (hP : s.heap.get? P = some (tabObj ps)) (ht : TriplesOk ps.toList)
    (hnf : codeAmong pos ps.toList = none) (hgP : mainGlobals ≠ P) (hb : s.heap.BuiltinsAt mg P)
    (h : ∀ c' ctv h' tk, Heap.ExtBut P s.heap h' → s.heap.objs.size ≤ c' → c' < h'.objs.size → h'.CodeRec (.ref c') qual → h'.get? P = some (tabObj (ps ++ #[rawInt pos.line, rawInt pos.col, .ref c'])) →
      Q (.ref h'.objs.size) { s with heap := h'.push (objOf (fdOf name qual params body scope clos dv ((mg "__name__").getD .none) (.ref c') ctv)), toks := tk }) :
    wpAny M A (makeTail name qual params (.expr body) scope env dv .none none pos firstLine) Q E s := by
  obtain ⟨bm, ob, hbm, hne0, _, hneP, hbo, hcls, hdict, hdata⟩ := hb
  unfold makeTail
  rw [hcl, hge0]
  refine wpAny_bind (wpAny_pure ?_)
  cases clos with
  | nil =>
    simp only [List.isEmpty_nil, if_true]
    refine wpAny_bind (wpAny_pure ?_)
    refine wpAny_bind (wpAny_functionCodeX hcode (C.code hP ht) (C.tab hP) hnf fun c' h' tk hx hge hlt _ hrec htb _ => ?_)
    have hg' := hg.extBut hx hgP
    refine wpAny_bind (wpAny_builtinsFor hg' hbm hne0 (hx _ _ hneP hbo) hcls hdict hdata ?_)
    refine wpAny_bind (wpAny_nsGet hg' ?_)
    exact wpAny_bind (wpAny_pure (wpAny_newObj_type (h c' .none h' tk hx hge hlt hrec htb.2) (by size_fits)))
  | cons q r =>
    simp only [List.isEmpty_cons, Bool.false_eq_true, if_false]
    refine wpAny_bind (wpAny_newTextTuple ?_)
    refine wpAny_bind (wpAny_functionCodeX hcode ((C.keeps fun b o e => Heap.get?_push_of_some _ e).code (Heap.get?_push_of_some _ hP) ht) ((C.keeps fun b o e => Heap.get?_push_of_some _ e).tab (Heap.get?_push_of_some _ hP)) hnf fun c' h' tk hx hge hlt _ hrec htb _ => ?_)
    have hg' := (hg.push _).extBut hx hgP
    have hx' : Heap.ExtBut P s.heap h' := fun b o hb' e => hx b o hb' (Heap.get?_push_of_some _ e)
    have hge' : s.heap.objs.size ≤ c' := Nat.le_trans (by rw [Heap.size_push]; omega) hge
    refine wpAny_bind (wpAny_builtinsFor hg' hbm hne0 (hx' _ _ hneP hbo) hcls hdict hdata ?_)
    refine wpAny_bind (wpAny_nsGet hg' ?_)
    exact wpAny_bind (wpAny_pure (wpAny_newObj_type (h c' _ h' tk hx' hge' hlt hrec htb.2) (by size_fits)))
theorem tail_hit {cv : Value} (hcl : closureFor scope env = pure clos) (hge0 : env.globals = mainGlobals) (hg : s.heap.Ns mainGlobals mg) (hcode : env.code = .ref c) (C : CodeHd s.heap c P) (hP : s.heap.get? P = some (tabObj ps)) (ht : TriplesOk ps.toList)
    (hf : codeAmong pos ps.toList = some cv) (hb : s.heap.BuiltinsAt mg P)
    (h : ∀ (ctv : Value) (h' : Heap) (tk : Tok), (∀ b o, s.heap.get? b = some o → h'.get? b = some o) → s.heap.objs.size ≤ h'.objs.size →
      Q (.ref h'.objs.size) { s with heap := h'.push (objOf (fdOf name qual params body scope clos dv ((mg "__name__").getD .none) cv ctv)), toks := tk }) :
    wpAny M A (makeTail name qual params (.expr body) scope env dv .none none pos firstLine) Q E s := by
  obtain ⟨bm, ob, hbm, hne0, _, hneP, hbo, hcls, hdict, hdata⟩ := hb
  unfold makeTail
  rw [hcl, hge0]
  refine wpAny_bind (wpAny_pure ?_)
  cases clos with
  | nil =>
    simp only [List.isEmpty_nil, if_true]
    refine wpAny_bind (wpAny_pure ?_)
    refine wpAny_bind (wpAny_functionCode_hit hcode (C.code hP ht) hf ?_)
    refine wpAny_bind (wpAny_builtinsFor hg hbm hne0 hbo hcls hdict hdata ?_)
    refine wpAny_bind (wpAny_nsGet hg ?_)
    exact wpAny_bind (wpAny_pure (wpAny_newObj_type (h .none s.heap s.toks (fun _ _ e => e) (Nat.le_refl _)) (by size_fits)))
  | cons q r =>
    simp only [List.isEmpty_cons, Bool.false_eq_true, if_false]
    refine wpAny_bind (wpAny_newTextTuple ?_)
    refine wpAny_bind (wpAny_functionCode_hit hcode ((C.keeps fun b o e => Heap.get?_push_of_some _ e).code (Heap.get?_push_of_some _ hP) ht) hf ?_)
    refine wpAny_bind (wpAny_builtinsFor (hg.push _) hbm hne0 (Heap.get?_push_of_some _ hbo) hcls hdict hdata ?_)
    refine wpAny_bind (wpAny_nsGet (hg.push _) ?_)
    have hsz : ∀ oT : Obj, s.heap.objs.size ≤ (s.heap.push oT).objs.size := fun oT => by rw [Heap.size_push]; omega
    exact wpAny_bind (wpAny_pure (wpAny_newObj_type (h _ _ s.toks (fun b o e => Heap.get?_push_of_some _ e) (hsz _)) (by size_fits)))
end
end MiLam
end part_Mi38
section part_Mi39
set_option maxRecDepth 100000
set_option maxHeartbeats 2000000
/-! Mi, part 39: lambdas as values. -/
namespace Mi
open PySem PySem.Spec PyProof.Rows L2
section
variable {X : Cx} {K : PySem.W.Frag} {mg : Str → Option Value} {W : WX} {g g' : G} {σ : L2.St} {Q : VK}
/-- the table is written, a code object is new -/
theorem g_table {P c' : Addr} {q : Str} {ps more : Array Value} (R : Rel K mg g) (h0 : g.rho[0]? = some P) (hh : g.h[0]? = some (.tab q P)) (eH : g.H P = some (.tbl ps)) (hn : g.H c' = none)
    (ht : TriplesOk (ps ++ more).toList) (ha : ∀ (pos : Pos) (cv : Value), codeAmong pos (ps ++ more).toList = some cv → codeAmong pos ps.toList = some cv ∨ cv = .ref c') :
    Ext g { g with H := upd (upd g.H P (.tbl (ps ++ more))) c' (LamX.CodeO c' q) } ∧ Rel K mg { g with H := upd (upd g.H P (.tbl (ps ++ more))) c' (LamX.CodeO c' q) } := by
  have lP : g.live 0 P := ⟨h0, _, hh, by intro e; cases e⟩
  have hP : g.hid P := .inr ⟨0, _, h0, hh, by intro e; cases e⟩
  have nPc : P ≠ c' := ne_of_none eH hn
  have at_ : ∀ b, b ≠ P → b ≠ c' → upd (upd g.H P (.tbl (ps ++ more))) c' (LamX.CodeO c' q) b = g.H b := fun b h1 h2 => by rw [upd_ne h2, upd_ne h1]
  have atP : upd (upd g.H P (.tbl (ps ++ more))) c' (LamX.CodeO c' q) P = some (.tbl (ps ++ more)) := by rw [upd_ne nPc, upd_same]
  have hs : Sub g { g with H := upd (upd g.H P (.tbl (ps ++ more))) c' (LamX.CodeO c' q) } := ⟨fun _ _ h => h, fun a o h n => ⟨by
    show upd (upd g.H P (.tbl (ps ++ more))) c' (LamX.CodeO c' q) a = some o
    rw [at_ a (fun e => n (by rw [e]; exact hP)) (ne_of_none h hn)]; exact h, n⟩⟩
  have pvP : ∀ a ∈ g.pv, a ≠ P := fun a ha e => R.npv a ha 0 (by rw [e]; exact lP)
  have nc : ¬ G.hid { g with H := upd (upd g.H P (.tbl (ps ++ more))) c' (LamX.CodeO c' q) } c' := fun z => R.nohid hn z
  have hid_c : ∀ c, ¬ g.hid c → ∀ (o : HO), g.H c = some o → c ≠ P → (G.mk g.rho g.h g.pv (upd (upd g.H P (.tbl (ps ++ more))) c' (LamX.CodeO c' q))).H c = some o := fun c _ o e n => by
    show upd (upd g.H P (.tbl (ps ++ more))) c' (LamX.CodeO c' q) c = some o
    rw [at_ c n (ne_of_none e hn)]; exact e
  refine ⟨⟨hs.rho, rfl, fun a ha => ?_, hs.keep⟩, R.len, R.inj, R.npv, fun a ha => ?_, fun i a ha => ?_, fun i a o z1 z2 => ?_⟩
  · obtain ⟨u, e⟩ := R.pvt a ha
    exact at_ a (pvP a ha) (ne_of_none e hn)
  · obtain ⟨u, e⟩ := R.pvt a ha
    exact ⟨u, (at_ a (pvP a ha) (ne_of_none e hn)).trans e⟩
  · obtain ⟨u, e⟩ := R.tr i a ha
    by_cases z : a = P
    · rw [z]; exact ⟨_, atP⟩
    · exact ⟨u, (at_ a z (ne_of_none e hn)).trans e⟩
  · by_cases wd : o = MO.dead
    · subst wd; trivial
    have la : g.live i a := ⟨z1, o, z2, wd⟩
    by_cases z : a = P
    · subst z
      have ei := R.inj i 0 a la lP
      subst ei
      have z2' : g.h[0]? = some o := z2
      rw [hh] at z2'
      cases z2'
      obtain ⟨_, ps', e1, e2, e3⟩ := R.obj 0 a _ h0 hh
      rw [eH] at e1
      cases e1
      refine ⟨rfl, _, atP, ht, fun pos cv hc => ?_⟩
      rcases ha pos cv hc with r | r
      · obtain ⟨c, r1, r2, r3⟩ := e3 pos cv r
        exact ⟨c, r1, (hs.keep _ _ r2 r3).1, (hs.keep _ _ r2 r3).2⟩
      · exact ⟨c', r, upd_same, nc⟩
    · refine (R.obj i a o z1 z2).sub hs fun u hu => ?_
      show upd (upd g.H P (.tbl (ps ++ more))) c' (LamX.CodeO c' q) a = some u
      rw [at_ a z (ne_of_none hu hn)]; exact hu
/-- a new thing that no changeable object is -/
theorem g_new {p : Addr} {o : HO} (R : Rel K mg g) (hp : g.H p = none) : Ext g (g.lay p o) ∧ Rel K mg (g.lay p o) ∧ ¬ (g.lay p o).hid p := ⟨lay_ext R hp, R.lay hp, R.nohid hp⟩
def mLam (k : Nat) (I : LamI) (C : List (Str × Addr)) (P : Addr) : ME := fun s h => match (h[0]? : Option MO) with
  | some (.tab q P') => if q = I.q ∧ P' = P then .ok (.fn k I C) h else .stuck
  | _ => .stuck
/-- what the words of a lambda must be like -/
def dfltOk (I : LamI) (env : Env) : Prop := (I.dflt = false ∧ defaultsOf I.params env = ([], [])) ∨ (I.dflt = true ∧ ∃ (j : Nat) (p : Pos), defaultsOf I.params env = ([eval (.Constant (.int 0) j p) env], []))
structure LamB (X : Cx) (I : LamI) (c P : Addr) : Prop where
  tb : LamX.TabB X.base X.mg c P
  code : X.env.code = .ref c
  q : I.q = X.env.qual ++ "<lambda>"
  free : ∀ y ∈ I.scope.names, y.2 = .free → X.env.scope.names.lookup y.1 = some .cell ∨ X.env.scope.names.lookup y.1 = some .free
  dflt : dfltOk I X.env
  kwo : I.params.kwonlyargs = []
theorem ObjOk_ext {P : Program} {w : World} {H : Hp} {h : Heap} {a : Addr} {φ : Heap → Prop} (h1 : φ h) (h2 : ∃ o, h.get? a = some o) (h3 : ∀ h1 h2 : Heap, φ h1 → (∀ o, h1.get? a = some o → h2.get? a = some o) → φ h2) : ObjOk P w H h a (.ext φ) := ⟨h1, h2, h3⟩
/-- the function object is laid -/
theorem lam_end {pins : List (Addr × Obj)} {s : Shared} {I : LamI} {k : Nat} {C : List (Str × Addr)} {c' : Addr} {dv pm ctv : Value} {tk : Nat} (R : Rel X.K X.mg g) (J : Inv X pins σ g.H s) (hc : g.H c' = some (LamX.CodeO c' I.q) ∧ ¬ g.hid c')
    (hd : (I.dflt = false ∧ dv = .none) ∨ (I.dflt = true ∧ ∃ dt, dv = .ref dt ∧ g.H dt = some (DfO dt) ∧ ¬ g.hid dt)) (hC : ∀ y ∈ I.scope.names, y.2 = .free → ∃ c, C.lookup y.1 = some c) (h : wpR X.K X.mg W g σ Q (.ok (.fn k I C) g.h)) :
    EP X pins σ Q (.ref s.heap.objs.size) { s with heap := s.heap.push (MiLam.objOf (lamFd I C c' dv pm ctv)), toks := tk } := by
  have nF : g.H s.heap.objs.size = none := J.hok.fresh (Nat.le_refl _)
  obtain ⟨e1, R1, n1⟩ := g_new (o := LamO s.heap.objs.size I C c' dv) R nF
  have J1 : Inv X pins σ (upd g.H s.heap.objs.size (LamO s.heap.objs.size I C c' dv)) { s with heap := s.heap.push (MiLam.objOf (lamFd I C c' dv pm ctv)), toks := tk } := by
    refine J.laid (fun b u e => Heap.get?_push_of_some _ e) (Nat.le_refl _) ?_
    have e : (s.heap.push (MiLam.objOf (lamFd I C c' dv pm ctv))).get? s.heap.objs.size = some (MiLam.objOf (lamFd I C c' dv pm ctv)) := Heap.get?_push_size _ rfl
    exact ObjOk_ext ⟨_, _, pm, ctv, e⟩ ⟨_, e⟩ fun h1 h2 ⟨od, sl, p, t, z⟩ st => ⟨od, sl, p, t, st _ z⟩
  refine ⟨.ref s.heap.objs.size, _, J1, rfl, h (g.lay s.heap.objs.size (LamO s.heap.objs.size I C c' dv)) (.ref s.heap.objs.size) rfl e1 R1 ?_⟩
  simp only [Rep]
  refine ⟨_, c', dv, rfl, ⟨upd_same, n1⟩, e1.keep _ _ hc.1 hc.2, hd.imp id fun ⟨z, dt, z1, z2, z3⟩ => ⟨z, dt, z1, e1.keep _ _ z2 z3⟩, hC⟩
/-- the code object is new, or found -/
theorem lam_tail {pins : List (Addr × Obj)} {s : Shared} {E : Value → Shared → Prop} {I : LamI} {k : Nat} {c P : Addr} {dv : Value} {pos : Pos} (B : LamB X I c P) (R : Rel X.K X.mg g) (J : Inv X pins σ g.H s) (h0 : g.h[0]? = some (.tab I.q P))
    (hd : (I.dflt = false ∧ dv = .none) ∨ (I.dflt = true ∧ ∃ dt, dv = .ref dt ∧ g.H dt = some (DfO dt) ∧ ¬ g.hid dt)) (h : wpR X.K X.mg W g σ Q (.ok (.fn k I X.env.cells) g.h)) :
    wpAny (model X.prog X.w) X.A (makeTail "<lambda>" (X.env.qual ++ "<lambda>") I.params (.expr I.body) I.scope X.env dv .none none pos pos.line) (EP X pins σ Q) E s := by
  have hl : 0 < g.rho.length := by rw [R.len]; exact (List.getElem?_eq_some_iff.mp h0).1
  have hr : g.rho[0]? = some g.rho[0] := List.getElem?_eq_getElem hl
  obtain ⟨eP, ps, hP, ht, ha⟩ := R.obj 0 _ _ hr h0
  rw [eP] at hr hP
  have hfree : ∀ y ∈ I.scope.names, y.2 = .free → ∃ c, X.env.cells.lookup y.1 = some c := fun y hy e => (B.free y hy e).elim (fun z => J.ok.has _ (.inl z)) fun z => J.ok.has _ (.inr z)
  have bP : s.heap.BuiltinsAt X.mg P := B.tb.bm.keeps J.bk
  have hP' : s.heap.get? P = some { cls := .none, data := .fields ps } := J.hok P _ hP
  rw [← B.q]
  cases hc : codeAmong pos ps.toList with
  | none =>
    refine MiLam.tail_new (mg := X.mg) (c := c) (P := P) (ps := ps) (closure_ok hfree) J.ok.glob (J.mod.glob.keeps J.bk) B.code (B.tb.code.keeps J.bk) hP' ht hc B.tb.gP bP fun c' ctv h' tk hx hge hlt hrec htb => ?_
    obtain ⟨c2, oc, vs, t, e2, hoc, hdt, hv⟩ := hrec
    cases e2
    have nC : g.H c' = none := J.hok.fresh hge
    have J1 := LamX.inv_table (t' := tk) (more := #[rawInt pos.line, rawInt pos.col, .ref c']) (h' := h') J hP (fun b o hb e => hx b o hb e) htb hge ⟨oc, vs, t, hoc, hdt, hv⟩
    have eL : (ps ++ #[rawInt pos.line, rawInt pos.col, .ref c']).toList = ps.toList ++ [rawInt pos.line, rawInt pos.col, .ref c'] := by simp
    obtain ⟨e1, R1⟩ := g_table (more := #[rawInt pos.line, rawInt pos.col, .ref c']) R hr h0 hP nC (by rw [eL]; exact PySem.TriplesOk_snoc _ _ _ _ ht) (fun p' cv hcv => by
      rw [eL] at hcv
      exact LamX.among_app _ ht hcv)
    have nh := R.nohid nC
    exact lam_end (g := { g with H := upd (upd g.H P (.tbl (ps ++ #[rawInt pos.line, rawInt pos.col, .ref c']))) c' (LamX.CodeO c' I.q) }) R1 J1 ⟨upd_same, nh⟩ (hd.imp id fun ⟨z, dt, z1, z2, z3⟩ => ⟨z, dt, z1, e1.keep _ _ z2 z3⟩) hfree (h.ext e1)
  | some cv =>
    obtain ⟨c', e, hco⟩ := ha pos cv hc
    subst e
    refine MiLam.tail_hit (mg := X.mg) (c := c) (P := P) (ps := ps) (closure_ok hfree) J.ok.glob (J.mod.glob.keeps J.bk) B.code (B.tb.code.keeps J.bk) hP' ht hc bP fun ctv h' tk hx hsz => ?_
    have J1 : Inv X pins σ g.H { s with heap := h', toks := tk } := J.kept hx
    exact lam_end R J1 hco hd hfree h
theorem se_lam {I : LamI} {k : Nat} {c P : Addr} {pos : Pos} (B : LamB X I c P) : SE X W (.Lambda I.params I.body I.scope pos) (mLam k I X.env.cells P) := by
  refine ⟨fun pins s σ H Q J h => ?_⟩
  obtain ⟨g, sm, rfl, R, S, h⟩ := h
  unfold mLam at h
  split at h
  · rename_i q P' h0
    split at h
    · rename_i z
      obtain ⟨rfl, rfl⟩ := z
      rw [arm_eval_Lambda]
      rcases B.dflt with ⟨d1, d2⟩ | ⟨d1, j, p, d2⟩
      · rw [d2]
        show wpAny _ _ (do let dv ← evalAll []; let kdv ← holding dv (evalAllOpt []); makeFunction "<lambda>" (X.env.qual ++ "<lambda>") I.params (.expr I.body) I.scope X.env dv kdv [] pos pos.line) _ _ _
        refine wpAny_bind (wpAny_pure (wpAny_bind (wpAny_holding (wpAny_pure ?_))))
        rw [makeFunction_eq]
        simp only [B.kwo, List.zip_nil_left, List.zip_nil_right, List.filterMap_nil, List.isEmpty_nil, if_true, pure_bind]
        exact lam_tail B R J h0 (.inl ⟨d1, rfl⟩) h
      · rw [d2]
        show wpAny _ _ (do let dv ← evalAll [eval (.Constant (.int 0) j p) X.env]; let kdv ← holding dv (evalAllOpt []); makeFunction "<lambda>" (X.env.qual ++ "<lambda>") I.params (.expr I.body) I.scope X.env dv kdv [] pos pos.line) _ _ _
        refine wpAny_bind ?_
        show wpAny _ _ (do let v ← eval (.Constant (.int 0) j p) X.env; return v :: (← holding [v] (evalAll []))) _ _ _
        refine wpAny_bind (wpAny_mono ((pe_int (i := 0) (j := j) (pos := p)).run pins s σ g.H (fun v H1 => v = .int 0 ∧ H1 = g.H) J ⟨rfl, rfl⟩) (fun u s1 hu => ?_) fun _ _ x => x)
        obtain ⟨v, H1, J1, r1, ev, eH⟩ := hu
        subst ev
        rw [eH] at J1
        obtain ⟨tk, rfl⟩ := (show ∃ tk, u = Value.int 0 tk from r1)
        refine wpAny_bind (wpAny_holding (wpAny_pure (wpAny_pure ?_)))
        refine wpAny_bind (wpAny_holding (wpAny_pure ?_))
        rw [makeFunction_eq]
        simp only [B.kwo, List.zip_nil_left, List.zip_nil_right, List.filterMap_nil, List.isEmpty_nil, List.isEmpty_cons, if_true, if_false, pure_bind, Bool.false_eq_true]
        refine wpAny_bind (wpAny_newTextTuple ?_)
        have nD : g.H s1.heap.objs.size = none := J1.hok.fresh (Nat.le_refl _)
        obtain ⟨e1, R1, n1⟩ := g_new (o := DfO s1.heap.objs.size) R nD
        have J2 : Inv X pins σ (upd g.H s1.heap.objs.size (DfO s1.heap.objs.size)) { s1 with heap := s1.heap.push { cls := .type "tuple", data := .seq [Value.int 0 tk].toArray }, toks := s1.toks } := by
          refine J1.laid (fun b u e => Heap.get?_push_of_some _ e) (Nat.le_refl _) ?_
          have e : (s1.heap.push ({ cls := .type "tuple", data := .seq [Value.int 0 tk].toArray } : Obj)).get? s1.heap.objs.size = some ({ cls := .type "tuple", data := .seq [Value.int 0 tk].toArray } : Obj) := Heap.get?_push_size _ rfl
          exact ObjOk_ext ⟨tk, e⟩ ⟨_, e⟩ fun h1 h2 ⟨t, z⟩ st => ⟨t, st _ z⟩
        exact lam_tail (g := g.lay s1.heap.objs.size (DfO s1.heap.objs.size)) B R1 J2 h0 (.inr ⟨d1, _, rfl, upd_same, n1⟩) (h.ext e1)
    · exact h.elim
  · exact h.elim
end
end Mi
end part_Mi39
section part_Mi40
set_option maxRecDepth 100000
set_option maxHeartbeats 2000000
/-! Mi, part 40: the cells of a frame, lent and taken back. -/
namespace Mi
open PySem PySem.Spec PyProof.Rows L2
/-! ### abstract heaps -/
def hMinus (H : Hp) (l : List Addr) : Hp := fun b => if b ∈ l then none else H b
def hPlus (H : Hp) (l : List Addr) (h : Heap) : Hp := fun b => if b ∈ l then (h.get? b).map (fun o => HO.frz o (.own 0)) else H b
theorem minus_in {H : Hp} {l : List Addr} {b : Addr} (h : b ∈ l) : hMinus H l b = none := if_pos h
theorem minus_out {H : Hp} {l : List Addr} {b : Addr} (h : b ∉ l) : hMinus H l b = H b := if_neg h
theorem plus_in {H : Hp} {l : List Addr} {h : Heap} {b : Addr} {o : Obj} (hb : b ∈ l) (e : h.get? b = some o) : hPlus H l h b = some (.frz o (.own 0)) := by
  unfold hPlus
  rw [if_pos hb, e] <;> rfl
theorem plus_out {H : Hp} {l : List Addr} {h : Heap} {b : Addr} (hb : b ∉ l) : hPlus H l h b = H b := if_neg hb
section
variable {P : Program} {w : World} {H H' : Hp} {h h' h0 : Heap} {l fs : List Addr}
theorem hok_minus (ok : HOk P w H h) (hl : ∀ c ∈ l, ∃ o, H c = some (.frz o (.own 0))) : HOk P w (hMinus H l) h := fun b o e => by
  by_cases hb : b ∈ l
  · rw [minus_in hb] at e; cases e
  · rw [minus_out hb] at e
    have ne : ∀ (b' : Addr) (u : HO), H b' = some u → (∀ ob, u ≠ .frz ob (.own 0)) → b' ∉ l := fun b' u q n z => by
      obtain ⟨ob, q2⟩ := hl b' z
      rw [q] at q2
      exact n ob (Option.some.inj q2)
    exact (ok b o e).stay (fun _ _ _ q => q) (fun b' q => by rw [minus_out (ne b' _ q fun ob z => by cases z)]; exact q) fun b' xs q => by rw [minus_out (ne b' _ q fun ob z => by cases z)]; exact q
theorem hok_plus (ok : HOk P w H h') (hn : ∀ c ∈ l, H c = none) (hx : ∀ c ∈ l, ∃ o, h0.get? c = some o ∧ h'.get? c = some o) : HOk P w (hPlus H l h0) h' := fun b o e => by
  by_cases hb : b ∈ l
  · obtain ⟨ob, e1, e2⟩ := hx b hb
    rw [plus_in hb e1] at e
    cases e
    exact ⟨e2, ob, e2⟩
  · rw [plus_out hb] at e
    have ne : ∀ (b' : Addr) (u : HO), H b' = some u → b' ∉ l := fun b' u q z => by rw [hn b' z] at q; cases q
    exact (ok b o e).stay (fun _ _ _ q => q) (fun b' q => by rw [plus_out (ne b' _ q)]; exact q) fun b' xs q => by rw [plus_out (ne b' _ q)]; exact q
/-- taken away for a call, behind it laid back -/
theorem un_plus (u : Un fs [] (hMinus H l) H' h h') (hl : ∀ c ∈ l, ∃ o, H c = some (.frz o (.own 0)) ∧ h.get? c = some o) : Un fs [] H (hPlus H' l h) h h' := by
  have out : ∀ (b : Addr), H b = none → b ∉ l := fun b q z => by
    obtain ⟨o, e, _⟩ := hl b z
    rw [q] at e; cases e
  have out2 : ∀ (b : Addr) (v : HO), H b = some v → (∀ ob, v ≠ .frz ob (.own 0)) → b ∉ l := fun b v q n z => by
    obtain ⟨o, e, _⟩ := hl b z
    rw [q] at e
    exact n o (Option.some.inj e)
  refine ⟨fun b o e n => u.keep b o e (by rw [minus_out (out b n)]; exact n), fun b o e n => u.slot b o e (by rw [minus_out (out b n)]; exact n), fun b o e n hx => ?_, u.there, fun b xs q => ?_, fun b ob v q => ?_, fun b ps q => ?_⟩
  · rw [plus_out (out b n)]
    exact u.free b o e (by rw [minus_out (out b n)]; exact n) hx
  · have z := out2 b _ q fun ob z => by cases z
    rw [plus_out z]
    exact u.tups b xs (by rw [minus_out z]; exact q)
  · by_cases z : b ∈ l
    · obtain ⟨o, e1, e2⟩ := hl b z
      rw [q] at e1
      cases e1
      exact plus_in z e2
    · rw [plus_out z]
      exact u.frzs b ob v (by rw [minus_out z]; exact q)
  · have z := out2 b _ q fun ob z => by cases z
    rw [plus_out z]
    exact u.tbls b ps (by rw [minus_out z]; exact q)
/-- lent to a call, behind it taken back -/
theorem un_minus (u : Un fs [] (hPlus H l h) H' h h') (ok : HOk P w H' h') (hn : ∀ c ∈ l, H c = none) (hx : ∀ c ∈ l, ∃ o, h.get? c = some o) : Un fs [] H (hMinus H' l) h h' := by
  have out : ∀ (b : Addr) (v : HO), H b = some v → b ∉ l := fun b v q z => by rw [hn b z] at q; cases q
  have same : ∀ b ∈ l, ∀ o, h.get? b = some o → h'.get? b = some o := fun b z o e => (ok b _ (u.frzs b o (.own 0) (plus_in z e))).1
  refine ⟨fun b o e n hf he => ?_, fun b o e n hf he => ?_, fun b o e n he => ?_, u.there, fun b xs q => ?_, fun b ob v q => ?_, fun b ps q => ?_⟩
  · by_cases z : b ∈ l
    · exact same b z o e
    · exact u.keep b o e (by rw [plus_out z]; exact n) hf he
  · by_cases z : b ∈ l
    · exact ⟨o.slots, same b z o e⟩
    · exact u.slot b o e (by rw [plus_out z]; exact n) hf he
  · by_cases z : b ∈ l
    · exact minus_in z
    · rw [minus_out z]
      exact u.free b o e (by rw [plus_out z]; exact n) he
  · have z := out b _ q
    rw [minus_out z]
    exact u.tups b xs (by rw [plus_out z]; exact q)
  · have z := out b _ q
    rw [minus_out z]
    exact u.frzs b ob v (by rw [plus_out z]; exact q)
  · have z := out b _ q
    rw [minus_out z]
    exact u.tbls b ps (by rw [plus_out z]; exact q)
end
/-! ### the mirror's heap -/
def putAt : MH → Nat → List MO → MH
  | h, _, [] => h
  | h, n, c :: cs => putAt (h.set n c) (n + 1) cs
theorem putAt_len : ∀ (h : MH) (n : Nat) (cs : List MO), (putAt h n cs).length = h.length
  | h, n, [] => rfl
  | h, n, c :: cs => by
    show (putAt (h.set n c) (n + 1) cs).length = _
    rw [putAt_len, List.length_set]
theorem putAt_lt : ∀ (cs : List MO) (h : MH) {n j : Nat}, j < n → (putAt h n cs)[j]? = h[j]?
  | [], h, n, j, _ => rfl
  | c :: cs, h, n, j, l => by
    show (putAt (h.set n c) (n + 1) cs)[j]? = _
    rw [putAt_lt cs _ (by omega), List.getElem?_set_ne (by omega)]
theorem putAt_ge : ∀ (cs : List MO) (h : MH) {n j : Nat}, n + cs.length ≤ j → (putAt h n cs)[j]? = h[j]?
  | [], h, n, j, _ => rfl
  | c :: cs, h, n, j, l => by
    simp only [List.length_cons] at l
    show (putAt (h.set n c) (n + 1) cs)[j]? = _
    rw [putAt_ge cs _ (by omega), List.getElem?_set_ne (by omega)]
theorem putAt_mid : ∀ (cs : List MO) (h : MH) {n i : Nat} {c : MO}, n + i < h.length → cs[i]? = some c → (putAt h n cs)[n + i]? = some c
  | [], h, n, i, c, _, e => by simp at e
  | d :: cs, h, n, 0, c, l, e => by
    simp at e
    subst e
    show (putAt (h.set n d) (n + 1) cs)[n + 0]? = _
    rw [putAt_lt cs _ (by omega), Nat.add_zero, List.getElem?_set_self (by omega)]
  | d :: cs, h, n, i + 1, c, l, e => by
    show (putAt (h.set n d) (n + 1) cs)[n + (i + 1)]? = _
    rw [show n + (i + 1) = (n + 1) + i by omega]
    exact putAt_mid cs _ (by rw [List.length_set]; omega) (by simpa using e)
/-! ### ghosts -/
abbrev adsOf (C : List (Str × Addr)) : List Addr := C.map (·.2)
theorem mem_ads {C : List (Str × Addr)} {a : Addr} : a ∈ adsOf C ↔ ∃ (i : Nat) (y : Str), C[i]? = some (y, a) := by
  unfold adsOf
  rw [List.mem_map]
  constructor
  · rintro ⟨⟨y, b⟩, h, rfl⟩
    obtain ⟨i, hi⟩ := List.mem_iff_getElem?.mp h
    exact ⟨i, y, hi⟩
  · rintro ⟨i, y, h⟩
    exact ⟨(y, a), List.mem_of_getElem? h, rfl⟩
section
variable {K : PySem.W.Frag} {mg : Str → Option Value} {g g' : G} {C : List (Str × Addr)} {n : Nat}
/-- the cells of C are the changeable objects from the n-th on -/
def CelsAt (g : G) (C : List (Str × Addr)) (n : Nat) : Prop := ∀ (i : Nat) y c, C[i]? = some (y, c) → g.rho[n + i]? = some c ∧ ∃ ot, g.h[n + i]? = some (.cel ot)
abbrev deads (C : List (Str × Addr)) : List MO := List.replicate C.length MO.dead
def G.kill (g : G) (C : List (Str × Addr)) (n : Nat) : G := ⟨g.rho, putAt g.h n (deads C), g.pv, hMinus g.H (adsOf C)⟩
theorem in_range {i : Nat} (h : n ≤ i ∧ i < n + C.length) : ∃ y c, C[i - n]? = some (y, c) ∧ n + (i - n) = i := by
  have l : i - n < C.length := by omega
  exact ⟨_, _, List.getElem?_eq_getElem l, by omega⟩
theorem CelsAt.live (F : CelsAt g C n) {i : Nat} {y : Str} {c : Addr} (h : C[i]? = some (y, c)) : g.live (n + i) c := by
  obtain ⟨h1, ot, h2⟩ := F i y c h
  exact ⟨h1, _, h2, by intro e; cases e⟩
theorem CelsAt.len (R : Rel K mg g) (F : CelsAt g C n) : C = [] ∨ n + C.length ≤ g.h.length := by
  cases C with
  | nil => exact .inl rfl
  | cons d C =>
    refine .inr ?_
    have l : C.length < (d :: C).length := by simp
    obtain ⟨h1, _, h2⟩ := F C.length _ _ (List.getElem?_eq_getElem l)
    have := (List.getElem?_eq_some_iff.mp h2).1
    simp only [List.length_cons]
    omega
theorem kill_live (R : Rel K mg g) (F : CelsAt g C n) {i : Nat} {a : Addr} (h : (g.kill C n).live i a) : g.live i a ∧ a ∉ adsOf C := by
  obtain ⟨h1, o, h2, h3⟩ := h
  have h2' : (putAt g.h n (deads C))[i]? = some o := h2
  have nr : ¬ (n ≤ i ∧ i < n + C.length) := fun r => by
    obtain ⟨y, c, e, ei⟩ := in_range r
    have l : n + (i - n) < g.h.length := by
      obtain ⟨_, _, z⟩ := F _ _ _ e
      exact (List.getElem?_eq_some_iff.mp z).1
    have q := putAt_mid (deads C) g.h (i := i - n) (c := MO.dead) l (by
      unfold deads
      rw [List.getElem?_replicate, if_pos (by omega)])
    rw [ei, h2'] at q
    exact h3 (Option.some.inj q)
  have e : (putAt g.h n (deads C))[i]? = g.h[i]? := by
    by_cases l : i < n
    · exact putAt_lt _ _ l
    · refine putAt_ge _ _ ?_
      unfold deads
      rw [List.length_replicate]; omega
  rw [e] at h2'
  have li : g.live i a := ⟨h1, o, h2', h3⟩
  refine ⟨li, fun z => ?_⟩
  obtain ⟨j, y, hj⟩ := mem_ads.mp z
  have ej := R.inj i (n + j) a li (F.live hj)
  have := (List.getElem?_eq_some_iff.mp hj).1
  exact nr ⟨by omega, by omega⟩
theorem CelsAt.hid (F : CelsAt g C n) {a : Addr} (h : a ∈ adsOf C) : g.hid a := by
  obtain ⟨i, y, hi⟩ := mem_ads.mp h
  obtain ⟨h1, o, h2, h3⟩ := F.live hi
  exact .inr ⟨_, o, h1, h2, h3⟩
theorem kill_ok (R : Rel K mg g) (F : CelsAt g C n) : Sub g (g.kill C n) ∧ Rel K mg (g.kill C n) := by
  have hid : ∀ a, (g.kill C n).hid a → g.hid a := by
    rintro a (z | ⟨i, o, z1, z2, z3⟩)
    · exact .inl z
    · obtain ⟨⟨h1, o', h2, h3⟩, _⟩ := kill_live R F (i := i) (a := a) ⟨z1, o, z2, z3⟩
      exact .inr ⟨i, o', h1, h2, h3⟩
  have hs : Sub g (g.kill C n) := ⟨fun _ _ h => h, fun a o h m => ⟨by
    show hMinus g.H (adsOf C) a = some o
    rw [minus_out fun z => m (F.hid z)]; exact h, fun z => m (hid a z)⟩⟩
  refine ⟨hs, ?_, fun i j a z1 z2 => R.inj i j a (kill_live R F z1).1 (kill_live R F z2).1, fun a ha i z => R.npv a ha i (kill_live R F z).1, fun a ha => ?_, fun i a z => ?_, fun i a o z1 z2 => ?_⟩
  · show g.rho.length = (putAt g.h n (deads C)).length
    rw [putAt_len]; exact R.len
  · obtain ⟨u, e⟩ := R.pvt a ha
    refine ⟨u, ?_⟩
    show hMinus g.H (adsOf C) a = some u
    rw [minus_out fun z => ?_]; exact e
    obtain ⟨i, y, hi⟩ := mem_ads.mp z
    exact R.npv a ha _ (F.live hi)
  · obtain ⟨l, m⟩ := kill_live R F z
    obtain ⟨u, e⟩ := R.tr i a l
    exact ⟨u, by show hMinus g.H (adsOf C) a = some u; rw [minus_out m]; exact e⟩
  · by_cases wd : o = MO.dead
    · subst wd; trivial
    obtain ⟨⟨h1, o', h2, h3⟩, m⟩ := kill_live R F (i := i) (a := a) ⟨z1, o, z2, wd⟩
    have z2' : (putAt g.h n (deads C))[i]? = some o := z2
    have e : (putAt g.h n (deads C))[i]? = g.h[i]? := by
      by_cases l : i < n
      · exact putAt_lt _ _ l
      · by_cases r : i < n + C.length
        · obtain ⟨y, c, e, ei⟩ := in_range (n := n) (C := C) (i := i) ⟨by omega, r⟩
          have q := putAt_mid (deads C) g.h (i := i - n) (c := MO.dead) (by rw [ei]; exact (List.getElem?_eq_some_iff.mp h2).1) (by
            unfold deads
            rw [List.getElem?_replicate, if_pos (by omega)])
          rw [ei, z2'] at q
          exact absurd (Option.some.inj q) wd
        · refine putAt_ge _ _ ?_
          unfold deads
          rw [List.length_replicate]; omega
    rw [e] at z2'
    exact (R.obj i a o h1 z2').sub hs fun u hu => by
      show hMinus g.H (adsOf C) a = some u
      rw [minus_out m]; exact hu
/-- behind the call the cells are laid back -/
def G.back (g' : G) (C : List (Str × Addr)) (n : Nat) (cs : List MO) (h0 : Heap) : G := ⟨g'.rho, putAt g'.h n cs, g'.pv, hPlus g'.H (adsOf C) h0⟩
theorem back_ok {cs : List MO} {h0 : Heap} (R : Rel K mg g) (F : CelsAt g C n) (hcs : cs.length = C.length) (hc : ∀ i < C.length, cs[i]? = g.h[n + i]?) (h0h : ∀ c ∈ adsOf C, ∀ o, g.H c = some (.frz o (.own 0)) → h0.get? c = some o)
    (R' : Rel K mg g') (e : Ext (g.kill C n) g') (hn : ∀ c ∈ adsOf C, g'.H c = none) : Ext g (g'.back C n cs h0) ∧ Rel K mg (g'.back C n cs h0) ∧ Sub g' (g'.back C n cs h0) := by
  have rho' : ∀ (i : Nat) y c, C[i]? = some (y, c) → g'.rho[n + i]? = some c := fun i y c h => e.rho _ _ (F i y c h).1
  have len' : ∀ (i : Nat) y c, C[i]? = some (y, c) → n + i < g'.h.length := fun i y c h => by
    rw [← R'.len]
    exact (List.getElem?_eq_some_iff.mp (rho' i y c h)).1
  have out' : ∀ (i : Nat) a, g'.live i a → a ∉ adsOf C := fun i a h z => by
    obtain ⟨u, q⟩ := R'.tr i a h
    rw [hn a z] at q; cases q
  have frz : ∀ c ∈ adsOf C, ∃ o, g.H c = some (.frz o (.own 0)) ∧ h0.get? c = some o := fun c hm => by
    obtain ⟨i, y, hi⟩ := mem_ads.mp hm
    obtain ⟨h1, ot, h2⟩ := F i y c hi
    obtain ⟨o, u, q, _⟩ := R.obj _ _ _ h1 h2
    exact ⟨o, q, h0h c hm o q⟩
  have get : ∀ (i : Nat) (o : MO), (putAt g'.h n cs)[i]? = some o → (∃ y c, C[i - n]? = some (y, c) ∧ n + (i - n) = i ∧ g.h[i]? = some o) ∨ g'.h[i]? = some o := fun i o h => by
    by_cases l : i < n
    · rw [putAt_lt _ _ l] at h; exact .inr h
    · by_cases r : i < n + C.length
      · obtain ⟨y, c, e1, ei⟩ := in_range (n := n) (C := C) (i := i) ⟨by omega, r⟩
        have q := hc (i - n) (by omega)
        rw [ei] at q
        obtain ⟨ot, q2⟩ := (F _ _ _ e1).2
        rw [ei] at q2
        have q3 := putAt_mid cs g'.h (i := i - n) (c := MO.cel ot) (len' _ _ _ e1) (by rw [q]; exact q2)
        rw [ei, h] at q3
        exact .inl ⟨y, c, e1, ei, by rw [q2]; exact q3.symm⟩
      · rw [putAt_ge _ _ (by omega)] at h; exact .inr h
  have lv : ∀ (i : Nat) a, (g'.back C n cs h0).live i a → (a ∈ adsOf C ∧ g.live i a) ∨ (g'.live i a ∧ a ∉ adsOf C) := by
    rintro i a ⟨z1, o, z2, z3⟩
    rcases get i o z2 with ⟨y, c, e1, ei, q⟩ | q
    · have z1' : g'.rho[i]? = some a := z1
      have q1 := rho' _ _ _ e1
      rw [ei, z1'] at q1
      cases q1
      have l := F.live e1
      rw [ei] at l
      exact .inl ⟨mem_ads.mpr ⟨_, y, e1⟩, l⟩
    · have l : g'.live i a := ⟨z1, o, q, z3⟩
      exact .inr ⟨l, out' i a l⟩
  have hid' : ∀ a, a ∉ adsOf C → (g'.back C n cs h0).hid a → g'.hid a := by
    rintro a m (z | ⟨i, o, z1, z2, z3⟩)
    · exact .inl z
    · rcases lv i a ⟨z1, o, z2, z3⟩ with ⟨q, _⟩ | ⟨⟨h1, o', h2, h3⟩, _⟩
      · exact absurd q m
      · exact .inr ⟨i, o', h1, h2, h3⟩
  have s1 : Sub g' (g'.back C n cs h0) := ⟨fun _ _ h => h, fun a o h m => by
    have z : a ∉ adsOf C := fun z => by rw [hn a z] at h; cases h
    exact ⟨by show hPlus g'.H (adsOf C) h0 a = some o; rw [plus_out z]; exact h, fun q => m (hid' a z q)⟩⟩
  have s0 : Sub g (g'.back C n cs h0) := ⟨fun i a h => e.rho i a h, fun a o h m => by
    obtain ⟨k1, k2⟩ := (kill_ok R F).1.keep a o h m
    obtain ⟨k3, k4⟩ := e.keep a o k1 k2
    exact s1.keep a o k3 k4⟩
  have pvo : ∀ a ∈ g'.pv, a ∉ adsOf C := fun a ha z => by
    obtain ⟨i, y, hi⟩ := mem_ads.mp z
    rw [e.pv] at ha
    exact R.npv a ha _ (F.live hi)
  refine ⟨⟨s0.rho, e.pv, fun a ha => ?_, s0.keep⟩, ⟨?_, fun i j a z1 z2 => ?_, fun a ha i z => ?_, fun a ha => ?_, fun i a z => ?_, fun i a o z1 z2 => ?_⟩, s1⟩
  · have z : a ∉ adsOf C := pvo a (by rw [e.pv]; exact ha)
    show hPlus g'.H (adsOf C) h0 a = g.H a
    rw [plus_out z, e.pvk a ha]
    exact minus_out z
  · show g'.rho.length = (putAt g'.h n cs).length
    rw [putAt_len]; exact R'.len
  · rcases lv i a z1 with ⟨p1, q1⟩ | ⟨p1, q1⟩ <;> rcases lv j a z2 with ⟨p2, q2⟩ | ⟨p2, q2⟩
    · exact R.inj i j a q1 q2
    · exact absurd p1 q2
    · exact absurd p2 q1
    · exact R'.inj i j a p1 p2
  · have z' := pvo a ha
    rcases lv i a z with ⟨p, _⟩ | ⟨p, _⟩
    · exact z' p
    · exact R'.npv a ha i p
  · obtain ⟨u, q⟩ := R'.pvt a ha
    exact ⟨u, by show hPlus g'.H (adsOf C) h0 a = some u; rw [plus_out (pvo a ha)]; exact q⟩
  · rcases lv i a z with ⟨p, _⟩ | ⟨p, q⟩
    · obtain ⟨o, _, e2⟩ := frz a p
      exact ⟨_, plus_in p e2⟩
    · obtain ⟨u, r⟩ := R'.tr i a p
      exact ⟨u, by show hPlus g'.H (adsOf C) h0 a = some u; rw [plus_out q]; exact r⟩
  · rcases get i o z2 with ⟨y, c, e1, ei, q⟩ | q
    · have z1' : g'.rho[i]? = some a := z1
      have q1 := rho' _ _ _ e1
      rw [ei, z1'] at q1
      cases q1
      have m : a ∈ adsOf C := mem_ads.mpr ⟨_, y, e1⟩
      obtain ⟨h1, ot, h2⟩ := F _ _ _ e1
      rw [ei] at h1 h2
      rw [q] at h2
      cases h2
      obtain ⟨ob, u, k1, k2, k3⟩ := R.obj _ _ _ h1 q
      exact ⟨ob, u, plus_in m (h0h a m ob k1), k2, fun t z => let ⟨v, u', w1, w2, w3⟩ := k3 t z; ⟨v, u', w1, w2, Rep.sub s0 t v w3⟩⟩
    · by_cases wd : o = MO.dead
      · subst wd; trivial
      have m := out' i a ⟨z1, o, q, wd⟩
      exact (R'.obj i a o z1 q).sub s1 fun u hu => by
        show hPlus g'.H (adsOf C) h0 a = some u
        rw [plus_out m]; exact hu
end
end Mi
end part_Mi40
section part_Mi41
set_option maxRecDepth 100000
set_option maxHeartbeats 2000000
/-! Mi, part 41: a lambda is called. -/
namespace Mi
open PySem PySem.Spec PyProof.Rows L2
/-- a lambda's mirror: its words, the names that it captures, their places among the maker's cells; on what they hold -/
structure LamE where
  I : LamI
  fr : List Str
  js : List Nat
  m : MF
def celVal (h : MH) (n j : Nat) : Option T := match (h[n + j]? : Option MO) with
  | some (.cel (some t)) => some t
  | _ => none
def celVals (h : MH) (n : Nat) : List Nat → Option (List T)
  | [] => some []
  | j :: js => match celVal h n j with
    | some t => match celVals h n js with
      | some ts => some (t :: ts)
      | none => none
    | none => none
def isCel (h : MH) (j : Nat) : Bool := match (h[j]? : Option MO) with
  | some (.cel _) => true
  | _ => false
def allCel (h : MH) (n m : Nat) : Bool := (List.range m).all fun i => isCel h (n + i)
/-- what is asked of the cells' names -/
def okC (C : List (Str × Addr)) (fr : List Str) (js : List Nat) : Bool := decide (C.map (·.1)).Nodup && decide (js.map (fun j => (C[j]?).map (·.1)) = fr.map some)
def actM (e : LamE) (C : List (Str × Addr)) (n : Nat) (h : MH) : R := if okC C e.fr e.js && allCel h n C.length then
    match celVals h n e.js with
    | some ts => match e.m ts (putAt h n (deads C)) with
      | .ok t h2 => .ok t (putAt h2 n ((h.drop n).take C.length))
      | .ex x h2 => .ex x (putAt h2 n ((h.drop n).take C.length))
      | .stuck => .stuck
    | none => .stuck
  else .stuck
open Classical in
noncomputable def actR (tab : List LamE) (k : Nat) (I : LamI) (C : List (Str × Addr)) (n : Nat) (h : MH) : R := match (tab[k]? : Option LamE) with
  | some e => if e.I = I then actM e C n h else .stuck
  | none => .stuck
noncomputable def mAct (tab : List LamE) (i : Nat) : ME := fun s h => match s[i]? with
  | some (some (.fnc k I C n)) => actR tab k I C n h
  | _ => .stuck
theorem allCel_at {h : MH} {n m i : Nat} (a : allCel h n m = true) (l : i < m) : ∃ ot, h[n + i]? = some (.cel ot) := by
  unfold allCel at a
  rw [List.all_eq_true] at a
  have z := a i (List.mem_range.mpr l)
  unfold isCel at z
  split at z
  · rename_i ot q; exact ⟨ot, q⟩
  · cases z
theorem lookup_at : ∀ {C : List (Str × Addr)} {j : Nat} {y : Str} {c : Addr}, (C.map (·.1)).Nodup → C[j]? = some (y, c) → C.lookup y = some c
  | [], j, y, c, _, e => by simp at e
  | (z, d) :: C, 0, y, c, nd, e => by
    simp at e
    obtain ⟨rfl, rfl⟩ := e
    simp [List.lookup]
  | (z, d) :: C, j + 1, y, c, nd, e => by
    have e' : C[j]? = some (y, c) := by simpa using e
    rw [List.map_cons, List.nodup_cons] at nd
    have ne : y ≠ z := fun q => nd.1 (by rw [← q]; exact List.mem_map.mpr ⟨(y, c), List.mem_of_getElem? e', rfl⟩)
    rw [List.lookup_cons, show (y == z) = false from by simpa using ne]
    exact lookup_at nd.2 e'
section
variable {P : Program} {w : World} {K : PySem.W.Frag} {mg : Str → Option Value} {base : Heap} {g g' : G}
/-- what a lambda promises; the maker's cells are not tracked while it runs -/
structure LOk (P : Program) (w : World) (K : PySem.W.Frag) (mg : Str → Option Value) (base : Heap) (k : Nat) (e : LamE) : Prop where
  frk : ∀ y ∈ e.fr, (y, NameKind.free) ∈ e.I.scope.names
  run : ∀ (A : Around) (outer : List Env) (s : Shared) (g : G) (f c' : Addr) (dv : Value) (C : List (Str × Addr)) (ts : List T) (vs : List V) (Q : VK) (E : XK), Room k A → Env0 P w K mg base A outer s g.H → Rel K mg g → RepL K mg g ts vs →
    g.H f = some (LamO f e.I C c' dv) → g.H c' = some (LamX.CodeO c' e.I.q) → ((e.I.dflt = false ∧ dv = .none) ∨ (e.I.dflt = true ∧ ∃ dt, dv = .ref dt ∧ g.H dt = some (DfO dt))) →
    NdefX.CellsAt (cloFrom C e.I.scope.names []) e.fr (vs.map some) s.heap g.H → wpD K mg g Q E (e.m ts g.h) → codeAny (model P w) A (.call (.ref f) ⟨[], []⟩) (CR (L2.CX P w) outer P w g.H s Q E) s
theorem cel_vals {s : Heap} {C : List (Str × Addr)} {n : Nat} (R : Rel K mg g) (F : CelsAt g C n) (ok : HOk P w g.H s) : ∀ {js : List Nat} {ts : List T}, celVals g.h n js = some ts → ∃ vs, RepL K mg g ts vs ∧ vs.length = js.length ∧ ∀ (i j : Nat) y c v, js[i]? = some j → C[j]? = some (y, c) → vs[i]? = some v → ∃ u, RelV v u ∧ s.IsCell c (some u)
  | [], ts, h => by
    simp only [celVals, Option.some.injEq] at h
    subst h
    exact ⟨[], RepL.nil, rfl, fun i j y c v h => by simp at h⟩
  | j :: js, ts, h => by
    unfold celVals at h
    split at h
    · rename_i t q
      split at h
      · rename_i ts' q2
        cases h
        obtain ⟨vs, r, l, hv⟩ := cel_vals R F ok q2
        unfold celVal at q
        split at q
        · rename_i t' q3
          cases q
          have hr : ∃ a, g.rho[n + j]? = some a := by
            have := (List.getElem?_eq_some_iff.mp q3).1
            exact ⟨_, List.getElem?_eq_getElem (by rw [R.len]; exact this)⟩
          obtain ⟨a, ha⟩ := hr
          obtain ⟨o, u, e1, e2, e3⟩ := R.obj _ _ _ ha q3
          obtain ⟨v, u', rfl, rv, rt⟩ := e3 t rfl
          refine ⟨v :: vs, RepL.cons rt r, by simp [l], fun i j' y c w h1 h2 h3 => ?_⟩
          cases i with
          | zero =>
            simp at h1 h3
            subst h1 h3
            have q4 := (F _ _ _ h2).1
            rw [ha] at q4
            cases q4
            exact ⟨u', rv, o, (ok _ _ e1).1, e2⟩
          | succ i => exact hv i j' y c w (by simpa using h1) h2 (by simpa using h3)
        · cases q
      · cases h
    · cases h
theorem RepX.sub (e : Sub g g') {x : Exc} {cls : Value} {d : Option Addr} (h : RepX K mg g x cls d) : RepX K mg g' x cls d := by
  obtain ⟨C, da, fs, e1, e2, e3, ⟨h1, n⟩, e4, h2⟩ := h
  exact ⟨C, da, fs, e1, e2, e3, e.keep _ _ h1 n, e4, h2.sub e⟩
theorem ub_plus {H H' : Hp} {h B h' : Heap} {l fs : List Addr} (u : UB fs (hMinus H l) H' h B h') (hl : ∀ c ∈ l, ∃ o, H c = some (.frz o (.own 0)) ∧ h.get? c = some o) : UB fs H (hPlus H' l h) h B h' := by
  have out : ∀ (b : Addr), H b = none → b ∉ l := fun b q z => by
    obtain ⟨o, e, _⟩ := hl b z
    rw [q] at e; cases e
  have out2 : ∀ (b : Addr) (v : HO), H b = some v → (∀ ob, v ≠ .frz ob (.own 0)) → b ∉ l := fun b v q n z => by
    obtain ⟨o, e, _⟩ := hl b z
    rw [q] at e
    exact n o (Option.some.inj e)
  refine ⟨fun b o e n => u.keep b o e (by rw [minus_out (out b n)]; exact n), u.slot, fun b o e n => ?_, u.there, fun b xs q => ?_, fun b ob v q => ?_, fun b ps q => ?_⟩
  · rw [plus_out (out b n)]
    exact u.free b o e (by rw [minus_out (out b n)]; exact n)
  · have z := out2 b _ q fun ob z => by cases z
    rw [plus_out z]
    exact u.tups b xs (by rw [minus_out z]; exact q)
  · by_cases z : b ∈ l
    · obtain ⟨o, e1, e2⟩ := hl b z
      rw [q] at e1
      cases e1
      exact plus_in z e2
    · rw [plus_out z]
      exact u.frzs b ob v (by rw [minus_out z]; exact q)
  · have z := out2 b _ q fun ob z => by cases z
    rw [plus_out z]
    exact u.tbls b ps (by rw [minus_out z]; exact q)
end
section
variable {X : Cx} {W : WX} {tab : List LamE} {i k : Nat} {a : Str} {p1 p2 : Pos}
/-- a(), a's value is one of the lambdas of the table -/
theorem se_act (hT : ∀ e ∈ tab, LOk X.prog X.w X.K X.mg X.base k e) (hr : Room k X.A) (tk : Takes X W) (hN : X.N[i]? = some a := by rfl) (hv : Vis X.env.scope a := by first | exact Or.inl rfl | exact Or.inr (Or.inl rfl) | exact Or.inr (Or.inr rfl))
    (hd : (a == ("__debug__" : Str)) = false := by decide) (hcd : (a == ("__classdict__" : Str)) = false := by decide) : SE X W (.Call (.Name a p1) [] [] p2) (mAct tab i) := by
  refine ⟨fun pins s σ H Q J h => ?_⟩
  obtain ⟨g, sm, rfl, R, S, h⟩ := h
  unfold mAct at h
  split at h
  case h_2 => exact h.elim
  rename_i kk I C n hs
  unfold actR at h
  split at h
  case h_2 => exact h.elim
  rename_i e he
  split at h
  case isFalse => exact h.elim
  rename_i eI
  subst eI
  unfold actM at h
  split at h
  case isFalse => exact h.elim
  rename_i hok
  rw [Bool.and_eq_true] at hok
  obtain ⟨okc, oka⟩ := hok
  split at h
  case h_2 => exact h.elim
  rename_i ts hts
  obtain ⟨v, hσ, rv⟩ := S.2 i _ hs
  simp only [Rep] at rv
  obtain ⟨⟨f, c', dv, rfl, ⟨hf, nf⟩, ⟨hc, nc⟩, hdv, hfree⟩, hrho⟩ := rv
  have F : CelsAt g C n := fun i y c hc => ⟨hrho i y c hc, allCel_at oka (List.getElem?_eq_some_iff.mp hc).1⟩
  unfold okC at okc
  rw [Bool.and_eq_true, decide_eq_true_eq, decide_eq_true_eq] at okc
  obtain ⟨ndC, hjs⟩ := okc
  have L := hT e (List.mem_of_getElem? he)
  refine wpAny_Call_Name_kw (thn ((pe_var (pos := p1) (i := i) hN hv hd hcd).run pins s σ g.H (fun v H1 => v = .ref f ∧ H1 = g.H) J ⟨.ref f, hσ, rfl, rfl⟩) fun u s1 ⟨v, H1, I1, r1, q1⟩ => ?_)
  obtain ⟨ev, eH⟩ := q1
  subst ev
  rw [eH] at I1
  obtain rfl : u = Value.ref f := r1
  have of1 : PySem.W.FnAt f s1.heap := by
    obtain ⟨⟨od, sl, pm, ctv, z⟩, _, _⟩ := I1.hok f _ hf
    exact ⟨_, od, _, sl, z⟩
  refine PySem.W.callWith_F0 (first := []) of1 ?_
  show wpAny _ _ (call (.ref f) []) _ _ _
  obtain ⟨sk, Rk⟩ := kill_ok R F
  obtain ⟨vs, rvs, lvs, hvs⟩ := cel_vals R F I1.hok hts
  have frz : ∀ c ∈ adsOf C, ∃ o, g.H c = some (.frz o (.own 0)) ∧ s1.heap.get? c = some o ∧ ∃ u, o.data = .cell u := fun c hm => by
    obtain ⟨i, y, hi⟩ := mem_ads.mp hm
    obtain ⟨h1, ot, h2⟩ := F i y c hi
    obtain ⟨o, u, q, qd, _⟩ := R.obj _ _ _ h1 h2
    exact ⟨o, q, (I1.hok c _ q).1, u, qd⟩
  have frz2 : ∀ c ∈ adsOf C, ∃ o, g.H c = some (.frz o (.own 0)) ∧ s1.heap.get? c = some o := fun c hm => let ⟨o, a, b, _⟩ := frz c hm; ⟨o, a, b⟩
  have out : ∀ b, ¬ g.hid b → b ∉ adsOf C := fun b nb z => nb (F.hid z)
  have nofr : ∀ c ∈ adsOf C, c ∉ frs X.stack := fun c hm z => by
    obtain ⟨o, q, _⟩ := frz2 c hm
    rw [I1.stkFree c z] at q; cases q
  have e0 : Env0 X.prog X.w X.K X.mg X.base X.A X.stack s1 (g.kill C n).H := by
    have e := I1.env0
    have none_ : ∀ b, g.H b = none → hMinus g.H (adsOf C) b = none := fun b q => by
      unfold hMinus
      split
      · rfl
      · exact q
    exact ⟨e.frames, e.mod, fun b o q => ⟨(e.bs b o q).1, none_ b (e.bs b o q).2⟩, e.bsz, e.funs, fun b hb => none_ b (e.frf b hb), hok_minus e.hok fun c hm => let ⟨o, q, _⟩ := frz2 c hm; ⟨o, q⟩, e.bare⟩
  have lk : ∀ {y c}, C.lookup y = some c → c ∈ adsOf C := fun {y c} q => List.mem_map.mpr ⟨(y, c), PySem.mem_of_lookup q, rfl⟩
  have CA : NdefX.CellsAt (cloFrom C e.I.scope.names []) e.fr (vs.map some) s1.heap (g.kill C n).H := by
    have ljs : e.js.length = e.fr.length := by simpa using congrArg List.length hjs
    refine ⟨by rw [List.length_map, lvs, ljs], fun y c q => ?_, fun x y c q1 q2 => ?_, fun j y q => ?_⟩
    · have m := lk (NdefX.clo_cm hfree q)
      obtain ⟨o, _, z, u, zd⟩ := frz c m
      exact ⟨minus_in m, u, o, z, zd⟩
    · obtain ⟨i1, h1⟩ := List.mem_iff_getElem?.mp (PySem.mem_of_lookup (NdefX.clo_cm hfree q1))
      obtain ⟨i2, h2⟩ := List.mem_iff_getElem?.mp (PySem.mem_of_lookup (NdefX.clo_cm hfree q2))
      have := R.inj _ _ c (F.live h1) (F.live h2)
      have e3 : i1 = i2 := by omega
      subst e3
      rw [h1] at h2
      cases h2
      rfl
    · have hj : (e.js.map fun j => (C[j]?).map (·.1))[j]? = some (some y) := by
        rw [hjs, List.getElem?_map, q] <;> rfl
      rw [List.getElem?_map] at hj
      cases ej : e.js[j]? with
      | none => rw [ej] at hj; cases hj
      | some j' =>
        rw [ej] at hj
        have hj : (C[j']?).map (·.1) = some y := Option.some.inj (show some ((C[j']?).map (·.1)) = some (some y) from hj)
        cases eC : C[j']? with
        | none => rw [eC] at hj; cases hj
        | some yc =>
          obtain ⟨y', c⟩ := yc
          rw [eC] at hj
          cases hj
          refine ⟨c, NdefX.clo_has hfree (L.frk y' (List.mem_of_getElem? q)) (lookup_at ndC eC), fun v hv => ?_⟩
          rw [List.getElem?_map] at hv
          cases ev : vs[j]? with
          | none => rw [ev] at hv; cases hv
          | some v' =>
            rw [ev] at hv
            cases hv
            exact hvs j j' y' c v ej eC ev
  have kp : ∀ b o, g.H b = some o → ¬ g.hid b → (g.kill C n).H b = some o := fun b o q nb => (sk.keep b o q nb).1
  have rc := L.run X.A X.stack s1 (g.kill C n) f c' dv C ts vs
    (fun v H' => ∃ g' t h2, e.m ts (g.kill C n).h = .ok t h2 ∧ g'.H = H' ∧ g'.h = h2 ∧ Ext (g.kill C n) g' ∧ Rel X.K X.mg g' ∧ Rep X.K X.mg g' t v)
    (fun cls d H' => ∃ g' x h2, e.m ts (g.kill C n).h = .ex x h2 ∧ g'.H = H' ∧ g'.h = h2 ∧ Ext (g.kill C n) g' ∧ Rel X.K X.mg g' ∧ RepX X.K X.mg g' x cls d)
    hr e0 Rk (rvs.sub sk) (kp _ _ hf nf) (kp _ _ hc nc) (hdv.imp id fun ⟨z, dt, z1, z2, z3⟩ => ⟨z, dt, z1, kp _ _ z2 z3⟩) CA (by
      cases q : e.m ts (g.kill C n).h with
      | ok t h2 => exact fun g' v e1 e2 R' r' => ⟨g', t, h2, rfl, rfl, e1, e2, R', r'⟩
      | ex x h2 => exact fun g' cls d e1 e2 R' r' => ⟨g', x, h2, rfl, rfl, e1, e2, R', r'⟩
      | stuck =>
        have q' : e.m ts (putAt g.h n (deads C)) = .stuck := q
        rw [q'] at h
        exact h.elim)
  have hcs : ((g.h.drop n).take C.length).length = C.length := by
    rcases CelsAt.len R F with z | z
    · subst z; simp
    · rw [List.length_take, List.length_drop]; omega
  have hcv : ∀ i < C.length, ((g.h.drop n).take C.length)[i]? = g.h[n + i]? := fun i l => by
    rw [List.getElem?_take_of_lt l, List.getElem?_drop]
  refine wpAny_call (codeAny_mono rc fun r s' hq => ?_)
  cases r with
  | error ee =>
    obtain ⟨ea, B, H', cls, d, rfl, fl, hokB, ub, na, os, ag, g', x, h2, em, rfl, eh, ex, R', r'⟩ := hq
    have em' : e.m ts (putAt g.h n (deads C)) = .ex x h2 := em
    rw [em'] at h
    have hnone : ∀ c ∈ adsOf C, g'.H c = none := fun c hm => by
      obtain ⟨o, _, z⟩ := frz2 c hm
      exact ub.free c o z (minus_in hm)
    obtain ⟨x1, x2, x3⟩ := back_ok (cs := (g.h.drop n).take C.length) (h0 := s1.heap) R F hcs hcv (fun c _ o q => (I1.hok c _ q).1) R' ex hnone
    have keepB : ∀ c ∈ adsOf C, ∃ o, s1.heap.get? c = some o ∧ B.get? c = some o := fun c hm => by
      obtain ⟨o, _, z⟩ := frz2 c hm
      exact ⟨o, z, ub.keep c o z (minus_in hm) (nofr c hm)⟩
    have na2 : ea ∉ adsOf C := fun z => by
      obtain ⟨o, _, q⟩ := keepB ea z
      rw [fl.2.1] at q; cases q
    refine passAt tk σ pins g.H s1 _ s' I1 ⟨ea, B, hPlus g'.H (adsOf C) s1.heap, cls, d, rfl, fl, hok_plus hokB hnone keepB, ub_plus ub frz2, by rw [plus_out na2]; exact na, os, ag, ?_⟩
    subst eh
    exact h (g'.back C n ((g.h.drop n).take C.length) s1.heap) cls d rfl x1 x2 (RepX.sub x3 r')
  | ok fl =>
    cases fl with
    | ret u =>
      obtain ⟨v, H', os, bare, un, hok', rv, g', t, h2, em, rfl, eh, ex, R', r'⟩ := hq
      have em' : e.m ts (putAt g.h n (deads C)) = .ok t h2 := em
      rw [em'] at h
      have hnone : ∀ c ∈ adsOf C, g'.H c = none := fun c hm => by
        obtain ⟨o, _, z⟩ := frz2 c hm
        exact un.free c o z (minus_in hm) (by simp)
      obtain ⟨x1, x2, x3⟩ := back_ok (cs := (g.h.drop n).take C.length) (h0 := s1.heap) R F hcs hcv (fun c _ o q => (I1.hok c _ q).1) R' ex hnone
      have keep : ∀ c ∈ adsOf C, ∃ o, s1.heap.get? c = some o ∧ s'.heap.get? c = some o := fun c hm => by
        obtain ⟨o, _, z⟩ := frz2 c hm
        exact ⟨o, z, un.keep c o z (minus_in hm) (nofr c hm) (by simp)⟩
      subst eh
      exact I1.after ⟨v, hPlus g'.H (adsOf C) s1.heap, os, bare, un_plus un frz2, hok_plus hok' hnone keep, rv, h (g'.back C n ((g.h.drop n).take C.length) s1.heap) v rfl x1 x2 (Rep.sub x3 t v r')⟩
    | next => exact False.elim hq
    | brk => exact False.elim hq
    | cont => exact False.elim hq
end
end Mi
end part_Mi41
section part_Mi42
set_option maxRecDepth 100000
set_option maxHeartbeats 2000000
/-! Mi, part 42: a lambda's promise by its body. -/
namespace Mi
open PySem PySem.Spec PyProof.Rows L2
/-- the mirror of a lambda: np parameters (each holds 0), then what it captures, then its own names -/
def mLamF (np N : Nat) (me : ME) : MF := fun ts h => me (List.replicate np (some (.int 0)) ++ (ts.map some ++ List.replicate (N - np - ts.length) none)) h
section
variable {K : PySem.W.Frag} {mg : Str → Option Value} {g : G}
theorem repS_lam {N : List Str} {np : Nat} {ts : List T} {vs : List V} (r : RepL K mg g ts vs) : RepS K mg g (List.replicate np (some (.int 0)) ++ (ts.map some ++ List.replicate (N.length - np - ts.length) none)) (NdefX.startF N (List.replicate np (.int 0)) (vs.map some)) := by
  unfold NdefX.startF
  refine ⟨by simp only [List.length_append, List.length_map, List.length_replicate, r.length], fun i t h => ?_⟩
  by_cases l : i < np
  · rw [List.getElem?_append_left (by simpa using l), List.getElem?_replicate, if_pos l] at h
    cases h
    rw [List.getElem?_append_left (by simpa using l), List.getElem?_map, List.getElem?_replicate, if_pos l]
    exact ⟨.int 0, rfl, by simp only [Rep]⟩
  · rw [List.getElem?_append_right (by simpa using Nat.le_of_not_lt l), List.length_replicate] at h
    have ll : (List.map some (List.replicate np (V.int 0))).length = np := by simp
    rw [List.getElem?_append_right (by simpa using Nat.le_of_not_lt l), ll]
    by_cases l2 : i - np < ts.length
    · rw [List.getElem?_append_left (by simpa using l2), List.getElem?_map] at h
      rw [List.getElem?_append_left (by rw [List.length_map, ← r.length]; exact l2), List.getElem?_map]
      cases q : ts[i - np]? with
      | none => rw [q] at h; cases h
      | some u =>
        rw [q] at h
        have h : some (some u) = some (some t) := h
        cases h
        obtain ⟨v, e, rv⟩ := r.get q
        exact ⟨v, by rw [e]; rfl, rv⟩
    · rw [List.getElem?_append_right (by simpa using Nat.le_of_not_lt l2)] at h
      have := List.mem_of_getElem? h
      simp at this
end
/-- the bare function of a lambda, for its context -/
abbrev lamNF (e : LamE) (C : List (Str × Addr)) (c' : Addr) : NdefX.NF := ⟨"<lambda>", e.I.q, e.I.params, [], e.I.scope, cloFrom C e.I.scope.names [], c'⟩
/-- how its parameters are bound: none, or the one that has the default 0 -/
def lamBinds (I : LamI) (ps : List Str) : Prop :=
  (I.dflt = false ∧ ps = [] ∧ ∀ (C : List (Str × Addr)) (c' : Addr) (pm ctv : Value), bindArgs (lamFd I C c' .none pm ctv) ⟨[], []⟩ = pure []) ∨
  (I.dflt = true ∧ ∃ a, ps = [a] ∧ ∀ (C : List (Str × Addr)) (c' : Addr) (dt : Addr) (pm ctv v : Value), ∃ k, bindArgs (lamFd I C c' (.ref dt) pm ctv) ⟨[], []⟩ = seqItems? (.ref dt) >>= k ∧ k (some #[v]) = pure [(a, v)])
section
variable {P : Program} {w : World} {K : PySem.W.Frag} {mg : Str → Option Value} {base : Heap}
theorem lok_of {e : LamE} {N ps : List Str} {k np : Nat} {me : ME} (S : NdefX.NScope N ps e.fr e.I.scope) (hp : ps.length = np) (hb : lamBinds e.I ps) (hm : e.m = mLamF np N.length me)
    (hbody : ∀ (f c' : Addr) (C : List (Str × Addr)) (A : Around) (outer : List Env) (s : Shared) (H : Hp) (E : XK), Room k (A.deeper (NdefX.envF (lamNF e C c') f s.heap.objs.size)) →
      Takes (NdefX.ncx (L2.CX P w) P w K mg base N (lamNF e C c') f A outer s H E) (fun cls d _ H => E cls d H) →
      SE (NdefX.ncx (L2.CX P w) P w K mg base N (lamNF e C c') f A outer s H E) (fun cls d _ H => E cls d H) e.I.body me) : LOk P w K mg base (k + 1) e := by
  refine ⟨fun y hy => PySem.mem_of_lookup (S.frk y hy), fun A outer s g f c' dv C ts vs Q E hr e0 R r hf hc hd CA h => ?_⟩
  have lim : s.heap.NoLimit := e0.mod.nolimit.keeps fun b o q => (e0.bs b o q).1
  obtain ⟨⟨od, sl, pm, ctv, ho⟩, _, _⟩ := e0.hok f _ hf
  have hcd : s.heap.CodeRec (.ref c') e.I.q := NdefX.codeO_at e0.hok hc
  refine PySem.W.kla_callFunE hr.depth ho rfl S.co S.gen rfl hcd ?_
  -- the parameters
  have key : ∀ (us : List Value), Vals (List.replicate np (V.int 0)) us → wpAny (model P w) A.in1 (newFunctionEnv e.I.scope mainGlobals (cloFrom C e.I.scope.names []) (ps.zip us) (e.I.q ++ ".<locals>.") (some f) (.ref c') none builtinsNs)
      (fun env s₂ => s₂.heap.NoLimit ∧ codeAny (model P w) A (.expr e.I.body env) (CR (L2.CX P w) outer P w g.H s Q E) s₂) (fun e' s' => CR (L2.CX P w) outer P w g.H s Q E (.error e') s') s := fun us hus => by
    refine wpAny_newFunctionEnv S.nocell (fun ⟨n, _⟩ hy => S.par n (List.of_mem_zip hy).1) (fun h₁ hns hsb => ⟨lim.fresh _ hsb, ?_⟩) S.kind
    show codeAny _ _ (.expr e.I.body (NdefX.envF (lamNF e C c') f s.heap.objs.size)) _ _
    have kp : ∀ b o, s.heap.get? b = some o → h₁.get? b = some o := fun b o q => hsb.extBut b o (Nat.ne_of_lt (Heap.lt_size q)) (Heap.get?_push_of_some _ q)
    have I : Inv (NdefX.ncx (L2.CX P w) P w K mg base N (lamNF e C c') f A outer s g.H E) [] (NdefX.startF N (List.replicate np (.int 0)) (vs.map some)) g.H { s with heap := h₁, toks := s.toks + (ps.zip us).length } :=
      NdefX.inv_startN (F := lamNF e C c') S hr.hd e0 (by rw [List.length_replicate, hp]) hus CA hns kp
    refine PySem.W.kla_codeExpr (wpAny_mono ((hbody f c' C A outer s g.H E (hr.deeper _) (takes_of rfl rfl rfl rfl)).run [] _ _ g.H Q I ⟨g, _, rfl, R, repS_lam r, ?_⟩) (fun v s' hq => ?_) fun e s' hq => hq)
    · rw [hm] at h
      unfold mLamF at h
      cases q : me (List.replicate np (some (.int 0)) ++ (ts.map some ++ List.replicate (N.length - np - ts.length) none)) g.h with
      | ok t h2 => rw [q] at h; exact h
      | ex x h2 => rw [q] at h; exact h
      | stuck => rw [q] at h; exact h.elim
    · obtain ⟨w', H', J', rv, q⟩ := hq
      exact ⟨w', H', J'.os, J'.bare, J'.base, J'.hok, rv, q⟩
  rcases hb with ⟨b1, b2, b3⟩ | ⟨b1, a, b2, b3⟩
  · subst b2
    rcases hd with ⟨_, d2⟩ | ⟨d1, _⟩
    · subst d2
      have e1 : bindArgs (lamFd e.I C c' .none pm ctv) ⟨[], []⟩ = pure [] := b3 C c' pm ctv
      show wpAny _ _ (bindArgs (lamFd e.I C c' .none pm ctv) ⟨[], []⟩) _ _ _
      rw [e1]
      simp at hp
      subst hp
      exact wpAny_pure (key [] .nil)
    · rw [b1] at d1; cases d1
  · subst b2
    rcases hd with ⟨d1, _⟩ | ⟨_, dt, d2, d3⟩
    · rw [b1] at d1; cases d1
    · subst d2
      obtain ⟨⟨tk, hdt⟩, _, _⟩ := e0.hok dt _ d3
      obtain ⟨kk, e1, e2⟩ := b3 C c' dt pm ctv (.int 0 tk)
      show wpAny _ _ (bindArgs (lamFd e.I C c' (.ref dt) pm ctv) ⟨[], []⟩) _ _ _
      rw [e1]
      refine wpAny_bind (wpAny_seqItems hdt rfl ?_)
      rw [e2]
      simp at hp
      subst hp
      exact wpAny_pure (key [.int 0 tk] (.cons ⟨tk, rfl⟩ .nil))
end
end Mi
end part_Mi42
section part_Mi43
set_option maxRecDepth 100000
set_option maxHeartbeats 2000000
/-! Mi, part 43: lambdas lent to a call. -/
namespace Mi
open PySem PySem.Spec PyProof.Rows L2
def closeV (C : List (Str × Addr)) (n : Nat) (t : T) : T := match t with
  | .fn k I C' => if C' = C then .fnc k I C n else .fn k I C'
  | t => t
def closeT (C : List (Str × Addr)) (n : Nat) (t : T) : T := match t with
  | .lst xs => .lst (xs.map (closeV C n))
  | t => closeV C n t
def slotOf (s : SM) (j : Nat) : Option T := match s[j]? with
  | some o => o
  | none => none
def celsOf (ix : List Nat) (s : SM) : List MO := ix.map fun j => .cel (slotOf s j)
def fLend (m : MF) (n0 : Nat) (C : List (Str × Addr)) (ix : List Nat) (s : SM) : List T → MH → R := fun ts h => if ts.length = n0 then
    match m (ts.map (closeT C h.length)) (h ++ celsOf ix s) with
    | .ok r h2 => if allCel h2 h.length C.length then .ok r (putAt h2 h.length (deads C)) else .stuck
    | _ => .stuck
  else .stuck
def mLend (m : MF) (n0 : Nat) (C : List (Str × Addr)) (ix : List Nat) (mr : MA) : ME := fun s h => (mr s h).bind (fLend m n0 C ix s)
section
variable {K : PySem.W.Frag} {mg : Str → Option Value} {g g' : G} {C : List (Str × Addr)} {n : Nat}
def G.lend (g : G) (C : List (Str × Addr)) (cs : List MO) (h0 : Heap) : G := ⟨g.rho ++ adsOf C, g.h ++ cs, g.pv, hPlus g.H (adsOf C) h0⟩
theorem lend_ok {cs : List MO} {h0 : Heap} (R : Rel K mg g) (inj : ∀ (i j : Nat) x y c, C[i]? = some (x, c) → C[j]? = some (y, c) → i = j) (hn : ∀ c ∈ adsOf C, g.H c = none) (hl : cs.length = C.length)
    (hcs : ∀ (i : Nat) y c, C[i]? = some (y, c) → ∃ o u ot, cs[i]? = some (.cel ot) ∧ h0.get? c = some o ∧ o.data = .cell u ∧ ∀ t, ot = some t → ∃ v u', u = some u' ∧ RelV v u' ∧ Rep K mg g t v) :
    Sub g (g.lend C cs h0) ∧ Rel K mg (g.lend C cs h0) ∧ CelsAt (g.lend C cs h0) C g.h.length := by
  have len := R.len
  have out : ∀ (b : Addr) (v : HO), g.H b = some v → b ∉ adsOf C := fun b v q z => by rw [hn b z] at q; cases q
  have rgt : ∀ (i : Nat) a, (g.rho ++ adsOf C)[i]? = some a → (i < g.rho.length ∧ g.rho[i]? = some a) ∨ (g.rho.length ≤ i ∧ ∃ y, C[i - g.rho.length]? = some (y, a)) := fun i a h => by
    by_cases l : i < g.rho.length
    · rw [List.getElem?_append_left l] at h; exact .inl ⟨l, h⟩
    · rw [List.getElem?_append_right (by omega), List.getElem?_map] at h
      cases e : C[i - g.rho.length]? with
      | none => rw [e] at h; cases h
      | some yc =>
        rw [e] at h
        have h : some yc.2 = some a := h
        cases h
        exact .inr ⟨by omega, yc.1, rfl⟩
  have lv : ∀ (i : Nat) a, (g.lend C cs h0).live i a → g.live i a ∨ (g.rho.length ≤ i ∧ ∃ y, C[i - g.rho.length]? = some (y, a)) := by
    rintro i a ⟨z1, o, z2, z3⟩
    rcases rgt i a z1 with ⟨l, q⟩ | q
    · have z2' : (g.h ++ cs)[i]? = some o := z2
      rw [List.getElem?_append_left (by omega)] at z2'
      exact .inl ⟨q, o, z2', z3⟩
    · exact .inr q
  have hid : ∀ a, a ∉ adsOf C → (g.lend C cs h0).hid a → g.hid a := by
    rintro a m (z | ⟨i, o, z1, z2, z3⟩)
    · exact .inl z
    · rcases lv i a ⟨z1, o, z2, z3⟩ with ⟨h1, o', h2, h3⟩ | ⟨_, y, q⟩
      · exact .inr ⟨i, o', h1, h2, h3⟩
      · exact absurd (mem_ads.mpr ⟨_, y, q⟩) m
  have hs : Sub g (g.lend C cs h0) := ⟨fun i a h => by
    show (g.rho ++ adsOf C)[i]? = some a
    rw [List.getElem?_append_left (List.getElem?_eq_some_iff.mp h).1]; exact h, fun a o h m => ⟨by
    show hPlus g.H (adsOf C) h0 a = some o
    rw [plus_out (out a o h)]; exact h, fun z => m (hid a (out a o h) z)⟩⟩
  have cel : CelsAt (g.lend C cs h0) C g.h.length := fun i y c h => by
    obtain ⟨o, u, ot, q, _⟩ := hcs i y c h
    refine ⟨?_, ot, ?_⟩
    · show (g.rho ++ adsOf C)[g.h.length + i]? = some c
      rw [List.getElem?_append_right (by omega), show g.h.length + i - g.rho.length = i by omega, List.getElem?_map, h] <;> rfl
    · show (g.h ++ cs)[g.h.length + i]? = some (.cel ot)
      rw [List.getElem?_append_right (by omega), show g.h.length + i - g.h.length = i by omega]; exact q
  refine ⟨hs, ⟨?_, fun i j a z1 z2 => ?_, fun a ha i z => ?_, fun a ha => ?_, fun i a z => ?_, fun i a o z1 z2 => ?_⟩, cel⟩
  · show (g.rho ++ adsOf C).length = (g.h ++ cs).length
    rw [List.length_append, List.length_append, List.length_map, len, hl]
  · rcases lv i a z1 with p1 | ⟨l1, y1, p1⟩ <;> rcases lv j a z2 with p2 | ⟨l2, y2, p2⟩
    · exact R.inj i j a p1 p2
    · obtain ⟨u, q⟩ := R.tr i a p1
      exact absurd (mem_ads.mpr ⟨_, y2, p2⟩) (out a u q)
    · obtain ⟨u, q⟩ := R.tr j a p2
      exact absurd (mem_ads.mpr ⟨_, y1, p1⟩) (out a u q)
    · have := inj _ _ _ _ _ p1 p2
      omega
  · obtain ⟨u, q⟩ := R.pvt a ha
    rcases lv i a z with p | ⟨_, y, p⟩
    · exact R.npv a ha i p
    · exact out a u q (mem_ads.mpr ⟨_, y, p⟩)
  · obtain ⟨u, q⟩ := R.pvt a ha
    exact ⟨u, by show hPlus g.H (adsOf C) h0 a = some u; rw [plus_out (out a u q)]; exact q⟩
  · rcases lv i a z with p | ⟨_, y, p⟩
    · obtain ⟨u, q⟩ := R.tr i a p
      exact ⟨u, by show hPlus g.H (adsOf C) h0 a = some u; rw [plus_out (out a u q)]; exact q⟩
    · obtain ⟨o, u, ot, _, q, _⟩ := hcs _ _ _ p
      exact ⟨_, plus_in (mem_ads.mpr ⟨_, y, p⟩) q⟩
  · rcases rgt i a z1 with ⟨l, q⟩ | ⟨l, y, p⟩
    · have z2' : (g.h ++ cs)[i]? = some o := z2
      rw [List.getElem?_append_left (by omega)] at z2'
      exact (R.obj i a o q z2').sub hs fun u hu => by
        show hPlus g.H (adsOf C) h0 a = some u
        rw [plus_out (out a u hu)]; exact hu
    · have z2' : (g.h ++ cs)[i]? = some o := z2
      rw [List.getElem?_append_right (by omega)] at z2'
      obtain ⟨ob, u, ot, q1, q2, q3, q4⟩ := hcs _ _ _ p
      rw [show i - g.h.length = i - g.rho.length by omega, q1] at z2'
      cases z2'
      exact ⟨ob, u, plus_in (mem_ads.mpr ⟨_, y, p⟩) q2, q3, fun t e => let ⟨v, u', w1, w2, w3⟩ := q4 t e; ⟨v, u', w1, w2, Rep.sub hs t v w3⟩⟩
theorem close_v {cs : List MO} {h0 : Heap} (R : Rel K mg g) (hs : Sub g (g.lend C cs h0)) {t : T} {v : V} (r : Rep K mg g t v) : Rep K mg (g.lend C cs h0) (closeV C g.h.length t) v := by
  have r' := Rep.sub hs t v r
  unfold closeV
  split
  · rename_i k I C'
    split
    · rename_i e
      subst e
      simp only [Rep] at r' ⊢
      refine ⟨r', fun i y c h => ?_⟩
      show (g.rho ++ adsOf C')[g.h.length + i]? = some c
      have len := R.len
      rw [List.getElem?_append_right (by omega), show g.h.length + i - g.rho.length = i by omega, List.getElem?_map, h] <;> rfl
    · exact r'
  · exact r'
theorem close_vs {cs : List MO} {h0 : Heap} (R : Rel K mg g) (hs : Sub g (g.lend C cs h0)) : ∀ {ts : List T} {vs : List V}, RepL K mg g ts vs → RepL K mg (g.lend C cs h0) (ts.map (closeV C g.h.length)) vs
  | [], vs, r => by simpa only [RepL, List.map_nil] using r
  | t :: ts, vs, r => by
    simp only [RepL] at r
    obtain ⟨v, q, e, h1, h2⟩ := r
    subst e
    exact RepL.cons (close_v R hs h1) (close_vs R hs h2)
theorem close_t {cs : List MO} {h0 : Heap} (R : Rel K mg g) (hs : Sub g (g.lend C cs h0)) {t : T} {v : V} (r : Rep K mg g t v) : Rep K mg (g.lend C cs h0) (closeT C g.h.length t) v := by
  unfold closeT
  split
  · rename_i xs
    simp only [Rep] at r ⊢
    obtain ⟨p, vs, e1, ⟨h1, nh⟩, h2⟩ := r
    exact ⟨p, vs, e1, hs.keep _ _ h1 nh, close_vs R hs h2⟩
  · exact close_v R hs r
theorem close_ts {cs : List MO} {h0 : Heap} (R : Rel K mg g) (hs : Sub g (g.lend C cs h0)) : ∀ {ts : List T} {vs : List V}, RepL K mg g ts vs → RepL K mg (g.lend C cs h0) (ts.map (closeT C g.h.length)) vs
  | [], vs, r => by simpa only [RepL, List.map_nil] using r
  | t :: ts, vs, r => by
    simp only [RepL] at r
    obtain ⟨v, q, e, h1, h2⟩ := r
    subst e
    exact RepL.cons (close_t R hs h1) (close_ts R hs h2)
end
/-- what the frame that lends must be like -/
structure LendB (X : Cx) (ix : List Nat) : Prop where
  fn : ∀ x, X.fn x = true
  nd : (X.env.cells.map (·.1)).Nodup
  at_ : ix.map (fun j => X.N[j]?) = X.env.cells.map fun p => some p.1
  kin : ∀ p ∈ X.env.cells, X.env.scope.names.lookup p.1 = some .cell
section
variable {X : Cx} {W : WX} {e : Expr} {es : List Expr} {mr : MA} {pos p : Pos} {x : Str}
theorem se_lend {f : Addr} {fd : FuncData} {ps : List Str} {n0 k : Nat} {m : MF} {ix : List Nat} (B : LendB X ix) (F : FnM X k f fd ps n0 m) (hr : Room k X.A) (tk : Takes X W) (hm : X.mg x = some (.ref f)) (hk : PySem.W.keepIn X.K (.ref f) = true) (hb : Binds X.K fd ps [])
    (ha : SA X W (e :: es) mr) (hg : Gl X x := by rfl) (hdb : (x == ("__debug__" : Str)) = false := by decide) (he : starEach (e :: es) X.env = (false, eval e X.env) :: starEach es X.env := by rfl) (hpl : (backTo pos (starEach es X.env)).any (·.1) = false := by rfl) :
    SE X W (.Call (.Name x p) (e :: es) [] pos) (mLend m n0 X.env.cells ix mr) := by
  refine ⟨fun pins s σ H Q J h => ?_⟩
  obtain ⟨g0, sm, rfl, R0, S0, h⟩ := h
  refine wpAny_Call_Name_kw (ld_glob J hg hm ?_ hdb)
  refine PySem.W.callWith_K (h₀ := X.base) J.ok.mod.kin hk (thn (ha.run pos pins s σ g0.H (fun vs H1 => ∃ g ts, g.H = H1 ∧ Ext g0 g ∧ Rel X.K X.mg g ∧ RepL X.K X.mg g ts vs ∧ wpR X.K X.mg W g σ Q (fLend m n0 X.env.cells ix sm ts g.h)) J
    ⟨g0, sm, rfl, R0, S0, wpL_of h fun g ts vs e1 R1 r1 h1 => ⟨g, ts, rfl, e1, R1, r1, h1⟩⟩) fun us s1 ⟨vs, H1, I1, r, q⟩ => ⟨I1.kIn, ?_⟩) he hpl
  obtain ⟨g, ts, rfl, e1, R, rts, h1⟩ := q
  have S := S0.mono e1
  unfold fLend at h1
  split at h1
  case isFalse => exact h1.elim
  rename_i hl
  -- the cells
  have lk : ∀ {i : Nat} {y c}, X.env.cells[i]? = some (y, c) → X.env.cells.lookup y = some c := fun {i y c} q => lookup_at B.nd q
  have lka : ∀ {c}, c ∈ adsOf X.env.cells → ∃ y, X.env.cells.lookup y = some c := fun {c} hc => by
    obtain ⟨i, y, q⟩ := mem_ads.mp hc
    exact ⟨y, lk q⟩
  have big_ : ∀ c ∈ adsOf X.env.cells, X.s_0.heap.objs.size ≤ c := fun c hc => by
    obtain ⟨y, q⟩ := lka hc
    exact I1.ok.cab y c (B.fn y) q
  have hn : ∀ c ∈ adsOf X.env.cells, g.H c = none := fun c hc => by
    obtain ⟨y, q⟩ := lka hc
    exact I1.freeC y c q
  have hx : ∀ c ∈ adsOf X.env.cells, ∃ o, s1.heap.get? c = some o := fun c hc => by
    obtain ⟨y, q⟩ := lka hc
    obtain ⟨v, o, z, _⟩ := I1.cell y c q
    exact ⟨o, z⟩
  have ixl : ix.length = X.env.cells.length := by simpa using congrArg List.length B.at_
  have inj : ∀ (i j : Nat) x y c, X.env.cells[i]? = some (x, c) → X.env.cells[j]? = some (y, c) → i = j := fun i j x y c q1 q2 => by
    have e := I1.ok.inj x y c (lk q1) (lk q2)
    subst e
    have n1 : (X.env.cells.map (·.1))[i]? = some x := by rw [List.getElem?_map, q1] <;> rfl
    have n2 : (X.env.cells.map (·.1))[j]? = some x := by rw [List.getElem?_map, q2] <;> rfl
    exact nodup_ix B.nd n1 n2
  have hcs : ∀ (i : Nat) y c, X.env.cells[i]? = some (y, c) → ∃ o u ot, (celsOf ix sm)[i]? = some (.cel ot) ∧ s1.heap.get? c = some o ∧ o.data = .cell u ∧ ∀ t, ot = some t → ∃ v u', u = some u' ∧ RelV v u' ∧ Rep X.K X.mg g t v := fun i y c q => by
    have hi : i < ix.length := by rw [ixl]; exact (List.getElem?_eq_some_iff.mp q).1
    have hj : X.N[ix[i]]? = some y := by
      have z : (ix.map fun j => X.N[j]?)[i]? = some (some y) := by rw [B.at_, List.getElem?_map, q] <;> rfl
      rw [List.getElem?_map, List.getElem?_eq_getElem hi] at z
      exact Option.some.inj z
    have kc := B.kin (y, c) (List.mem_of_getElem? q)
    obtain ⟨v0, o, z, zd⟩ := I1.cell y c (lk q)
    refine ⟨o, v0, slotOf sm ix[i], ?_, z, zd, fun t et => ?_⟩
    · unfold celsOf
      rw [List.getElem?_map, List.getElem?_eq_getElem hi] <;> rfl
    · have es : sm[ix[i]]? = some (some t) := by
        unfold slotOf at et
        split at et
        · rename_i o' q'; rw [q', et]
        · cases et
      obtain ⟨v, hσ, rv⟩ := S.2 _ t es
      obtain ⟨mm, hnn, hll⟩ := I1.loc
      obtain ⟨u, ru, lu⟩ := hll _ y v hj hσ (.inr (.inl kc))
      rcases lu with ⟨z', _⟩ | ⟨_, c', hc', o', ho', hd'⟩
      · have z' : X.env.scope.names.lookup y = some .local := z'
        have kc : X.env.scope.names.lookup y = some .cell := kc
        rw [kc] at z'; cases z'
      · rw [lk q] at hc'
        cases hc'
        rw [z] at ho'
        cases ho'
        rw [zd] at hd'
        cases hd'
        exact ⟨v, u, rfl, ru, rv⟩
  obtain ⟨sl, Rl, cel⟩ := lend_ok (cs := celsOf ix sm) (h0 := s1.heap) R inj hn (by unfold celsOf; rw [List.length_map, ixl]) hcs
  -- the call
  have nbase : ∀ b o, X.base.get? b = some o → b ∉ adsOf X.env.cells := fun b o q z => by
    have h1 := big_ b z
    have h2 := Heap.lt_size q
    have h3 := I1.ok.bsz
    exact Nat.lt_irrefl _ (Nat.lt_of_lt_of_le h2 (Nat.le_trans h3 h1))
  have nfr : ∀ b ∈ frs X.stack, b ∉ adsOf X.env.cells := fun b hb z => by
    rcases List.mem_cons.mp (I1.stkSub b hb) with q | q
    · obtain ⟨y, hy⟩ := lka z
      exact I1.cne y b hy q
    · obtain ⟨_, o, ho, _⟩ := I1.ok.funs.mem q
      have h1 := big_ b z
      have h2 := Heap.lt_size ho
      exact Nat.lt_irrefl _ (Nat.lt_of_lt_of_le h2 h1)
  have e0 : Env0 X.prog X.w X.K X.mg X.base X.A X.stack s1 (g.lend X.env.cells (celsOf ix sm) s1.heap).H := by
    have e := I1.env0
    refine ⟨e.frames, e.mod, fun b o q => ⟨(e.bs b o q).1, ?_⟩, e.bsz, e.funs, fun b hb => ?_, hok_plus e.hok hn fun c hc => let ⟨o, q⟩ := hx c hc; ⟨o, q, q⟩, e.bare⟩
    · show hPlus g.H (adsOf X.env.cells) s1.heap b = none
      rw [plus_out (nbase b o q)]; exact (e.bs b o q).2
    · show hPlus g.H (adsOf X.env.cells) s1.heap b = none
      rw [plus_out (nfr b hb)]; exact e.frf b hb
  have hus : us.length = ps.length := by
    have z : spM X.K X.mg n0 (fun _ _ => .ok .non []) vs g.H (fun _ _ => True) (fun _ _ _ => True) := ⟨g, ts, rfl, R, rts, hl, fun _ _ _ _ _ _ => trivial⟩
    rw [← r.length, spM_len z]
    exact (spM_len z).symm.trans (F.len vs _ _ _ (show spM X.K X.mg n0 m vs (g.lend X.env.cells (celsOf ix sm) s1.heap).H (fun v H' => ∃ g' t h2, m (ts.map (closeT X.env.cells g.h.length)) (g.h ++ celsOf ix sm) = .ok t h2 ∧ g'.H = H' ∧ g'.h = h2 ∧ Ext (g.lend X.env.cells (celsOf ix sm) s1.heap) g' ∧ Rel X.K X.mg g' ∧ Rep X.K X.mg g' t v) (fun _ _ _ => False) from
      ⟨_, ts.map (closeT X.env.cells g.h.length), rfl, Rl, close_ts R sl rts, by rw [List.length_map]; exact hl, by
        show wpD X.K X.mg _ _ _ (m (ts.map (closeT X.env.cells g.h.length)) (g.h ++ celsOf ix sm))
        cases q : m (ts.map (closeT X.env.cells g.h.length)) (g.h ++ celsOf ix sm) with
        | ok t h2 => exact fun g' v e1 e2 R' r' => ⟨g', t, h2, rfl, rfl, e1, e2, R', r'⟩
        | ex y h2 => rw [q] at h1; exact h1.elim
        | stuck => rw [q] at h1; exact h1.elim⟩))
  have b := hb s1 us I1.kIn (by rw [List.append_nil]; exact hus)
  rw [List.append_nil] at b
  refine wpAny_call (codeAny_mono (F.run X.A X.stack s1 (g.lend X.env.cells (celsOf ix sm) s1.heap).H ⟨us, []⟩ us vs (fun v H' => ∃ g' t h2, m (ts.map (closeT X.env.cells g.h.length)) (g.h ++ celsOf ix sm) = .ok t h2 ∧ g'.H = H' ∧ g'.h = h2 ∧ Ext (g.lend X.env.cells (celsOf ix sm) s1.heap) g' ∧ Rel X.K X.mg g' ∧ Rep X.K X.mg g' t v) (fun _ _ _ => False) hr e0 b r
      ⟨_, ts.map (closeT X.env.cells g.h.length), rfl, Rl, close_ts R sl rts, by rw [List.length_map]; exact hl, by
        show wpD X.K X.mg _ _ _ (m (ts.map (closeT X.env.cells g.h.length)) (g.h ++ celsOf ix sm))
        cases q : m (ts.map (closeT X.env.cells g.h.length)) (g.h ++ celsOf ix sm) with
        | ok t h2 => exact fun g' v e1 e2 R' r' => ⟨g', t, h2, rfl, rfl, e1, e2, R', r'⟩
        | ex y h2 => rw [q] at h1; exact h1.elim
        | stuck => rw [q] at h1; exact h1.elim⟩) fun rr s' hq => ?_)
  cases rr with
  | error e =>
    obtain ⟨_, _, _, _, _, _, _, _, _, _, _, _, z⟩ := hq
    exact z.elim
  | ok fl =>
    cases fl with
    | ret u =>
      obtain ⟨v, H', os, bare, un, hok', rv, g', t, h2, em, rfl, eh, ex, R', r'⟩ := hq
      rw [em] at h1
      dsimp only at h1
      split at h1
      case isFalse => exact h1.elim
      rename_i hall
      subst eh
      have F' : CelsAt g' X.env.cells g.h.length := fun i y c q => ⟨ex.rho _ _ (cel i y c q).1, allCel_at hall (List.getElem?_eq_some_iff.mp q).1⟩
      obtain ⟨sk, Rk⟩ := kill_ok R' F'
      have frz : ∀ c ∈ adsOf X.env.cells, ∃ o, g'.H c = some (.frz o (.own 0)) := fun c hc => by
        obtain ⟨o, q⟩ := hx c hc
        exact ⟨o, un.frzs c o (.own 0) (plus_in hc q)⟩
      have xe : Ext g (g'.kill X.env.cells g.h.length) := by
        refine ⟨fun i a q => ex.rho i a (sl.rho i a q), ex.pv, fun a ha => ?_, fun a o q nh => ?_⟩
        · obtain ⟨u, q⟩ := R.pvt a ha
          have z : a ∉ adsOf X.env.cells := fun z => by rw [hn a z] at q; cases q
          show hMinus g'.H (adsOf X.env.cells) a = g.H a
          rw [minus_out z, ex.pvk a ha]
          exact plus_out z
        · obtain ⟨k1, k2⟩ := sl.keep a o q nh
          obtain ⟨k3, k4⟩ := ex.keep a o k1 k2
          exact sk.keep a o k3 k4
      exact I1.after ⟨v, hMinus g'.H (adsOf X.env.cells), os, bare, un_minus un hok' hn hx, hok_minus hok' frz, rv, h1 (g'.kill X.env.cells g.h.length) v rfl xe Rk (Rep.sub sk t v r')⟩
    | next => exact False.elim hq
    | brk => exact False.elim hq
    | cont => exact False.elim hq
end
end Mi
end part_Mi43
section part_Mi44
set_option maxRecDepth 100000
set_option maxHeartbeats 2000000
/-! Mi, part 44: try .. except (A, B, C) as e: the exception is a value in the suite. -/
namespace Mi
open PySem PySem.Spec PyProof.Rows L2
/-- behind the suite the name is gone -/
def goneS (i : Nat) (r : SR) : SR := match r with
  | .nx s h => .nx (s.set i none) h
  | .rt t h => .rt t h
  | .bk s h => .bk (s.set i none) h
  | .ct s h => .ct (s.set i none) h
  | _ => .stuck
def handM (ct : List (Str × Bool)) (i : Nat) (ms : MS) (x : Exc) (s : SM) (h : MH) : SR := match ct.lookup x.c with
  | some true => goneS i (ms (s.set i (some (.exn x.c x.ns x.vs))) h)
  | some false => .ex x s h
  | none => .stuck
def mTry3 (ct : List (Str × Bool)) (i : Nat) (mb ms : MS) : MS := fun s h => match mb s h with
  | .ex x s1 h1 => handM ct i ms x s1 h1
  | r => r
section
variable {X : Cx} {pins : List (Addr × Obj)} {σ : L2.St} {H : Hp} {s : Shared}
/-- the exception's object is tracked from now on -/
theorem inv_track {a : Addr} {oe : Obj} {vs : Array Value} {o : HO} (I : Inv X pins σ H s) (he : s.heap.get? a = some oe) (hd : oe.data = .fields vs) (na : H a = none) (n0 : X.s_0.heap.get? a = none) (nL : a ≠ X.env.locals) (np : ∀ p ∈ X.pn ++ pins, p.1 ≠ a)
    (ho : ObjOk X.prog X.w (upd H a o) s.heap a o) : Inv X pins σ (upd H a o) s := by
  have kH : ∀ (b : Addr) (u : HO), H b = some u → upd H a o b = some u := fun b u e => by rw [upd_ne (ne_of_none e na)]; exact e
  refine ⟨I.ok, I.os, I.bare, ⟨I.base.keep, I.base.slot, fun b ob e n hx => ?_, I.base.there, fun b xs e => kH _ _ (I.base.tups b xs e), fun b ob u e => kH _ _ (I.base.frzs b ob u e), fun b ps e => ?_⟩, I.loc, I.cell, ?_, fun y c e => ?_, fun p hp => ?_, fun b u e => ?_, I.len⟩
  · rw [upd_ne (fun z => by rw [z, n0] at e; cases e)]
    exact I.base.free b ob e n hx
  · obtain ⟨more, q⟩ := I.base.tbls b ps e
    exact ⟨more, kH _ _ q⟩
  · rw [upd_ne (fun z => nL z.symm)]; exact I.free
  · obtain ⟨v, oc, z, zd⟩ := I.cell y c e
    have ne : c ≠ a := fun q => by
      rw [q, he] at z
      cases z
      rw [hd] at zd; cases zd
    rw [upd_ne ne]; exact I.freeC y c e
  · obtain ⟨h1, h2, h3, h4, h5⟩ := I.pin p hp
    exact ⟨h1, by rw [upd_ne (np p hp)]; exact h2, h3, h4, h5⟩
  · by_cases hb : b = a
    · rw [hb, upd_same] at e
      cases e
      rw [hb]; exact ho
    · rw [upd_ne hb] at e
      exact (I.hok b u e).stay (fun _ _ _ q => q) (fun b' q => kH _ _ q) fun b' xs q => kH _ _ q
theorem flying_push {B : Heap} {l : List Env} {a : Addr} {Z : Obj → Prop} {h : Heap} (o : Obj) (f : HandSPX.FlyingZ B l a Z h) : HandSPX.FlyingZ B l a Z (h.push o) := by
  obtain ⟨k1, k2, k3, oe, vs, T, oT, ts, he, hz, hd, h1, hb, hne, hT, hTd, h3⟩ := f
  exact ⟨fun b u e => Heap.get?_push_of_some _ (k1 b u e), k2, Heap.FunFrames.of_keeps (fun b u e _ => ⟨u, Heap.get?_push_of_some _ e, rfl⟩) k3, oe, vs, T, oT, ts, Heap.get?_push_of_some _ he, hz, hd, h1, hb, hne, Heap.get?_push_of_some _ hT, hTd, h3⟩
theorem suite_back {a : Addr} {pn' : List (Addr × Obj)} (I : Inv (X.suite a (X.pn ++ pins)) pn' σ H s) (ok : X.Ok) : Inv X pins σ H s :=
  ⟨ok, I.os, I.bare, I.base, I.loc, I.cell, I.free, I.freeC, fun p hp => I.pin p (List.mem_append_left _ hp), I.hok, I.len⟩
theorem to_suite {a : Addr} (I : Inv X pins σ H s) : Inv (X.suite a (X.pn ++ pins)) [] σ H s :=
  ⟨I.ok.suite _ _, I.os, I.bare, I.base, I.loc, I.cell, I.free, I.freeC, fun p hp => I.pin p (by rw [List.append_nil] at hp; exact hp), I.hok, I.len⟩
end
theorem RepS.unset {K : PySem.W.Frag} {mg : Str → Option Value} {g : G} {s : SM} {σ : L2.St} (S : RepS K mg g s σ) (i : Nat) : RepS K mg g (s.set i none) (σ.set i none) := by
  refine ⟨by rw [List.length_set, List.length_set, S.1], fun j t h => ?_⟩
  by_cases e : i = j
  · subst e
    rw [List.getElem?_set] at h
    split at h
    · split at h <;> cases h
    · rename_i q; exact absurd rfl q
  · rw [List.getElem?_set_ne e] at h ⊢
    exact S.2 j t h
section
variable {X : Cx} {Wout : WX} {x1 x2 x3 n : Str} {C1 C2 C3 : Addr} {i : Nat} {body suite : List Stmt} {b₀ : Stmt} {p1 p2 p3 tp pos pos' : Pos} {kx : Nat} {mb ms : MS} {ct : List (Str × Bool)}
theorem lookup_memB : ∀ {l : List (Str × Bool)} {c : Str} {b : Bool}, l.lookup c = some b → (c, b) ∈ l
  | [], c, b, h => by cases h
  | (k, v) :: l, c, b, h => by
    rw [List.lookup_cons] at h
    split at h
    · rename_i q
      cases h
      rw [beq_iff_eq] at q
      subst q
      exact List.mem_cons_self
    · exact List.mem_cons_of_mem _ (lookup_memB h)
/-- what is wished of an exception of the body -/
def wB (X : Cx) (Wout : WX) (ct : List (Str × Bool)) (i : Nat) (ms : MS) (D : Ends) : WX := fun cls d σ H => ∃ g s x, g.H = H ∧ Rel X.K X.mg g ∧ RepS X.K X.mg g s σ ∧ RepX X.K X.mg g x cls d ∧ wpS X.K X.mg Wout g D (handM ct i ms x s g.h)
theorem ss_try3 (hs : X.stack = X.env :: X.outer) (hf : X.env.frame = some X.env.locals) (hex : X.ex = []) (hN : X.N.Nodup) (hi : X.N[i]? = some n) (hln : X.env.kindOf n = some .local) (h1 : X.mg x1 = some (.ref C1)) (h2 : X.mg x2 = some (.ref C2)) (h3 : X.mg x3 = some (.ref C3))
    (hc : ∀ p ∈ ct, ∀ C, X.mg p.1 = some (.ref C) → PySem.W.exmAny X.K (.ref C) [.ref C1, .ref C2, .ref C3] = some p.2) (tk : Takes X Wout)
    (hb : ∀ (W : WX) (pn : List (Addr × Obj)) (xe : Value → Shared → Prop), Takes (X.tr pn xe) W → SSs (X.tr pn xe) W body mb)
    (hsu : ∀ (a : Addr) (pn : List (Addr × Obj)), SSs (X.suite a pn) W0 (b₀ :: suite) ms)
    (g1 : Gl X x1 := by rfl) (g2 : Gl X x2 := by rfl) (g3 : Gl X x3 := by rfl) (d1 : (x1 == ("__debug__" : Str)) = false := by decide) (d2 : (x2 == ("__debug__" : Str)) = false := by decide) (d3 : (x3 == ("__debug__" : Str)) = false := by decide) :
    SS X Wout (.Try body [.ExceptHandler (some (.Tuple [.Name x1 p1, .Name x2 p2, .Name x3 p3] kx tp)) (some n) (b₀ :: suite) pos'] [] [] pos) (mTry3 ct i mb ms) := by
  refine ⟨fun pins s σ H D I h => ?_⟩
  have hcut : tSM X.K X.mg (wB X Wout ct i ms D) mb D σ H := by
    obtain ⟨g, sm, e, R, S, h⟩ := h
    refine ⟨g, sm, e, R, S, ?_⟩
    unfold mTry3 at h
    cases q : mb sm g.h with
    | ex x s1 h1 =>
      rw [q] at h
      exact fun g' σ' cls d q1 e' R' S' r' => ⟨g', s1, x, rfl, R', S', r', by rw [q1]; exact wpS.ext h e'⟩
    | nx s1 h1 => rw [q] at h; exact h
    | rt t h1 => rw [q] at h; exact h
    | bk s1 h1 => rw [q] at h; exact h
    | ct s1 h1 => rw [q] at h; exact h
    | stuck => rw [q] at h; exact h
  have ok := I.ok
  have hfr : X.A.frames = some (X.env :: X.outer) := by rw [ok.frames, hs]
  have hloc : Loc X.env.scope n := .inl hln
  refine wpAny_Try_except ?_
  refine wpAny_mono ((hb (wB X Wout ct i ms D) (X.pn ++ pins) (fun e s₁ => wpAny (model X.prog X.w) X.A (noteFrame e X.env) (fun _ s₂ => wpAny (model X.prog X.w) X.A (setFlight e none) (fun _ s₃ =>
    wpAny (model X.prog X.w) X.A (handleBy e X.env [.ExceptHandler (some (.Tuple [.Name x1 p1, .Name x2 p2, .Name x3 p3] kx tp)) (some n) (b₀ :: suite) pos']) (SP X pins D) X.xe s₃) X.xe s₂) X.xe s₁) (fun u s' xx => ?_)).run [] s σ H D (I.toTry _) hcut) (fun f s1 hsp => ?_) (fun e s1 he => he)
  · -- the catch
    obtain ⟨a, B, sI, pins', σ', H', cls, d, rfl, J', nb, up, sky, na, os, ag, g, sm, x, rfl, R, S, rx, hh⟩ := xx
    have J : Inv X pins σ' g.H sI := J'.ofTry ok
    have sky' : Sky B (X.env :: X.outer) a (Zc cls d) X.env.locals s'.heap := by rw [← hs]; exact sky
    show wpAny (model X.prog X.w) X.A (noteFrame (.ref a) X.env) _ _ _
    refine Sky.land Zc.steady hfr hf sky' fun h3' fl3 up3 => ?_
    have J3 : Inv X pins σ' g.H { s' with heap := h3' } := J.landed nb fl3.1 (up.trans up3) os ag
    obtain ⟨oe3, vs3, he3, hz3, hd3⟩ := fl3.there
    have notFr : ∀ {h : Heap} {o : Obj} {vs : Array Value}, h.FunFrames B (X.env :: X.outer) → h.get? a = some o → o.data = .fields vs → a ∉ frs (X.env :: X.outer) := fun {h o vs} ff e dd hm => by
      obtain ⟨_, o', e', hnf⟩ := ff.mem hm
      rw [e] at e'; cases e'
      exact hnf _ dd
    have nfr := notFr fl3.2.2.1 he3 hd3
    have nL : a ≠ X.env.locals := fun z => nfr (List.mem_filterMap.mpr ⟨X.env, List.mem_cons_self, by rw [hf, z]⟩)
    have nF : a ∉ X.fs := fun hm => by
      obtain ⟨e, he, q⟩ := List.mem_filterMap.mp hm
      exact nfr (List.mem_filterMap.mpr ⟨e, List.mem_cons_of_mem _ he, q⟩)
    have nI : sI.heap.get? a = none := by
      cases q : sI.heap.get? a with
      | none => rfl
      | some o =>
        have z := nb a o q (by rw [hs]; exact nfr)
        rw [fl3.2.1] at z; cases z
    have n0 : X.s_0.heap.get? a = none := by
      cases q : X.s_0.heap.get? a with
      | none => rfl
      | some o =>
        obtain ⟨o', z⟩ := J.base.there a o q (by rw [hex]; simp)
        rw [nI] at z; cases z
    have npin : ∀ p ∈ X.pn ++ pins, p.1 ≠ a := fun p hp z => by
      have q := (J.pin p hp).1
      rw [z, nI] at q; cases q
    have S3 := J3.suite he3 hd3 na nL nF
    refine wpAny_handleBy_cons (codeAny_handlers_test ?_) (by intro q; cases q)
    -- the classes
    obtain ⟨C, da, fs, rfl, e2, rfl, ⟨hx1, hx2⟩, hx3, hx4⟩ := rx
    unfold handM at hh
    cases hl : ct.lookup x.c with
    | none => rw [hl] at hh; exact hh.elim
    | some b =>
      rw [hl] at hh
      have hexm := hc _ (lookup_memB hl) C e2
      refine wpAny_Tuple_spliced ?_
      show wpAny _ _ (spliced ((false, eval (.Name x1 p1) X.env) :: (false, eval (.Name x2 p2) X.env) :: (false, eval (.Name x3 p3) X.env) :: backTo tp (starEach [] X.env))) _ _ _
      refine Calls.spliced_cons (ld_glob (X := X.suite a ((a, oe3) :: (X.pn ++ pins))) S3 g1 h1 ?_ d1)
      refine Calls.spliced_cons (ld_glob (X := X.suite a ((a, oe3) :: (X.pn ++ pins))) S3 g2 h2 ?_ d2)
      refine Calls.spliced_cons (ld_glob (X := X.suite a ((a, oe3) :: (X.pn ++ pins))) S3 g3 h3 ?_ d3)
      refine Calls.spliced_nil ⟨by show 3 ≤ sizeLine; decide, ?_⟩
      let ht : Heap := h3'.push { cls := .type "tuple", data := .seq [Value.ref C1, .ref C2, .ref C3].toArray }
      have flt : HandSPX.FlyingZ B (X.env :: X.outer) a (Zc (.ref C) (some da)) ht := flying_push _ fl3
      have upt : sI.heap.UpToSlots ht := (up.trans up3).trans (Heap.UpToSlots.of_keeps fun b o e => Heap.get?_push_of_some _ e)
      have Jt : Inv X pins σ' g.H { s' with heap := ht } := J.landed nb flt.1 upt os ag
      obtain ⟨oet, vst, het, hzt, hdt⟩ := flt.there
      have LT : PySem.W.Looks (model X.prog X.w) ht (typeOf (.ref a)) (.ref C) := fun A Q E s k q => wpAny_typeOf_ref (k _ _ het) (by rw [hzt.1]; exact q)
      have LM := PySem.W.exm_tup3 (M := model X.prog X.w) (tp := h3'.objs.size) (Jt.kIn) LT (Heap.get?_push_size _ rfl) hexm
      refine LM.here ?_
      cases b with
      | true =>
        dsimp only at hh
        refine codeAny_handlers_suite_as ?_
        refine HandSPX.lands_againZ flt fun h4 fl4 up4 => ?_
        have J4 : Inv X pins σ' g.H { s' with heap := h4 } := J.landed nb fl4.1 (upt.trans up4) os ag
        obtain ⟨oe4, vs4, he4, hz4, hd4⟩ := fl4.there
        have hxo : ObjOk X.prog X.w (upd g.H a (XO C a da)) h4 a (XO C a da) := ⟨⟨oe4, vs4, he4, hz4, hd4⟩, ⟨oe4, he4⟩, fun h1 h2 ⟨o, v, z1, z2, z3⟩ st => ⟨o, v, st _ z1, z2, z3⟩⟩
        have J5 : Inv X pins σ' (upd g.H a (XO C a da)) { s' with heap := h4 } := inv_track J4 he4 hd4 na n0 nL npin hxo
        obtain ⟨eg, Rg⟩ : Ext g (g.lay a (XO C a da)) ∧ Rel X.K X.mg (g.lay a (XO C a da)) := ⟨lay_ext R na, R.lay na⟩
        have nh : ¬ (g.lay a (XO C a da)).hid a := R.nohid na
        have rep : Rep X.K X.mg (g.lay a (XO C a da)) (.exn x.c x.ns x.vs) (.ref a) := by
          simp only [Rep]
          exact ⟨a, C, da, fs, rfl, ⟨upd_same, nh⟩, eg.keep _ _ hx1 hx2, e2, hx3, hx4.mono eg⟩
        have S4 := to_suite (a := a) J5
        refine store_ok (X := X.suite a (X.pn ++ pins)) (v := .ref a) S4 hN hi hloc rfl (fun s5 S5 => ?_) (.inr hln)
        have hw : tSM X.K X.mg W0 ms { nx := fun σ' H' => D.nx (σ'.set i none) H', rt := D.rt, bk := fun σ' H' => D.bk (σ'.set i none) H', ct := fun σ' H' => D.ct (σ'.set i none) H' } (σ'.set i (some (.ref a))) (upd g.H a (XO C a da)) := by
          refine ⟨g.lay a (XO C a da), sm.set i (some (.exn x.c x.ns x.vs)), rfl, Rg, (S.mono eg).set rep i, ?_⟩
          have hh2 : wpS X.K X.mg Wout g D (goneS i (ms (sm.set i (some (.exn x.c x.ns x.vs))) (g.lay a (XO C a da)).h)) := hh
          cases q : ms (sm.set i (some (.exn x.c x.ns x.vs))) (g.lay a (XO C a da)).h with
          | nx s2 h2 => rw [q] at hh2; exact fun g' σ2 q1 e' R' S' => hh2 g' _ q1 (eg.trans e') R' (S'.unset i)
          | rt t h2 => rw [q] at hh2; exact fun g' v q1 e' R' r' => hh2 g' v q1 (eg.trans e') R' r'
          | bk s2 h2 => rw [q] at hh2; exact fun g' σ2 q1 e' R' S' => hh2 g' _ q1 (eg.trans e') R' (S'.unset i)
          | ct s2 h2 => rw [q] at hh2; exact fun g' σ2 q1 e' R' S' => hh2 g' _ q1 (eg.trans e') R' (S'.unset i)
          | ex y s2 h2 => rw [q] at hh2; exact hh2.elim
          | stuck => rw [q] at hh2; exact hh2.elim
        refine wpAny_mono ((hsu a (X.pn ++ pins)).run [] s5 _ _ _ S5 hw) (fun f s6 hsp => ?_) (fun _ _ z => False.elim z)
        have end_ : ∀ {σ6 : L2.St} {H6 : Hp} {Q : Shared → Prop}, Inv (X.suite a (X.pn ++ pins)) [] σ6 H6 s6 → (∀ s7, Inv X pins (σ6.set i none) H6 s7 → Q s7) →
            wpAny (model X.prog X.w) X.A (do bindName X.env n .none; unbindBehindTheSuite X.env n pos') (fun _ s7 => Q s7) X.xe s6 := fun {σ6 H6 Q} S6 hq => gone_ok (suite_back S6 ok) hN hi hln hq
        cases f with
        | next =>
          obtain ⟨σ6, H6, S6, q6⟩ := hsp
          exact end_ S6 fun s7 J7 => ⟨_, _, J7, q6⟩
        | brk =>
          obtain ⟨σ6, H6, S6, q6⟩ := hsp
          exact end_ S6 fun s7 J7 => ⟨_, _, J7, q6⟩
        | cont =>
          obtain ⟨σ6, H6, S6, q6⟩ := hsp
          exact end_ S6 fun s7 J7 => ⟨_, _, J7, q6⟩
        | ret u =>
          obtain ⟨v6, σ6, H6, S6, r6, q6⟩ := hsp
          exact end_ S6 fun s7 J7 => ⟨_, _, _, J7, r6, q6⟩
      | false =>
        dsimp only at hh
        show wpAny _ X.A (handleBy (.ref a) X.env []) _ _ _
        refine wpAny_handleBy_nil ?_
        obtain ⟨k1, k2, k3, oe, vs, T, oT, ts', he, hz, hd, hh1, hr⟩ := id flt
        unfold PySem.passOn
        refine wpAny_bind (wpAny_field he hd hh1 ?_)
        rw [if_neg (show ¬ ((Value.ref T == Value.none) = true) from by simp)]
        have fin : wpAny (model X.prog X.w) X.A (setFlight (.ref a) X.env.frame) (fun _ s4 => wpAny (model X.prog X.w) X.A (throw (.ref a) : Sem Flow) (SP X pins D) X.xe s4) X.xe { s' with heap := ht } := by
          rw [hf]
          refine HandSPX.setFlight_upZ flt fun h4 hh4 up4 => wpAny_throw (tk _ _ ?_)
          exact ⟨a, B, sI, pins, σ', g.H, .ref C, some da, rfl, J, nb, upt.trans up4, .inr (.inr (by rw [hs]; exact hh4)), na, os, ag, hh g σ' (.ref C) (some da) rfl (Ext.refl g) R S ⟨C, da, fs, rfl, e2, rfl, ⟨hx1, hx2⟩, hx3, hx4⟩⟩
        first
          | exact wpAny_bind (wpAny_pure (wpAny_bind fin))
          | exact wpAny_bind fin
  · cases f with
    | next =>
      obtain ⟨σ', H', J', q⟩ := hsp
      exact wpAny_execs_nil ⟨σ', H', J'.ofTry ok, q⟩
    | brk =>
      obtain ⟨σ', H', J', q⟩ := hsp
      exact ⟨σ', H', J'.ofTry ok, q⟩
    | cont =>
      obtain ⟨σ', H', J', q⟩ := hsp
      exact ⟨σ', H', J'.ofTry ok, q⟩
    | ret u =>
      obtain ⟨v, σ', H', J', r, q⟩ := hsp
      exact ⟨v, σ', H', J'.ofTry ok, r, q⟩
end
end Mi
end part_Mi44
section part_Mi45
set_option maxRecDepth 100000
set_option maxHeartbeats 2000000
/-! Mi, part 45: defs called within an except suite, that raise nothing. -/
namespace Mi
open PySem PySem.Spec PyProof.Rows L2
/-- what a def promises there -/
structure FnN (P : Program) (w : World) (K : PySem.W.Frag) (mg : Str → Option Value) (base : Heap) (k : Nat) (f : Addr) (fd : FuncData) (ps : List Str) (sp : Sp) : Prop where
  len : ∀ vs H Q E, sp vs H Q E → vs.length = ps.length
  run : ∀ (A : Around) (outer : List Env) (s : Shared) (H : Hp) (args : Args) (us : List Value) (vs : List V) (Q : VK) (E : XK), L2H.RoomH k A → Env0 P w K mg base A outer s H → BindsTo s fd args (ps.zip us) → Vals vs us → sp vs H Q E →
    codeAny (model P w) A (.call (.ref f) args) (CR (L2.CX P w) outer P w H s Q E) s
/-- the context of its body -/
def cxN (P : Program) (w : World) (K : PySem.W.Frag) (mg : Str → Option Value) (base : Heap) (N : List Str) (qual : Str) (scope : Scope) (f : Addr) (cd : Value) (A : Around) (outer : List Env) (s : Shared) (H : Hp) (E : XK) : Cx :=
  { cxOf (L2.CX P w) P w K mg base N qual scope f cd A outer s H E with calm := false }
section
variable {P : Program} {w : World} {K : PySem.W.Frag} {mg : Str → Option Value} {base : Heap} {N ps : List Str} {qual : Str} {scope : Scope} {f : Addr} {cd : Value} {A : Around} {outer : List Env} {s s1 : Shared} {H : Hp} {E : XK} {us : List Value} {vs : List V}
theorem inv_startNN (S : FnScope N ps scope) (e0 : Env0 P w K mg base A outer s H) (hl : vs.length = ps.length) (r : Vals vs us)
    (x : InCallC s s.heap.objs.size (bindL (envOfC qual scope s.heap.objs.size f cd).kindOf (ps.zip us) fun _ => none) (cellsFrom (s.heap.objs.size + 1) scope.names []) (bindC (envOfC qual scope s.heap.objs.size f cd).kindOf (ps.zip us) fun _ => none) s1) :
    Inv (cxN P w K mg base N qual scope f cd A outer s H E) [] (L2.start N vs) H s1 := by
  have e0' : Env0 P w K mg base { A with handled := none } outer s H := ⟨e0.frames, e0.mod, e0.bs, e0.bsz, e0.funs, e0.frf, e0.hok, e0.bare⟩
  have I0 : Inv (cxOf (L2.CX P w) P w K mg base N qual scope f cd { A with handled := none } outer s H E) [] (L2.start N vs) H s1 := inv_start S rfl e0' hl r x
  exact ⟨⟨I0.ok.mod, I0.ok.kind, I0.ok.glob, I0.ok.blt, I0.ok.above, I0.ok.inj, I0.ok.has, I0.ok.cab, (fun z => Bool.noConfusion (show false = true from z)), Around.frames_deeper e0.frames, I0.ok.stk, I0.ok.exf, I0.ok.bs, I0.ok.bsz, I0.ok.noex, I0.ok.exfs, I0.ok.funs, I0.ok.frf⟩,
    I0.os, I0.bare, I0.base, I0.loc, I0.cell, I0.free, I0.freeC, I0.pin, I0.hok, I0.len⟩
end
theorem fnN_of {P : Program} {w : World} {K : PySem.W.Frag} {mg : Str → Option Value} {base : Heap} {k : Nat} {f : Addr} {name qual : Str} {params : Arguments} {body : List Stmt} {scope : Scope} {dV kV doc pm cdv ct oc : Value} {an od : Option Addr}
    {osl : Array (Option Value)} {N ps : List Str} {sp : Sp} (lk : K.lookup f = some ⟨oc, od, .func (PySem.W.fnOf name qual params body scope dV kV doc pm an cdv ct), osl⟩) (hcd : PySem.W.codeIn K cdv qual = true) (S : FnScope N ps scope)
    (len : ∀ vs H Q E, sp vs H Q E → vs.length = ps.length)
    (hbody : ∀ (A : Around) (outer : List Env) (s : Shared) (H : Hp) (vs : List V) (Q : VK) (E : XK), L2H.RoomH k (A.deeper (envOfC qual scope s.heap.objs.size f cdv)) → sp vs H Q E →
      ∃ t, PSs (cxN P w K mg base N qual scope f cdv A outer s H E) body t ∧ t { nx := fun _ H' => Q .non H', rt := Q } (L2.start N vs) H) :
    FnN P w K mg base (k + 1) f (PySem.W.fnOf name qual params body scope dV kV doc pm an cdv ct) ps sp := by
  refine ⟨len, fun A outer s H args us vs Q E hr e0 hb r hsp => ?_⟩
  have hl := len _ _ _ _ hsp
  have KX : K.In s.heap := e0.mod.kin.keeps fun b o e => (e0.bs b o e).1
  have lim : s.heap.NoLimit := e0.mod.nolimit.keeps fun b o e => (e0.bs b o e).1
  have hkind : ∀ y ∈ ps.zip us, scope.names.lookup y.1 = some .local ∨ (scope.names.lookup y.1 = some .cell ∧ ((cellsFrom (s.heap.objs.size + 1) scope.names []).lookup y.1).isSome = true) := fun ⟨n, v⟩ hy => by
    rcases S.par n (List.of_mem_zip hy).1 with q | q
    · exact .inl q
    · exact .inr ⟨q, PySem.W.cellsFrom_some _ _ _ (.inl q)⟩
  refine codeAny_call_function hr.depth (KX _ _ lk) rfl S.co S.gen rfl (PySem.W.codeRec_of KX hcd) (hb _ _ _ _ ?_)
  refine wpAny_newFunctionEnv_cells S.kind hkind fun env he s1 x => ?_
  subst he
  refine ⟨lim.keeps x.toInCall.keep, codeAny_func ?_⟩
  obtain ⟨t, ht, hq⟩ := hbody A outer s H vs Q E (hr.deeper _) hsp
  have I : Inv (cxN P w K mg base N qual scope f cdv A outer s H E) [] (L2.start N vs) H s1 := inv_startNN S e0 hl r x
  refine wpAny_mono (ht.run [] s1 (L2.start N vs) H _ I hq) (fun fl s' hs => ?_) fun e s' hs => hs
  have fin : ∀ {σ' : L2.St} {H' : Hp} {v : V} {u : Value}, Inv (cxN P w K mg base N qual scope f cdv A outer s H E) [] σ' H' s' → RelV v u → Q v H' → CE outer P w H s Q u s' :=
    fun {σ' H' v u} J rv q => ⟨v, H', J.os, J.bare, J.base, J.hok, rv, q⟩
  cases fl with
  | ret u =>
    obtain ⟨v, σ', H', J, rv, q⟩ := hs
    exact fin J rv q
  | next =>
    obtain ⟨σ', H', J, q⟩ := hs
    exact fin (v := V.non) (u := Value.none) J rfl q
  | brk =>
    obtain ⟨_, _, _, q⟩ := hs
    exact False.elim q
  | cont =>
    obtain ⟨_, _, _, q⟩ := hs
    exact False.elim q
theorem def_okN {P : Program} {w : World} {K : PySem.W.Frag} {mg : Str → Option Value} {base : Heap} {x qual : Str} {params : Arguments} {body : List Stmt} {scope : Scope} {dvs : List V} {kws : List (Str × V)} {f : Addr} {fd : FuncData} {N ps : List Str} {k n : Nat} {mb : MS}
    (F : FunD K x qual params body scope dvs kws f fd) (S : FnScope N ps scope) (hn : ps.length = n)
    (hbody : ∀ (cdv : Value) (A : Around) (outer : List Env) (s : Shared) (H : Hp) (E : XK), L2H.RoomH k (A.deeper (envOfC qual scope s.heap.objs.size f cdv)) →
      SSs (cxN P w K mg base N qual scope f cdv A outer s H E) (fun cls d _ H => E cls d H) body mb) :
    FnN P w K mg base (k + 1) f fd ps (spM K mg n (mDef N.length mb)) := by
  obtain ⟨oc, od, dV, kV, doc, pm, an, cdv, ct, osl, rfl, lk, hcd, _, _⟩ := F.ex
  refine fnN_of lk hcd S (fun vs H Q E h => (spM_len h).trans hn.symm) fun A outer s H vs Q E hr h => ⟨_, hbody cdv A outer s H E hr, ?_⟩
  obtain ⟨g, ts, rfl, R, r, l, h⟩ := h
  refine ⟨g, _, rfl, R, repS_start r, ?_⟩
  unfold mDef at h
  cases q : mb (ts.map some ++ List.replicate (N.length - ts.length) none) g.h with
  | nx s' h' =>
    rw [q] at h
    exact fun g' σ' q1 e R' S' => h g' .non q1 e R' rNon
  | rt t h' => rw [q] at h; exact fun g' v q1 e R' r' => h g' v q1 e R' r'
  | bk s' h' => rw [q] at h; exact h.elim
  | ct s' h' => rw [q] at h; exact h.elim
  | ex y s' h' => rw [q] at h; exact fun g' σ' cls d q1 e R' S' r' => h g' cls d q1 e R' r'
  | stuck => rw [q] at h; exact h.elim
def HasN (P : Program) (w : World) (K : PySem.W.Frag) (mg : Str → Option Value) (base : Heap) (k : Nat) (x qual : Str) (st : Stmt) (ps : List Str) (m : MF) : Prop :=
  ∃ (f : Addr) (fd : FuncData), FunD K x qual (defArgs st) (defBody st) (defScope st) [] [] f fd ∧ mg x = some (.ref f) ∧ FnN P w K mg base k f fd ps (spM K mg ps.length m)
abbrev HasNX (X : Cx) := HasN X.prog X.w X.K X.mg X.base
theorem HasN.up {P : Program} {w : World} {K : PySem.W.Frag} {mg : Str → Option Value} {base : Heap} {j k : Nat} {x qual : Str} {st : Stmt} {ps : List Str} {m : MF} (h : HasN P w K mg base j x qual st ps m) (l : j ≤ k) : HasN P w K mg base k x qual st ps m := by
  obtain ⟨f, fd, F, hm, ok⟩ := h
  exact ⟨f, fd, F, hm, ok.len, fun A outer s H args us vs Q E hr => ok.run A outer s H args us vs Q E (hr.mono l)⟩
theorem roomN {k : Nat} {A : Around} (r : Room k A) (v : Option Value) : L2H.RoomH k (A.mark v) := ⟨r.dp, r.un⟩
section
variable {X : Cx} {e : Expr} {es : List Expr} {mr : MA} {pos p : Pos} {x : Str}
/-- THE RULE for a call by position in an except suite -/
theorem se_ncall {k : Nat} {qual : Str} {st : Stmt} {ps : List Str} {mf : MF} {fm : List T → MH → R} (h : HasNX X k x qual st ps mf) (hr : L2H.RoomH k X.A) (cl : Calls2 X W0 ps.length mf fm) (hb : PosB st x qual ps) (ha : SA X W0 (e :: es) mr) (hg : Gl X x := by rfl)
    (hdb : (x == ("__debug__" : Str)) = false := by decide) (he : starEach (e :: es) X.env = (false, eval e X.env) :: starEach es X.env := by rfl) (hpl : (backTo pos (starEach es X.env)).any (·.1) = false := by rfl) :
    SE X W0 (.Call (.Name x p) (e :: es) [] pos) (mA fm mr) := by
  obtain ⟨f, fd, F, hm, ok⟩ := h
  have B := F.bindsN hb
  refine ⟨fun pins s σ H Q I h => ?_⟩
  obtain ⟨g, sm, rfl, R, S, h⟩ := h
  refine wpAny_Call_Name_kw (ld_glob I hg hm ?_ hdb)
  refine PySem.W.callWith_K (h₀ := X.base) I.ok.mod.kin F.kp (thn (ha.run pos pins s σ g.H (fun vs H1 => spM X.K X.mg ps.length mf vs H1 Q (WE W0 σ)) I
    ⟨g, sm, rfl, R, S, wpL_of h fun g1 ts vs e1 R1 r1 h1 => cl g1 σ ts vs Q R1 r1 h1⟩) fun us s1 ⟨vs, H1, I1, r, q⟩ => ⟨I1.kIn, ?_⟩) he hpl
  have hl : us.length = ps.length := by rw [← r.length]; exact ok.len _ _ _ _ q
  have b := B s1 us I1.kIn (by rw [List.append_nil]; exact hl)
  rw [List.append_nil] at b
  refine wpAny_call (codeAny_mono (ok.run X.A X.stack s1 H1 ⟨us, []⟩ us vs Q (WE W0 σ) hr I1.env0 b r q) fun rr s' hq => ?_)
  cases rr with
  | error e =>
    obtain ⟨_, _, _, _, _, _, _, _, _, _, _, _, z⟩ := hq
    exact z.elim
  | ok fl =>
    cases fl with
    | ret u => exact I1.after hq
    | next => exact False.elim hq
    | brk => exact False.elim hq
    | cont => exact False.elim hq
end
end Mi
end part_Mi45
section part_Mi46
set_option maxRecDepth 100000
set_option maxHeartbeats 4000000
/-! Mi, part 46: raise C(), raise C(e). -/
namespace Mi
open PySem PySem.Spec PyProof.Rows L2
section
variable {X : Cx} {pins : List (Addr × Obj)} {σ : L2.St} {H : Hp} {s : Shared}
/-- the state without an object that was made here -/
theorem inv_untrack {a : Addr} {φ : Heap → Prop} {G : Heap} (I : Inv X pins σ H s) (ha : H a = some (.ext φ)) (n0 : X.s_0.heap.get? a = none) (hG : ∀ b, b ≠ a → G.get? b = s.heap.get? b) : Inv X pins σ (hMinus H [a]) { s with heap := G } := by
  have mo : ∀ b, b ≠ a → hMinus H [a] b = H b := fun b h => minus_out (by simpa using h)
  have nn : ∀ {b : Addr}, H b = none → b ≠ a := fun {b} n z => by rw [z, ha] at n; cases n
  have n0' : ∀ b o, X.s_0.heap.get? b = some o → b ≠ a := fun b o e z => by rw [z, n0] at e; cases e
  have g : ∀ b o, b ≠ a → s.heap.get? b = some o → G.get? b = some o := fun b o n e => (hG b n).trans e
  have HO_ne : ∀ (b : Addr) (u : HO), H b = some u → (∀ φ, u ≠ .ext φ) → b ≠ a := fun b u e n z => by
    rw [z, ha] at e
    exact n φ (Option.some.inj e).symm
  refine ⟨I.ok, I.os, I.bare, ⟨fun b o e n hb hx => g b o (n0' b o e) (I.base.keep b o e n hb hx), fun b o e n hb hx => ?_, fun b o e n hx => ?_, fun b o e hx => ?_, fun b xs e => ?_, fun b ob u e => ?_, fun b ps e => ?_⟩, ?_, fun y c e => ?_, ?_, fun y c e => ?_, fun p hp => ?_, fun b u e => ?_, I.len⟩
  · obtain ⟨sl, q⟩ := I.base.slot b o e n hb hx
    exact ⟨sl, g b _ (n0' b o e) q⟩
  · rw [mo b (n0' b o e)]; exact I.base.free b o e n hx
  · obtain ⟨o', q⟩ := I.base.there b o e hx
    exact ⟨o', g b _ (n0' b o e) q⟩
  · have q := I.base.tups b xs e
    rw [mo b (HO_ne b _ q fun φ z => by cases z)]; exact q
  · have q := I.base.frzs b ob u e
    rw [mo b (HO_ne b _ q fun φ z => by cases z)]; exact q
  · obtain ⟨more, q⟩ := I.base.tbls b ps e
    exact ⟨more, by rw [mo b (HO_ne b _ q fun φ z => by cases z)]; exact q⟩
  · obtain ⟨m, ⟨o, es, ep, ho, r⟩, hl⟩ := I.loc
    refine ⟨m, ⟨o, es, ep, g _ o (nn I.free) ho, r⟩, fun i x v e1 e2 e3 => ?_⟩
    obtain ⟨u, ru, lu⟩ := hl i x v e1 e2 e3
    refine ⟨u, ru, lu.imp id fun ⟨k, c, hc, oc, hoc, hd⟩ => ⟨k, c, hc, oc, g c oc (nn (I.freeC x c hc)) hoc, hd⟩⟩
  · obtain ⟨v, o, ho, hd⟩ := I.cell y c e
    exact ⟨v, o, g c o (nn (I.freeC y c e)) ho, hd⟩
  · rw [mo _ (nn I.free)]; exact I.free
  · rw [mo _ (nn (I.freeC y c e))]; exact I.freeC y c e
  · obtain ⟨h1, h2, h3, h4, h5⟩ := I.pin p hp
    exact ⟨g _ _ (nn h2) h1, by rw [mo _ (nn h2)]; exact h2, h3, h4, h5⟩
  · by_cases hb : b = a
    · rw [hb, minus_in (by simp)] at e; cases e
    · rw [mo b hb] at e
      refine (I.hok b u e).stay (fun b' v hv q => g b' v ?_ q) (fun b' q => ?_) fun b' xs q => ?_
      · rcases hv with z | z
        · rw [z]; exact hb
        · exact HO_ne b' _ z fun φ z => by cases z
      · rw [mo b' (HO_ne b' _ q fun φ z => by cases z)]; exact q
      · rw [mo b' (HO_ne b' _ q fun φ z => by cases z)]; exact q
end
section
variable {X : Cx} {K : PySem.W.Frag} {mg : Str → Option Value} {W : WX} {g : G} {σ : L2.St} {Q : XK}
variable {e : Expr} {ma : ME} {mr : MA} {pos p rp : Pos} {es : List Expr} {c x z f : Str} {k : Nat} {ps : List Str} {sp : Addr → Sp} {C fI : Addr} {fd : FuncData} {B nI iI : String} {mB : List Value}
/-- the call of the class, for a raise -/
theorem exn_mk (hB : BaseB B nI iI mB) (h : ExC X.prog X.w X.K X.mg X.base k c ps sp C fI fd nI mB) (hr : Room (k + 1) X.A) (tk : Takes X W) {pins : List (Addr × Obj)} {H1 : Hp} {us : List Value} {vs : List V} {s1 : Shared} (I1 : Inv X pins σ H1 s1) (r1 : Vals vs us) (hbs : ∀ u : Value, BindsEv fd ⟨u :: us, []⟩ (ps.zip (u :: us))) (hl : vs.length ≤ 1000)
    (hn : ∀ a, H1 a = none → sp C (.ref a :: vs) (upd H1 a (exo a C none)) (fun v H2 => v = .non ∧ ∃ d fs, H2 a = some (exo a C (some d)) ∧ H2 d = some (exd d fs) ∧ d ≠ a ∧ Q (.ref C) (some d) (hMinus (upd (upd H2 d (.xd fs)) a (XO C a d)) [a])) (WE W σ)) :
    wpAny (model X.prog X.w) X.A (call (.ref C) us) (MkP X pins σ Q) X.xe s1 := by
  have hz : X.s_0.heap.objs.size ≤ s1.heap.objs.size := I1.sz
  obtain ⟨nm, q, N, bs, bm, sn, sub, ab, col, dd, k0, k1, k2, k3, k5, hC, hbm⟩ := h.T.cls
  obtain ⟨hp, g, dr, tk', os⟩ := s1
  have hsz : hp.objs.size ≤ hp.objs.size + 1 := Nat.le_succ _
  have nn : H1 (hp.objs.size + 1) = none := I1.hok.fresh hsz
  have hq := hn (hp.objs.size + 1) nn
  have kk : ∀ b o, hp.get? b = some o → ((hp.push (PySem.W.kdv_tup us)).push (PySem.HandSPX.excO C hp.objs.size)).get? b = some o := fun b o e => Heap.get?_push_of_some _ (Heap.get?_push_of_some _ e)
  have hget : ((hp.push (PySem.W.kdv_tup us)).push (PySem.HandSPX.excO C hp.objs.size)).get? (hp.objs.size + 1) = some (PySem.HandSPX.excO C hp.objs.size) := by heap_get
  have I2 : Inv X pins σ (upd H1 (hp.objs.size + 1) (exo (hp.objs.size + 1) C none)) ⟨(hp.push (PySem.W.kdv_tup us)).push (PySem.HandSPX.excO C hp.objs.size), g, dr, tk', os⟩ :=
    I1.laid (t' := tk') (a := hp.objs.size + 1) (o := exo (hp.objs.size + 1) C none) (h' := (hp.push (PySem.W.kdv_tup us)).push (PySem.HandSPX.excO C hp.objs.size)) kk hsz (exo_ok hget)
  have r2 : Vals (V.ref (hp.objs.size + 1) :: vs) (Value.ref (hp.objs.size + 1) :: us) := .cons rfl r1
  have hus : us.length ≤ sizeLine := by
    rw [← Paired.length r1, sizeLine_eq]
    omega
  have z := code_at h.ok (hr.make C us []) (I2.env0.make C us []) (passAt tk σ) I2 (hbs (Value.ref (hp.objs.size + 1)) _) r2 hq
  have n0 : X.s_0.heap.get? (hp.objs.size + 1) = none := Heap.get?_none_of_le (Nat.le_trans hz hsz)
  refine wpAny_call (PySem.HandSPX.call_own hB.ef hbm.has (I1.kIn _ _ hC) (PySem.W.looks_findIn I1.kIn h.iC) (fun self => PySem.W.bind_fn I1.kIn self h.tI) hus (codeAny_mono z fun r s' hq' => ?_))
  cases r with
  | error er => exact hq'
  | ok fl =>
    cases fl with
    | ret u =>
      obtain ⟨v, H2, I3, rv, ev, d, fs, ea, ed, ne, q2⟩ := hq'
      subst ev
      obtain ⟨t1, ho⟩ := exo_at I3.hok ea
      have I4 := Inv.named I3 ea ed ne
      obtain ⟨Gr, G1, G2⟩ := restrict s'.heap fun b => !decide (b = hp.objs.size + 1)
      have g1 : ∀ b, b ≠ hp.objs.size + 1 → Gr.get? b = s'.heap.get? b := fun b n => G1 b (by simpa using n)
      have g2 : Gr.get? (hp.objs.size + 1) = none := G2 _ (by simp)
      have I5 := inv_untrack (G := Gr) I4 (show upd (upd H2 d (.xd fs)) (hp.objs.size + 1) (XO C (hp.objs.size + 1) d) (hp.objs.size + 1) = some (.ext _) from upd_same) n0 g1
      refine ⟨rv, hp.objs.size + 1, _, _, { s' with heap := Gr }, _, .ref C, some d, rfl, I5, fun b o e => ?_, g2, ho, ⟨rfl, rfl⟩, rfl, rfl, minus_in (by simp), rfl, I3.bare, raises_own h.T.exC h.T.tyC, q2⟩
      have nb : b ≠ hp.objs.size + 1 := fun z => by rw [z, g2] at e; cases e
      exact (g1 b nb).symm.trans e
    | _ => exact hq'.elim
/-- the exception's fields stand, its object does not -/
theorem exn_flies {C a d : Addr} {ns : List Str} {ts : List T} {fs : List (Str × V)} {H2 : Hp} {P : Value → Option Addr → Hp → Prop} (R : Rel K mg g) (hC : mg c = some (.ref C)) (ha : g.H a = none) (hd : g.H d = none) (ne : d ≠ a) (hn : fs.map (·.1) = ns) (rf : RepL K mg g ts (fs.map (·.2))) (hH : ∀ b, b ≠ a → b ≠ d → H2 b = g.H b)
    (h : ∀ g', g'.h = g.h → Ext g g' → Rel K mg g' → RepX K mg g' ⟨c, ns, ts⟩ (.ref C) (some d) → P (.ref C) (some d) g'.H) : P (.ref C) (some d) (hMinus (upd (upd H2 d (.xd fs)) a (XO C a d)) [a]) := by
  have e : hMinus (upd (upd H2 d (.xd fs)) a (XO C a d)) [a] = upd g.H d (.xd fs) := by
    funext b
    by_cases h1 : b = a
    · rw [h1, minus_in (by simp), upd_ne (Ne.symm ne)]
      exact ha.symm
    · rw [minus_out (by simpa using h1), upd_ne h1]
      by_cases h2 : b = d
      · rw [h2, upd_same, upd_same]
      · rw [upd_ne h2, upd_ne h2, hH b h1 h2]
  rw [e]
  have e0 : Ext g (g.lay d (.xd fs)) := lay_ext R hd
  exact h (g.lay d (.xd fs)) rfl e0 (R.lay hd) ⟨C, d, fs, rfl, hC, rfl, ⟨upd_same, R.nohid hd⟩, hn, rf.mono e0⟩
def mRaise (f : List T → MH → R) (mr : MA) : MS := fun s h => match mr s h with
  | .ok ts h1 => match f ts h1 with
    | .ok (.exn c ns vs) h2 => .ex ⟨c, ns, vs⟩ s h2
    | _ => .stuck
  | .ex x h1 => .ex x s h1
  | .stuck => .stuck
/-- raise C() -/
theorem ss_raise0 (Hx : HasE0X X k c z) (hr : Room (k + 1) X.A) (hc : X.calm = true) (tk : Takes X W) (hg : Gl X c := by rfl) (hdb : (c == ("__debug__" : Str)) = false := by decide) :
    SS X W (.Raise (some (.Call (.Name c p) [] [] pos)) none rp) (mRaise (fExn0 c z) aNil) := by
  obtain ⟨B, nI, iI, mB, C, fI, fd, hB, h, hb⟩ := Hx
  have mk : PMk X (.Call (.Name c p) [] [] pos) (fun σ H Q => ∃ g, g.H = H ∧ Rel X.K X.mg g ∧ ∀ g' C d, g'.h = g.h → Ext g g' → Rel X.K X.mg g' → RepX X.K X.mg g' ⟨c, ["tag"], [.str z]⟩ (.ref C) (some d) → Q (.ref C) (some d) g'.H) := by
    rintro pins s σ H Q I ⟨g, rfl, R, q⟩
    refine wpAny_Call_Name_kw (ld_glob I hg h.cn ?_ hdb)
    refine PySem.W.callWith_K0 I.kIn h.T.kC (exn_mk hB h hr tk I .nil (fun u => hb u) (Nat.zero_le _) fun a hn => ?_)
    refine ⟨a, rfl, upd_same, fun d hd ne => ⟨rfl, d, [("tag", .str z)], upd_same, ?_, ne, ?_⟩⟩
    · rw [upd_ne ne, upd_same]
    · refine exn_flies (ns := ["tag"]) (ts := [.str z]) (P := Q) R h.cn hn (by rw [upd_ne ne] at hd; exact hd) ne rfl (RepL.cons rStr RepL.nil) (fun b h1 h2 => ?_) (fun g' e1 e2 e3 e4 => q g' C d e1 e2 e3 e4)
      rw [upd_ne h1, upd_ne h2, upd_ne h1]
  refine weakS (ps_raise hc tk mk) ?_
  rintro D σ H ⟨g, s, rfl, R, S, q⟩
  exact ⟨g, rfl, R, fun g' C d e1 e2 e3 e4 => q g' σ (.ref C) (some d) e1 e2 e3 (S.mono e2) e4⟩
/-- raise C(e) -/
theorem ss_raise1 (Hx : HasE1X X k c z f) (hr : Room (k + 1) X.A) (hc : X.calm = true) (tk : Takes X W) (ha : SE X W e ma) (hg : Gl X c := by rfl) (hdb : (c == ("__debug__" : Str)) = false := by decide)
    (he : starEach [e] X.env = (false, eval e X.env) :: starEach [] X.env := by rfl) (hpl : (backTo pos (starEach [] X.env)).any (·.1) = false := by rfl) :
    SS X W (.Raise (some (.Call (.Name c p) [e] [] pos)) none rp) (mRaise (fExn1 c z f) (aCons ma aNil)) := by
  obtain ⟨B, nI, iI, mB, C, fI, fd, hB, h, hb, _⟩ := Hx
  have mk : PMk X (.Call (.Name c p) [e] [] pos) (fun σ H Q => tMA X.K X.mg W (aCons ma aNil) σ H fun vs H1 => ∃ g t y, g.H = H1 ∧ vs = [y] ∧ Rel X.K X.mg g ∧ Rep X.K X.mg g t y ∧ ∀ g' C d, g'.h = g.h → Ext g g' → Rel X.K X.mg g' → RepX X.K X.mg g' ⟨c, [f, "tag"], [t, .str z]⟩ (.ref C) (some d) → Q (.ref C) (some d) g'.H) := by
    intro pins s σ H Q I q
    refine wpAny_Call_Name_kw (ld_glob I hg h.cn ?_ hdb)
    refine PySem.W.callWith_K (h₀ := X.base) I.ok.mod.kin h.T.kC (thn ((sa_cons ha sa_nil he).run pos pins s σ H _ I q) fun us s1 ⟨vs, H1, I1, r, g, t, y, eH, ev, R, ry, q2⟩ => ⟨I1.kIn, ?_⟩) he hpl
    subst eH ev
    refine exn_mk hB h hr tk I1 r (fun u => ?_) (show 1 ≤ 1000 by omega) fun a hn => ?_
    · cases r with
      | cons r1 r2 =>
        cases r2
        exact hb u _
    · refine ⟨a, y, rfl, upd_same, fun d hd ne => ⟨rfl, d, _, ?_, upd_same, ne, ?_⟩⟩
      · rw [upd_ne (Ne.symm ne), upd_same]
      · refine exn_flies (ns := [f, "tag"]) (ts := [t, .str z]) (P := Q) R h.cn hn (by rw [upd_ne ne] at hd; exact hd) ne rfl (RepL.cons ry (RepL.cons rStr RepL.nil)) (fun b h1 h2 => ?_) (fun g' e1 e2 e3 e4 => q2 g' C d e1 e2 e3 e4)
        rw [upd_ne h2, upd_ne h1, upd_ne h2, upd_ne h1]
  refine weakS (ps_raise hc tk mk) ?_
  rintro D σ H ⟨g, s, rfl, R, S, q⟩
  refine ⟨g, s, rfl, R, S, ?_⟩
  unfold mRaise at q
  cases q1 : aCons ma aNil s g.h with
  | ok ts h1 =>
    rw [q1] at q
    intro g1 vs e1 e2 R1 r1
    match ts, r1, q with
    | [t], r1, q =>
      obtain ⟨y, ey, ry⟩ := r1.one
      exact ⟨g1, t, y, rfl, ey, R1, ry, fun g' C d x1 x2 x3 x4 => q g' σ (.ref C) (some d) (x1.trans e1) (e2.trans x2) x3 (S.mono (e2.trans x2)) x4⟩
    | [], r1, q => exact q.elim
    | _ :: _ :: _, r1, q => exact q.elim
  | ex y h1 =>
    rw [q1] at q
    exact fun g1 cls d e1 e2 R1 r1 => q g1 σ cls d e1 e2 R1 (S.mono e2) r1
  | stuck => rw [q1] at q; exact q.elim
end
end Mi
end part_Mi46
section part_Mi47
set_option maxRecDepth 100000
set_option maxHeartbeats 2000000
/-! Mi, part 47: a law whose def makes lambdas: its promise, the head. -/
namespace Mi
open PySem PySem.Spec PyProof.Rows L2
/-- the law's promise, whatever the frame's place L -/
def spML (K : PySem.W.Frag) (mg : Str → Option Value) (n : Nat) (m : Nat → MF) : Sp := fun vs H Q E => ∃ g ts, g.H = H ∧ Rel K mg g ∧ RepL K mg g ts vs ∧ ts.length = n ∧ ∀ L, wpD K mg g Q E (m L ts g.h)
/-- where the law's code object and its table stand -/
def CodeAt (K : PySem.W.Frag) (f c : Addr) : Prop := ∀ (oc : Value) (od : Option Addr) (osl : Array (Option Value)) (fd : FuncData), K.lookup f = some ⟨oc, od, .func fd, osl⟩ → fd.code = .ref c
theorem def_okL {P : Program} {w : World} {K : PySem.W.Frag} {mg : Str → Option Value} {base : Heap} {x qual : Str} {params : Arguments} {body : List Stmt} {scope : Scope} {dvs : List V} {kws : List (Str × V)} {f c : Addr} {fd : FuncData} {N ps : List Str} {k n : Nat} {mb : Nat → MS}
    (F : FunD K x qual params body scope dvs kws f fd) (hC : CodeAt K f c) (S : FnScope N ps scope) (hn : ps.length = n)
    (hbody : ∀ (A : Around) (outer : List Env) (s : Shared) (H : Hp) (E : XK), Room k (A.deeper (envOfC qual scope s.heap.objs.size f (.ref c))) →
      Takes (cxOf (L2.CX P w) P w K mg base N qual scope f (.ref c) A outer s H E) (fun cls d _ H => E cls d H) →
      PassesOwn (model P w) (A.deeper (envOfC qual scope s.heap.objs.size f (.ref c))) (envOfC qual scope s.heap.objs.size f (.ref c)) (cxOf (L2.CX P w) P w K mg base N qual scope f (.ref c) A outer s H E).xe →
      SSs (cxOf (L2.CX P w) P w K mg base N qual scope f (.ref c) A outer s H E) (fun cls d _ H => E cls d H) body (mb s.heap.objs.size)) :
    FnOk P w K mg base (L2.CX P w) (k + 1) f fd ps (spML K mg n fun L => mDef N.length (mb L)) := by
  obtain ⟨oc, od, dV, kV, doc, pm, an, cdv, ct, osl, rfl, lk, hcd, _, _⟩ := F.ex
  have e : cdv = .ref c := hC _ _ _ _ lk
  subst e
  refine fn_of lk hcd S (fun vs H Q E h => ?_) fun A outer s H vs Q E hr h => ⟨_, hbody A outer s H E hr (takes_of rfl rfl rfl rfl) (passes_of rfl), ?_⟩
  · obtain ⟨g, ts, _, _, r, l, _⟩ := h
    rw [← r.length]; exact l.trans hn.symm
  · obtain ⟨g, ts, rfl, R, r, l, h⟩ := h
    have h := h s.heap.objs.size
    refine ⟨g, _, rfl, R, repS_start r, ?_⟩
    have h : wpD K mg g Q E (mDef N.length (mb s.heap.objs.size) ts g.h) := h
    unfold mDef at h
    cases q : mb s.heap.objs.size (ts.map some ++ List.replicate (N.length - ts.length) none) g.h with
    | nx s' h' =>
      rw [q] at h
      exact fun g' σ' q1 e R' S' => h g' .non q1 e R' rNon
    | rt t h' => rw [q] at h; exact fun g' v q1 e R' r' => h g' v q1 e R' r'
    | bk s' h' => rw [q] at h; exact h.elim
    | ct s' h' => rw [q] at h; exact h.elim
    | ex y s' h' => rw [q] at h; exact fun g' σ' cls d q1 e R' S' r' => h g' cls d q1 e R' r'
    | stuck => rw [q] at h; exact h.elim
/-- the law's promise at the head -/
theorem law_spT {K : PySem.W.Frag} {mg : Str → Option Value} {m : Nat → MF} {ns : List Int} {H : Hp} {a P : Addr} {q : Str} (hm : ∀ (L : Nat) (t : T), (t = .frl (ns.map T.int) ∨ t = .lst (ns.map T.int)) → ∃ h', m L [t] [.tab q P] = .ok (.bl true) h') (hT : H P = some (.tbl #[])) (hS : SqL K H a (ns.map V.int)) :
    spML K mg 1 m [.ref a] H (fun v _ => v = .bl true) (fun _ _ _ => False) := by
  have lv : ∀ (i : Nat) (b : Addr), G.live ⟨[P], [.tab q P], [], H⟩ i b → i = 0 ∧ b = P := by
    rintro i b ⟨h1, _⟩
    cases i with
    | zero => simp at h1; exact ⟨rfl, h1.symm⟩
    | succ i => simp at h1
  have R : Rel K mg ⟨[P], [.tab q P], [], H⟩ := by
    refine ⟨rfl, fun i j b h1 h2 => (lv i b h1).1.trans (lv j b h2).1.symm, fun a h => by simp at h, fun a h => by simp at h, fun i b h => ?_, fun i b o h1 h2 => ?_⟩
    · rw [(lv i b h).2]; exact ⟨_, hT⟩
    · cases i with
      | zero =>
        simp at h1 h2
        subst h1 h2
        refine ⟨rfl, #[], hT, True.intro, fun pos cv hc => ?_⟩
        have z : codeAmong pos [] = some cv := hc
        simp [codeAmong] at z
      | succ i => simp at h1
  have nh : a ≠ P → ¬ G.hid ⟨[P], [.tab q P], [], H⟩ a := by
    rintro ne (z | ⟨i, o, z1, z2, z3⟩)
    · simp at z
    · exact ne (lv i a ⟨z1, o, z2, z3⟩).2
  obtain ⟨t, ht, rt⟩ : ∃ t, (t = .frl (ns.map T.int) ∨ t = .lst (ns.map T.int)) ∧ Rep K mg ⟨[P], [.tab q P], [], H⟩ t (.ref a) := by
    rcases hS with (hS | ⟨o, hS⟩) | hS
    · have ne : a ≠ P := fun z => by rw [z, hT] at hS; cases hS
      refine ⟨_, .inr rfl, ?_⟩
      simp only [Rep]
      exact ⟨a, ns.map V.int, rfl, ⟨hS, nh ne⟩, RepL.ints ns⟩
    · have ne : a ≠ P := fun z => by rw [z, hT] at hS; cases hS
      refine ⟨_, .inl rfl, ?_⟩
      simp only [Rep]
      exact ⟨a, ns.map V.int, rfl, .inl ⟨⟨o, hS⟩, nh ne⟩, RepL.ints ns⟩
    · refine ⟨_, .inl rfl, ?_⟩
      simp only [Rep]
      exact ⟨a, ns.map V.int, rfl, .inr hS, RepL.ints ns⟩
  refine ⟨_, [t], rfl, R, RepL.cons rt RepL.nil, rfl, fun L => ?_⟩
  obtain ⟨h', e⟩ := hm L t ht
  rw [e]
  exact fun g' v _ _ _ r => rep_bl r
theorem fnOk_noxL {P : Program} {w : World} {K : PySem.W.Frag} {mg : Str → Option Value} {base : Heap} {k : Nat} {f : Addr} {fd : FuncData} {ps : List Str} {sp : Sp} (F : FnOk P w K mg base (L2.CX P w) k f fd ps sp) :
    FnOk P w K mg base CX0 k f fd ps (fun vs H Q _ => sp vs H Q fun _ _ _ => False) := fnOk_nox F
/-- the law's def, as the head wants it -/
def HasL (P : Program) (w : World) (K : PySem.W.Frag) (mg : Str → Option Value) (base : Heap) (k : Nat) (x qual : Str) (st : Stmt) (ps : List Str) (m : Nat → MF) : Prop :=
  ∃ (f : Addr) (fd : FuncData), FunD K x qual (defArgs st) (defBody st) (defScope st) [] [] f fd ∧ mg x = some (.ref f) ∧ FnOk P w K mg base (L2.CX P w) k f fd ps (spML K mg ps.length m)
theorem law_atL {P : Program} {w : World} {K : PySem.W.Frag} {mg : Str → Option Value} {base : Heap} {k : Nat} {x qual : Str} {st : Stmt} {ps : List Str} {m : Nat → MF} {f : Addr} {fd : FuncData} (F : FunD K x qual (defArgs st) (defBody st) (defScope st) [] [] f fd) (hm : mg x = some (.ref f)) (h : HasL P w K mg base k x qual st ps m) :
    FnOk P w K mg base CX0 k f fd ps (fun vs H Q _ => spML K mg ps.length m vs H Q fun _ _ _ => False) := by
  obtain ⟨f', fd', F', hm', ok⟩ := h
  cases hm.symm.trans hm'
  cases funD_one F F'
  exact fnOk_nox ok
theorem code_at_of {K : PySem.W.Frag} {x qual : Str} {params : Arguments} {body : List Stmt} {scope : Scope} {dvs : List V} {kws : List (Str × V)} {fd : FuncData} {p : He.Defn} (F : FunD K x qual params body scope dvs kws (He.fAd K p) fd) : CodeAt K (He.fAd K p) (He.cT K p).1 := by
  intro oc od osl fd' lk
  obtain ⟨oc2, od2, dV, kV, doc, pm, an, cdv, ct, osl2, rfl, lk2, hcd, _, _⟩ := F.ex
  rw [lk2] at lk
  cases lk
  obtain ⟨c, rfl⟩ := He.codeIn_ref hcd
  have z := He.codeOf_eq lk2 rfl
  show Value.ref c = .ref (He.codeOf K p)
  rw [z]
/-! ### the hook -/
structure SaysZ (fa : List He.Fa) (fn : List He.DefD) (sf : List Pth) (tf : List He.Defn) (ex : PySem.W.Frag → Bool) (h : Heap) (K : PySem.W.Frag) : Prop where
  y : SaysY fa fn sf ex K
  hd : ∀ p ∈ tf, PySem.W.codeHdIn K (He.cT K p).1 (He.cT K p).2 = true
  out : ∀ p ∈ tf, K.lookup (He.cT K p).2 = none
  empty : ∀ p ∈ tf, h.get? (He.cT K p).2 = some { cls := .none, data := .fields #[] }
abbrev AlZ : Type := AlY × Bool
def obsZ (n : Nat) (fa : List He.Fa) (fn : List He.DefD) (sf : List Pth) (tf : List He.Defn) (ex : PySem.W.Frag → Bool) (g : Addr → Option Obj) : AlZ := (obsY n fa fn sf ex g, He.tabsB g tf (frY g n))
theorem saysZ_of {n : Nat} {fa : List He.Fa} {fn : List He.DefD} {sf : List Pth} {tf : List He.Defn} {ex : PySem.W.Frag → Bool} {h : Heap} (e : obsZ n fa fn sf tf ex h.get? = (valY fn sf, true)) : SaysZ fa fn sf tf ex h (frY h.get? n) := by
  have e1 : obsY n fa fn sf ex h.get? = valY fn sf := congrArg (fun z : AlZ => z.1) e
  have e2 : He.tabsB h.get? tf (frY h.get? n) = true := congrArg (fun z : AlZ => z.2) e
  have key : ∀ p ∈ tf, PySem.W.codeHdIn (frY h.get? n) (He.cT (frY h.get? n) p).1 (He.cT (frY h.get? n) p).2 = true ∧ ∃ o, h.get? (He.cT (frY h.get? n) p).2 = some o ∧ He.emptyTab o = true := fun p hp => by
    have h34 := List.all_eq_true.mp e2 p hp
    rw [Bool.and_eq_true] at h34
    obtain ⟨h3, h4⟩ := h34
    refine ⟨h3, ?_⟩
    cases q : h.get? (He.cT (frY h.get? n) p).2 with
    | none =>
      rw [q] at h4
      cases h4
    | some o =>
      rw [q] at h4
      exact ⟨o, rfl, h4⟩
  exact ⟨⟨congrArg (fun z : AlY => z.1.1) e1, congrArg (fun z : AlY => z.1.2) e1, congrArg (fun z : AlY => z.2) e1⟩, fun p hp => (key p hp).1, fun p hp => by
    obtain ⟨_, o, q, z⟩ := key p hp
    exact He.frT_none q z, fun p hp => by
    obtain ⟨_, o, q, z⟩ := key p hp
    rw [q, He.emptyTab_eq z]⟩
def hookZ (n : Nat) (fa : List He.Fa) (fn : List He.DefD) (sf : List Pth) (tf : List He.Defn) (ex : PySem.W.Frag → Bool) : PySem.W.Hook where
  α := AlZ
  obs := fun s => obsZ n fa fn sf tf ex s.heap.get?
  val := fun _ => (valY fn sf, true)
  says := fun _ h => ∃ K : PySem.W.Frag, K.In h ∧ SaysZ fa fn sf tf ex h K
  of := fun _ _ e => ⟨_, He.frT_in, saysZ_of e⟩
  keeps := fun _ _ _ ⟨K, hK, c⟩ k => ⟨K, PySem.W.Frag.In.keeps hK k, ⟨c.y, c.hd, c.out, fun p hp => k _ _ (c.empty p hp)⟩⟩
theorem obsZ_eq {n : Nat} {fa : List He.Fa} {fn : List He.DefD} {sf : List Pth} {tf : List He.Defn} {ex : PySem.W.Frag → Bool} {g : Addr → Option Obj} {s : Shared} (h : ∀ a, g a = s.heap.get? a) : obsZ n fa fn sf tf ex g = (hookZ n fa fn sf tf ex).obs s := by
  have e : g = s.heap.get? := funext h
  rw [e] <;> rfl
/-! ### the end -/
theorem walk_ofZ {l : PySem.W.OpenLaw} {n k : Nat} {q : Program} {loose : List Str} {XP : (Str → Option Value) → Heap → Prop} {YP : World → Heap → Prop} {d : DefRec} {CX : CXT} {x : Str}
    (hn : l.most = some n) (hn2 : n ≤ sizeLine) (hdf : d.params.defaults = []) (hr : Room k callerA)
    (F : ∀ (w : World) (mg : Str → Option Value) (fa : Addr) (h : Heap), YP w h → h.Ns mainGlobals mg → mg d.name = some (.ref fa) →
      ∃ (K : PySem.W.Frag) (fd : FuncData) (cs : List (Addr × Addr)) (sp : Sp), K.In h ∧ (∀ p ∈ cs, h.get? p.2 = some { cls := .none, data := .fields #[] }) ∧ (∀ p ∈ cs, K.lookup p.2 = none) ∧ (∀ p ∈ cs, PySem.W.CodeHd h p.1 p.2) ∧ (∀ (s : Shared) (u : Value), BindsTo s fd ⟨[u], []⟩ [(x, u)]) ∧
        (∀ (H : Hp) (a : Addr) (ns : List Int), ns.length ≤ n → (∀ p ∈ cs, H p.2 = some (.tbl #[])) → SqL K H a (ns.map V.int) → sp [.ref a] H (fun v _ => v = .bl true) fun _ _ _ => False) ∧
        ∀ base : Heap, K.In base → base.Ns mainGlobals mg → (∀ p ∈ cs, LamX.TabB base mg p.1 p.2) → FnOk l.prog w K mg base CX k fa fd [x] sp)
    (hCX : ∀ (H : Hp) (s : Shared) (e : Value) (s' : Shared), CX [] H s (fun _ _ _ => False) e s' → False) :
    PySem.W.WalkO q loose XP YP l.row.toRowW d [] (fun f vs => PySem.call f vs) := by
  refine Att.attach_callB hn hdf fun w s₀ s₁ mg mb fa o pm cd doc a vs ns G Y ho hd hcd hmg hobj hints hlen hbits hg => ?_
  obtain ⟨K, fd, cs, sp, KX, hT, nT, C, hb, hsp, hF⟩ := F w mg fa _ Y G.T.g hmg
  exact LamX.law_callTs KX G.T.g G.T.b G.T.builtins G.T.nolimit hg hT nT C G.T.bmain hobj hints (Nat.le_trans hlen hn2) hr hF hb (fun H hH hS => hsp H a ns hlen hH hS) fun H e s' => hCX H s₁ e s'
end Mi
end part_Mi47
section part_Mi48
set_option maxRecDepth 100000
set_option maxHeartbeats 2000000
/-! Mi, part 48: small things for printed walks with lambdas. -/
namespace Mi
open PySem PySem.Spec PyProof.Rows L2
/-! ### the lambdas of a text, in their order -/
def lams : Nat → Expr → List Expr
  | 0, _ => []
  | n + 1, e => match e with
    | .Lambda _ _ _ _ => [e]
    | .List es _ => es.flatMap (lams n)
    | .Tuple es _ _ => es.flatMap (lams n)
    | .BinOp a _ b _ => lams n a ++ lams n b
    | .Call f as _ _ => lams n f ++ as.flatMap (lams n)
    | .UnaryOp _ a _ => lams n a
    | .Compare a _ bs _ => lams n a ++ bs.flatMap (lams n)
    | .BoolOp _ es _ => es.flatMap (lams n)
    | _ => []
def lamsS : Nat → Stmt → List Expr
  | 0, _ => []
  | n + 1, s => match s with
    | .Assign _ v _ => lams n v
    | .For _ _ b _ _ => b.flatMap (lamsS n)
    | .If t b o _ => lams 12 t ++ b.flatMap (lamsS n) ++ o.flatMap (lamsS n)
    | .Expr v _ => lams n v
    | .Return (some v) _ => lams n v
    | _ => []
def lamsOf (b : List Stmt) : List Expr := b.flatMap (lamsS 12)
def noLam : Expr := .Constant .none 0 ⟨0, 0, 0, 0⟩
def lamI (q : Str) (d : Bool) : Expr → LamI
  | .Lambda ps b sc _ => ⟨q, ps, b, sc, d⟩
  | e => ⟨q, ⟨[], [], none, [], [], none, []⟩, e, { (default : Scope) with names := [] }, d⟩
def lamPos : Expr → Pos
  | .Lambda _ _ _ p => p
  | _ => ⟨0, 0, 0, 0⟩
/-- an expression that is never reached -/
def mStk : ME := fun _ _ => .stuck
theorem se_stk {X : Cx} {W : WX} {e : Expr} : SE X W e mStk := ⟨fun pins s σ H Q I h => by
  obtain ⟨_, _, _, _, _, h⟩ := h
  exact h.elim⟩
theorem se_lamE {X : Cx} {W : WX} {I : LamI} {k : Nat} {c P : Addr} {e : Expr} {pos : Pos} (B : LamB X I c P) (he : e = .Lambda I.params I.body I.scope pos) : SE X W e (mLam k I X.env.cells P) := by
  rw [he]; exact se_lam B
/-! ### the cells' names -/
def cnOf : List (Str × NameKind) → List Str → List Str
  | [], acc => acc
  | (name, kind) :: r, acc => if kind == .cell then cnOf r (name :: acc) else cnOf r acc
theorem cells_names : ∀ (names : List (Str × NameKind)) (n : Nat) (acc : List (Str × Addr)), (cellsFrom n names acc).map (·.1) = cnOf names (acc.map (·.1))
  | [], n, acc => rfl
  | (name, kind) :: r, n, acc => by
    unfold cellsFrom cnOf
    split
    · rw [cells_names r]; rfl
    · exact cells_names r n acc
def lendC (N : List Str) (sc : Scope) (ix : List Nat) : Bool :=
  decide (cnOf sc.names []).Nodup && decide (ix.map (fun j => N[j]?) = (cnOf sc.names []).map some) && (cnOf sc.names []).all fun y => decide (sc.names.lookup y = some .cell)
theorem lendB_of {X : Cx} {N : List Str} {sc : Scope} {ix : List Nat} {n : Nat} (hf : ∀ x, X.fn x = true) (hN : X.N = N) (hs : X.env.scope = sc) (hc : X.env.cells = cellsFrom n sc.names []) (h : lendC N sc ix = true) : LendB X ix := by
  unfold lendC at h
  rw [Bool.and_eq_true, Bool.and_eq_true, decide_eq_true_eq, decide_eq_true_eq, List.all_eq_true] at h
  obtain ⟨⟨h1, h2⟩, h3⟩ := h
  have e : X.env.cells.map (·.1) = cnOf sc.names [] := by rw [hc, cells_names]; rfl
  refine ⟨hf, by rw [e]; exact h1, ?_, fun p hp => ?_⟩
  · rw [hN, h2, ← e, List.map_map]; rfl
  · have m : p.1 ∈ cnOf sc.names [] := by rw [← e]; exact List.mem_map.mpr ⟨p, hp, rfl⟩
    rw [hs]
    exact of_decide_eq_true (h3 p.1 m)
theorem lamB_of {X : Cx} {sc : Scope} {I : LamI} {c P : Addr} {q : Str} (tb : LamX.TabB X.base X.mg c P) (hc : X.env.code = .ref c) (hs : X.env.scope = sc) (hq : X.env.qual = q) (e : (I.q == q ++ ("<lambda>" : Str)) = true) (hfr : NdefX.ndefB sc I.scope [] = true) (hk : I.params.kwonlyargs = []) (hd : dfltOk I X.env) : LamB X I c P :=
  ⟨tb, hc, by rw [hq]; exact eq_of_beq e, by rw [hs]; exact NdefX.ndef_free hfr, hd, hk⟩
section
variable {X : Cx} {W : WX} {e : Expr} {es : List Expr} {mr : MA} {pos p : Pos} {x : Str}
/-- lambdas lent to a def of the table of defs -/
theorem se_lendH {ix : List Nat} {k : Nat} {qual : Str} {st : Stmt} {ps : List Str} {mf : MF} {C : List (Str × Addr)} (B : LendB X ix) (hC : X.env.cells = C) (h : HasX X k x qual st ps mf) (hr : Room k X.A) (tk : Takes X W) (hb : PosB st x qual ps) (ha : SA X W (e :: es) mr) (hg : Gl X x := by rfl)
    (hdb : (x == ("__debug__" : Str)) = false := by decide) (he : starEach (e :: es) X.env = (false, eval e X.env) :: starEach es X.env := by rfl) (hpl : (backTo pos (starEach es X.env)).any (·.1) = false := by rfl) :
    SE X W (.Call (.Name x p) (e :: es) [] pos) (mLend mf ps.length C ix mr) := by
  subst hC
  obtain ⟨f, fd, F, hm, ok⟩ := h
  exact se_lend B ok hr tk hm F.kp (F.bindsN hb) ha hg hdb he hpl
end
theorem LOk.up {P : Program} {w : World} {K : PySem.W.Frag} {mg : Str → Option Value} {base : Heap} {j k : Nat} {e : LamE} (h : LOk P w K mg base j e) (l : j ≤ k) : LOk P w K mg base k e :=
  ⟨h.frk, fun A outer s g f c' dv C ts vs Q E hr => h.run A outer s g f c' dv C ts vs Q E (hr.mono l)⟩
theorem unN {k : Nat} {A : Around} (r : L2H.RoomH k A) : A.units + 64 < cLine := by have := r.un; omega
theorem hu65N {k : Nat} {A : Around} (r : L2H.RoomH k A) : A.units + 65 < cLine := by have := r.un; omega
/-! ### head: what is caught -/
def exm3B (K : PySem.W.Frag) (a b c : Str) (ct : List (Str × Bool)) : Bool := ct.all fun p => He.eqO (PySem.W.nsIn K mainGlobals p.1) (some (some (.ref (He.ga K p.1)))) && decide (PySem.W.exmAny K (.ref (He.ga K p.1)) [.ref (He.ga K a), .ref (He.ga K b), .ref (He.ga K c)] = some p.2)
def Exm3 (K : PySem.W.Frag) (mg : Str → Option Value) (a b c : Str) (ct : List (Str × Bool)) : Prop := ∀ p ∈ ct, ∀ C, mg p.1 = some (.ref C) → PySem.W.exmAny K (.ref C) [.ref (He.ga K a), .ref (He.ga K b), .ref (He.ga K c)] = some p.2
theorem exm3B_ok {K : PySem.W.Frag} {mg : Str → Option Value} {h : Heap} {a b c : Str} {ct : List (Str × Bool)} (X : K.In h) (G : h.Ns mainGlobals mg) (q : exm3B K a b c ct = true) : Exm3 K mg a b c ct := fun p hp C hC => by
  obtain ⟨b1, b2⟩ := bb (List.all_eq_true.mp q p hp)
  have e := PySem.W.mg_of X G (He.eqO_ok b1)
  rw [hC] at e
  cases e
  exact of_decide_eq_true b2
end Mi
end part_Mi48
section part_Mi49
set_option maxRecDepth 100000
set_option maxHeartbeats 2000000
/-! Mi, part 49: operators of own classes. -/
namespace Mi
open PySem PySem.Spec PyProof.Rows L2
/-- a result that is an object of the class -/
def fObB (c : Str) : T → MH → R := fun t h => if isCls c t h then .ok t h else .stuck
def fBinO (c : Str) (fm : List T → MH → R) : T → T → MH → R := fun t u h => if isCls c t h && isCls c u h then (fm [t, u] h).bind (fObB c) else .stuck
def fUnO (c : Str) (fm : List T → MH → R) : T → MH → R := fun t h => if isCls c t h then fm [t] h else .stuck
/-- the class stands first in its own order -/
structure SelfF (K : PySem.W.Frag) (mg : Str → Option Value) (c : Str) : Prop where
  at_ : ∀ C, mg c = some (.ref C) → PySem.W.selfFirst K C = true
section
variable {X : Cx} {W : WX} {g : G} {a b : Expr} {ma mb : ME} {k : Nat} {c qual mn : Str} {st : Stmt} {ps : List Str} {mf : MF} {fm : List T → MH → R} {σ : L2.St} {Q : VK} {pos : Pos} {H : Hp}
theorem binO_ok {op : Operator} (hmn : PySem.dunder op.info.2 = mn) (HS : SelfF X.K X.mg c) (Hm : HasMX X k c mn qual st ps [] mf) (hr : Room k X.A) (tk : Takes X W) (cl : Calls2 X W ps.length mf fm) (hb : PosD st mn qual ps 0 ps.length 0)
    {t u : T} {v w : V} {y z : Value} {pins : List (Addr × Obj)} {s : Shared} (R : Rel X.K X.mg g) (r1 : Rep X.K X.mg g t v) (r2 : Rep X.K X.mg g u w) (I : Inv X pins σ g.H s) (rv : RelV v y) (rw' : RelV w z) (h : wpR X.K X.mg W g σ Q (fBinO c fm t u g.h)) :
    wpAny (model X.prog X.w) X.A (binaryOp op y z) (EP X pins σ Q) X.xe s := by
  obtain ⟨C, f, fd, dvs, hC, hcl, hme, hf⟩ := Hm
  unfold fBinO at h
  split at h
  · rename_i zc
    obtain ⟨z1, z3⟩ := Bool.and_eq_true_iff.mp zc
    obtain ⟨p1, C1, dx, fs, rfl, hp, hc1⟩ := isCls_at R r1 z1
    have z2 : C1 = C := by rw [hC] at hc1; cases hc1; rfl
    subst z2
    obtain ⟨p2, C2, dx2, fs2, rfl, hp2, hc2⟩ := isCls_at R r2 z3
    have z4 : C2 = C1 := by rw [hC] at hc2; cases hc2; rfl
    subst z4
    cases (show y = Value.ref p1 from rv)
    cases (show z = Value.ref p2 from rw')
    obtain ⟨mA, O, _⟩ := ins_get I.hok hp
    obtain ⟨od, J, _⟩ := O.look
    obtain ⟨mA2, O2, _⟩ := ins_get I.hok hp2
    obtain ⟨od2, J2, _⟩ := O2.look
    obtain ⟨m, hF⟩ := I.fr
    refine PySem.W.binop_K (op := op) hF I.ok.mod.kin J J2.type (HS.at_ _ hC) (by rw [hmn]; exact hme.at_) hme.fn ?_
    refine wpAny_mono (run_in1 (A := X.A) (us := [Value.ref p1, Value.ref p2]) (vs := [V.ref p1, V.ref p2]) (Q := fun r H2 => (∃ p, r = .ref p) ∧ Q r H2) hf hr I.env0 tk hb I (.cons rfl (.cons rfl .nil)) ?_) (fun r s' hq => ?_) fun _ _ y => y
    · refine cl g σ [t, u] [V.ref p1, V.ref p2] _ R (RepL.cons r1 (RepL.cons r2 RepL.nil)) (wpR_bind h fun g2 t2 v2 e2 R2 r2 h2 => ?_)
      unfold fObB at h2
      split at h2
      · rename_i q
        obtain ⟨p3, C3, dx3, fs3, rfl, _, _⟩ := isCls_at R2 r2 q
        exact ⟨⟨p3, rfl⟩, wpR_here h2 R2 r2⟩
      · exact h2.elim
    · obtain ⟨v3, H3, I3, rv3, ⟨p, rfl⟩, q3⟩ := hq
      cases rv3
      exact ⟨.ref p, H3, I3, rfl, q3⟩
  · exact h.elim
/-- a op b of one own class -/
theorem se_binO {op : Operator} (hmn : PySem.dunder op.info.2 = mn) (HS : SelfF X.K X.mg c) (Hm : HasMX X k c mn qual st ps [] mf) (hr : Room k X.A) (tk : Takes X W) (cl : Calls2 X W ps.length mf fm) (hb : PosD st mn qual ps 0 ps.length 0)
    (ha : SE X W a ma) (hb' : SE X W b mb) : SE X W (.BinOp a op b pos) (m2 (fBinO c fm) ma mb) := by
  refine ⟨fun pins s σ H Q I h => ?_⟩
  obtain ⟨g, s0, rfl, R, S, h⟩ := h
  have key : tM X.K X.mg W ma σ g.H (fun v H1 => tM X.K X.mg W mb σ H1 fun w H2 => ∃ g2 t u, g2.H = H2 ∧ Rel X.K X.mg g2 ∧ Rep X.K X.mg g2 t v ∧ Rep X.K X.mg g2 u w ∧ wpR X.K X.mg W g2 σ Q (fBinO c fm t u g2.h)) :=
    ⟨g, s0, rfl, R, S, wpR_bind h fun g1 t v e1 R1 r1 h1 => ⟨g1, s0, rfl, R1, S.mono e1, wpR_bind h1 fun g2 u w e2 R2 r2 h2 => ⟨g2, t, u, rfl, R2, r1.mono e2, r2, h2⟩⟩⟩
  refine wpAny_BinOp (binT (Q := EP X pins σ Q) (f := binaryOp op) ha hb' I key fun v u s2 x y H2 I2 rx ry ⟨g2, t, u', e, R2, r1, r2, h2⟩ => ?_)
  subst e
  exact binO_ok hmn HS Hm hr tk cl hb R2 r1 r2 I2 rx ry h2
/-- ~a of an own class -/
theorem se_invO (Hm : HasMX X k c "__invert__" qual st ps [] mf) (hr : Room k X.A) (tk : Takes X W) (cl : Calls2 X W ps.length mf fm) (hb : PosD st "__invert__" qual ps 0 ps.length 0)
    (ha : SE X W a ma) : SE X W (.UnaryOp .Invert a pos) (m1 (fUnO c fm) ma) := by
  refine ⟨fun pins s σ H Q I h => ?_⟩
  obtain ⟨g, s0, rfl, R, S, h⟩ := h
  obtain ⟨C, f, fd, dvs, hC, hcl, hme, hf⟩ := Hm
  have key : tM X.K X.mg W ma σ g.H (fun v H1 => ∃ g1 t, g1.H = H1 ∧ Rel X.K X.mg g1 ∧ Rep X.K X.mg g1 t v ∧ wpR X.K X.mg W g1 σ Q (fUnO c fm t g1.h)) :=
    ⟨g, s0, rfl, R, S, wpR_bind h fun g1 t v e1 R1 r1 h1 => ⟨g1, t, rfl, R1, r1, h1⟩⟩
  refine UnaryOp_ (thn (ha.run pins s σ g.H _ I key) fun y s1 ⟨v, H1, I1, rv, g1, t, e, R1, r1, h1⟩ => ?_)
  subst e
  unfold fUnO at h1
  split at h1
  · rename_i z1
    obtain ⟨p1, C1, dx, fs, rfl, hp, hc1⟩ := isCls_at R1 r1 z1
    have z2 : C1 = C := by rw [hC] at hc1; cases hc1; rfl
    subst z2
    cases (show y = Value.ref p1 from rv)
    obtain ⟨mA, O, _⟩ := ins_get I1.hok hp
    obtain ⟨od, J, _⟩ := O.look
    obtain ⟨m, hF⟩ := I1.fr
    refine PySem.W.ksp_inv hF I1.ok.mod.kin J hme.at_ hme.fn ?_
    exact run_in1 (A := X.A) (us := [Value.ref p1]) (vs := [V.ref p1]) (Q := Q) hf hr I1.env0 tk hb I1 (.cons rfl .nil) (cl g1 σ [t] [V.ref p1] _ R1 (RepL.cons r1 RepL.nil) h1)
  · exact h1.elim
end
/-! ### x = [.. for .. for ..], x of the frame alone -/
section
variable {X : Cx} {W : WX} {mt mt1 me : ME} {x : Str} {pos p : Pos}
theorem ss_setLc2 {i : Nat} {py : Pos} {elt tg iter tg1 iter1 : Expr} {ifs ifs1 : List Expr} {scope : Scope} {own : List (Str × Nat)} {vs1 : List Nat} {mi mi1 : MI} {mgt mgt1 : MG} {tl tl1 : List Nat} (hc : X.calm = true) (hN : X.N.Nodup) (hi : SI X W tg iter mi) (ok : BlkOk X.N X.env.scope scope own) (htl : subN tl (own.map (·.2)) = true) (htl1 : subN tl1 vs1 = true) (hv : subN vs1 (own.map (·.2)) = true)
    (hg : ∀ (s : Shared) (H : Hp) (C : Addr) (cl : List (Str × Addr)) (fp : List Addr), SG (X.blk s H scope (compEnvC scope cl C X.env) fp) tg tl mgt)
    (ht : ∀ (s : Shared) (H : Hp) (C : Addr) (cl : List (Str × Addr)) (fp : List Addr), PTs (X.blk s H scope (compEnvC scope cl C X.env) fp) ifs (tMT X.K X.mg W0 mt))
    (hi1 : ∀ (s : Shared) (H : Hp) (C : Addr) (cl : List (Str × Addr)) (fp : List Addr), SI (X.blk s H scope (compEnvC scope cl C X.env) fp) W0 tg1 iter1 mi1)
    (hg1 : ∀ (s : Shared) (H : Hp) (C : Addr) (cl : List (Str × Addr)) (fp : List Addr), SG (X.blk s H scope (compEnvC scope cl C X.env) fp) tg1 tl1 mgt1)
    (ht1 : ∀ (s : Shared) (H : Hp) (C : Addr) (cl : List (Str × Addr)) (fp : List Addr), PTs (X.blk s H scope (compEnvC scope cl C X.env) fp) ifs1 (tMT X.K X.mg W0 mt1))
    (he : ∀ (s : Shared) (H : Hp) (C : Addr) (cl : List (Str × Addr)) (fp : List Addr), SE (X.blk s H scope (compEnvC scope cl C X.env) fp) W0 elt me)
    (hsw : swapsWith (.ListComp elt [⟨tg, iter, ifs, 0⟩, ⟨tg1, iter1, ifs1, 0⟩] scope p) (some (.Name x py)) pos.line X.env = pure true) (hy : X.N[i]? = some x := by rfl) (hyl : X.env.scope.names.lookup x = some .local := by rfl)
    (hs : ∀ x, foldedSetIterable iter X.env x = pure x := by intro _; rfl) (hs1 : ∀ env x, foldedSetIterable iter1 env x = pure x := by intro _ _; rfl) :
    SS X W (.Assign [.Name x py] (.ListComp elt [⟨tg, iter, ifs, 0⟩, ⟨tg1, iter1, ifs1, 0⟩] scope p) pos) (mSet i (mLc2 mi mgt mt mi1 mgt1 mt1 me (own.map (·.2)) vs1)) :=
  weakS (ps_setLc2 hc hN hy hyl hsw hi ok (subN_ok hv) hg ht hi1 hg1 ht1 he hs hs1) fun D σ H h => by
    obtain ⟨g, s, rfl, R, S, h⟩ := h
    exact use_lc2 (W := W) (subN_ok htl) (subN_ok htl1) ⟨g, s, rfl, R, S, wpS_bind S h fun g1 t v e1 R1 r1 h1 => h1 g1 _ rfl (Ext.refl _) R1 ((S.mono e1).set r1 i)⟩
end
/-! ### head -/
section
variable {K : PySem.W.Frag} {mg : Str → Option Value} {h : Heap} {c : Str}
def selfB (K : PySem.W.Frag) (c : Str) : Bool := gloB K c && PySem.W.selfFirst K (He.ga K c)
theorem selfB_ok (X : K.In h) (G : h.Ns mainGlobals mg) (b : selfB K c = true) : SelfF K mg c := by
  obtain ⟨b1, b2⟩ := bb b
  have e := PySem.W.mg_of X G (He.eqO_ok b1)
  refine ⟨fun C hC => ?_⟩
  rw [hC] at e; cases e
  exact b2
end
end Mi
end part_Mi49
section part_Mi50
set_option maxRecDepth 100000
set_option maxHeartbeats 2000000
/-! Mi, part 50: o.m(k = e, ..). -/
namespace Mi
open PySem PySem.Spec PyProof.Rows L2
def mMethK (c m : Str) (nk : Nat) (is : List Nat) (dts : List T) (fm : List T → MH → R) (mo : ME) (mk : MA) : ME := fun s h => (mo s h).bind fun t h1 => if isOf c m t h1 then (mk s h1).bind fun us h2 => if us.length = nk then fm (pick is (t :: (us ++ dts))) h2 else .stuck else .stuck
section
variable {X : Cx} {W : WX} {g : G} {a e : Expr} {ma : ME} {mr mk : MA} {k : Nat} {c qual x : Str} {st : Stmt} {ps : List Str} {mf : MF} {fm : List T → MH → R} {σ : L2.St} {Q : VK} {p pos apos : Pos} {H : Hp} {dts : List T} {kws : List Keyword} {ks : List Str} {is : List Nat}
theorem se_methK {pl : Sem Bool} (Hm : HasMX X k c x qual st ps dts mf) (hr : Room k X.A) (tk : Takes X W) (cl : Calls2 X W ps.length mf fm) (hb : KwD st x qual ps dts.length 1 ks is) (ho : SE X W a ma) (hkw : SK X W kws mk)
    (hall : (backToKw pos (keywordEach kws X.env)).all (·.1.isSome) = true := by rfl) (hks : (backToKw pos (keywordEach kws X.env)).filterMap (·.1) = ks := by rfl)
    (hpl : ((backTo pos (starEach [] X.env)).any (·.1) || (backToKw pos (keywordEach kws X.env)).any (·.1.isNone)) = false := by rfl)
    (ht : eval (.Call (.Attribute a x apos) [] kws pos) X.env = (do
      let ov ← eval a X.env
      standAt apos.atName
      let (f, first) ← holding [ov] (getMethod ov x pl)
      callWith pos f first (backTo pos (starEach [] X.env)) (backToKw pos (keywordEach kws X.env))) := by rfl) :
    SE X W (.Call (.Attribute a x apos) [] kws pos) (mMethK c x ks.length is dts fm ma mk) := by
  obtain ⟨C, f, fd, dvs, hC, hcl, hme, hf⟩ := Hm
  obtain ⟨its, rv0, hbs⟩ := kwD_binds hf hb
  refine ⟨fun pins s σ H Q I h => ?_⟩
  obtain ⟨g, s0, rfl, R, S, h⟩ := h
  refine PySem.W.methodCall_KW (pl := pl) (thn (ho.run pins s σ g.H _ I ⟨g, s0, rfl, R, S, wpR_bind (Q := Q) h (Q' := fun v H1 => ∃ g1 t, g1.H = H1 ∧ Ext g g1 ∧ Rel X.K X.mg g1 ∧ Rep X.K X.mg g1 t v ∧ wpR X.K X.mg W g1 σ Q (if isOf c x t g1.h then (mk s0 g1.h).bind fun us h2 => if us.length = ks.length then fm (pick is (t :: (us ++ dts))) h2 else .stuck else .stuck)) fun g1 t v e1 R1 r1 h1 => ⟨g1, t, rfl, e1, R1, r1, h1⟩⟩)
    fun u s1 ⟨v, H1, I1, rv, g1, t, eH, e1, R1, r1, h1⟩ => ?_) ht
  subst eH
  split at h1
  · rename_i q
    obtain ⟨p1, C1, dx, fs, rfl, hp, hc1, hl⟩ := isOf_at R1 r1 q
    have z : C1 = C := by rw [hC] at hc1; cases hc1; rfl
    subst z
    cases (show u = Value.ref p1 from rv)
    refine getmeth_ok I1 hp hcl hme hl ?_
    have key : tMA X.K X.mg W mk σ g1.H (fun zs H2 => zs.length = ks.length ∧ spM X.K X.mg ps.length mf (pick is (V.ref p1 :: (zs ++ dvs))) H2 Q (WE W σ)) :=
      ⟨g1, s0, rfl, R1, S.mono e1, wpL_of h1 fun g2 us zs e2 R2 r2 h2 => by
        split at h2
        · rename_i q
          refine ⟨by rw [← r2.length]; exact q, cl g2 σ (pick is (t :: (us ++ dts))) _ Q R2 (pick_repL (RepL.cons (r1.mono e2) (r2.append (hf.dr g2))) is) h2⟩
        · exact h2.elim⟩
    refine PySem.W.callWith_KW0 (first := [.ref p1]) (h₀ := X.base) I1.ok.mod.kin hme.kp hall ?_ hpl
    refine thn (hkw.run pos pins s1 σ g1.H _ I1 key) fun ws s2 ⟨zs, H2, I2, rz, l2, q2⟩ => ⟨I2.kIn, ?_⟩
    rw [hks]
    exact run_at (args := ⟨[Value.ref p1], ks.zip ws⟩) hf.ok hr (passAt tk σ) I2 (hbs s2 [Value.ref p1] ws I2.kIn rfl (rz.length.symm.trans l2)) (pick_vals (show Vals (V.ref p1 :: (zs ++ dvs)) (Value.ref p1 :: (ws ++ its)) from .cons rfl (rz.append rv0)) is) q2
  · exact h1.elim
end
end Mi
end part_Mi50
section part_Mi51
set_option maxRecDepth 100000
set_option maxHeartbeats 2000000
/-! Mi, part 51: xs[::-1], lists and tuples. -/
namespace Mi
open PySem PySem.Spec PyProof.Rows L2 HT
section
variable {prog : Program} {w : World} {A : Around} {E : Value → Shared → Prop} {s : Shared}
theorem fm : ∀ (l : List Nat) (f g : Nat → Option Value), (∀ m ∈ l, f m = g m) → l.filterMap f = l.filterMap g
  | [], _, _, _ => rfl
  | a :: l, f, g, h => by
    simp only [List.filterMap_cons, h a List.mem_cons_self, fm l f g fun m hm => h m (List.mem_cons_of_mem _ hm)]
theorem rev_pick (xs : Array Value) : ((List.range xs.size).filterMap fun (m : Nat) => xs[((xs.size : Int) - 1 + (m : Int) * (-1)).toNat]?) = xs.toList.reverse := by
  have e : ∀ m ∈ List.range xs.size, xs[((xs.size : Int) - 1 + (m : Int) * (-1)).toNat]? = some (xs.toList.reverse.getD m .none) := fun m hm => by
    have l := List.mem_range.mp hm
    have e1 : ((xs.size : Int) - 1 + (m : Int) * (-1)).toNat = xs.size - 1 - m := by omega
    have l2 : xs.size - 1 - m < xs.size := by omega
    have l3 : m < xs.toList.reverse.length := by simpa using l
    rw [e1, Array.getElem?_eq_getElem l2, List.getD_eq_getElem?_getD, List.getElem?_eq_getElem l3, List.getElem_reverse]
    simp
  have e2 : ((List.range xs.size).filterMap fun (m : Nat) => xs[((xs.size : Int) - 1 + (m : Int) * (-1)).toNat]?) = (List.range xs.size).filterMap fun m => some (xs.toList.reverse.getD m .none) := by
    exact fm _ _ _ e
  rw [e2]
  have e3 : ((List.range xs.size).filterMap fun m => some (xs.toList.reverse.getD m .none)) = (List.range xs.size).map fun m => xs.toList.reverse.getD m .none := congrFun List.filterMap_eq_map' _
  rw [e3]
  apply List.ext_getElem
  · simp
  · intro i h1 h2
    rw [List.getElem_map, List.getElem_range, List.getD_eq_getElem?_getD, List.getElem?_eq_getElem h2]
    rfl
theorem sliceApplied_rev {sl : Addr} {vl vu : Value} {t : Tok} {n : Nat} {Q : Int × Int × Nat → Shared → Prop} (hs : s.heap.IsSliceOf sl vl vu (.int (-1) t)) (pl : IsPart vl none) (pu : IsPart vu none)
    (h : Q ((n : Int) - 1, -1, n) s) : wpAny (model prog w) A (Builtin.Slice.sliceApplied (.ref sl) (pure (n : Int))) Q E s := by
  obtain ⟨os, hos, hcs, hds⟩ := id hs
  unfold Builtin.Slice.sliceApplied Builtin.Slice.sliceFields
  refine wpAny_bind (wpAny_bind (wpAny_field hos hds (x := vl) rfl (wpAny_bind (wpAny_field hos hds (x := vu) rfl (wpAny_bind (wpAny_field hos hds (x := .int (-1) t) rfl (wpAny_pure ?_)))))))
  refine wpAny_bind (slicePart_int ?_)
  show wpAny _ _ (if ((-1 : Int) == 0) = true then _ else _) _ _ s
  rw [if_neg (by decide)]
  refine wpAny_bind (slicePart_ pl (wpAny_bind (slicePart_ pu (wpAny_bind (wpAny_pure ?_)))))
  have e1 : Builtin.Slice.sliceAdjust none none (-1) (n : Int) = ((n : Int) - 1, -1) := rfl
  show wpAny _ _ (match Builtin.Slice.sliceAdjust none none (-1) (n : Int) with | (lo, hi) => pure (lo, (-1 : Int), Builtin.Slice.slicePlaces lo hi (-1))) _ _ s
  rw [e1]
  show wpAny _ _ (pure ((n : Int) - 1, (-1 : Int), Builtin.Slice.slicePlaces ((n : Int) - 1) (-1) (-1))) _ _ s
  have e2 : Builtin.Slice.slicePlaces ((n : Int) - 1) (-1) (-1) = n := by
    unfold Builtin.Slice.slicePlaces
    rw [if_neg (by decide)]
    split
    · simp only [Int.neg_neg, Int.ediv_one]; omega
    · omega
  rw [e2]
  exact wpAny_pure h
theorem getItem_tuple_rev {t sl : Addr} {items : Array Value} {vl vu : Value} {tk : Tok} {Q : Value → Shared → Prop} (ht : IsTup s.heap t items) (hs : s.heap.IsSliceOf sl vl vu (.int (-1) tk)) (pl : IsPart vl none) (pu : IsPart vu none)
    (h : Q (.ref s.heap.objs.size) { s with heap := s.heap.push { cls := .type "tuple", data := .seq items.toList.reverse.toArray } })
    (hsz : items.size ≤ sizeLine) : wpAny (model prog w) A (getItem (.ref t) (.ref sl)) Q E s := by
  have htake : sizeOk (.seq items.toList.reverse.toArray) := by
    show items.toList.reverse.toArray.size ≤ sizeLine
    simpa using hsz
  obtain ⟨os, hos, hcs, hds⟩ := id hs
  have hTs : s.TypeIs (.ref sl) "slice" := ⟨os, hos, hcs⟩
  unfold getItem
  try with_reducible refine wpAny_holding ?_
  first | refine wpAny_bind (wpAny_pure ?_) | skip
  refine wpAny_bind (wpAny_sequenceKey ht.typeIs (by decide) ?_)
  refine wpAny_bind (wpAny_callSpecial?_slot (name := Str.ofString "__getitem__") ht.typeIs PyProof.Rows.slot_tuple_getitem
    (wpAny_call_entry PyProof.Rows.slot_tuple_getitem ht.typeIs entry_tuple_getitem ?_ (args_tuple_getitem _ _)))
  show wpAny _ _ (Builtin.Tuple.tupleItemsOf (.ref t) >>= _) _ _ s
  refine wpAny_bind (tupleItemsOf_ ht ?_)
  refine wpAny_bind (wpAny_typeOf hTs ?_)
  rw [if_pos (by decide)]
  refine wpAny_bind (sliceApplied_rev hs pl pu ?_)
  show wpAny _ _ (if (((items.size : Int) - 1) == 0 && (-1 : Int) == 1 && items.size == items.size) = true then _ else _) _ _ s
  rw [if_neg (by simp), rev_pick]
  first
    | exact wpAny_bind (m := Builtin.Tuple.tupleExact _) (wpAny_newObj_type (wpAny_pure ⟨_, rfl, wpAny_pure h⟩) htake)
    | exact wpAny_bind (m := Builtin.Tuple.tupleExact _) (wpAny_newObj_type (wpAny_bind (wpAny_pure (wpAny_pure ⟨_, rfl, wpAny_pure h⟩))) htake)
    | exact wpAny_bind (wpAny_bind (m := Builtin.Tuple.tupleExact _) (wpAny_newObj_type (wpAny_pure (wpAny_pure ⟨_, rfl, wpAny_pure h⟩)) htake))
    | exact wpAny_bind (wpAny_bind (m := Builtin.Tuple.tupleExact _) (wpAny_newObj_type (wpAny_pure ⟨_, rfl, wpAny_pure h⟩) htake))
end
def fRev : T → MH → R := fun t h => match t with
  | .tup xs => .ok (.tup xs.reverse) h
  | _ => match lstOf t h with
    | some xs => .ok (.lst xs.reverse) h
    | none => .stuck
theorem repL_rev {K : PySem.W.Frag} {mg : Str → Option Value} {g : G} : ∀ {ts : List T} {vs : List V}, RepL K mg g ts vs → RepL K mg g ts.reverse vs.reverse
  | [], vs, r => by
    simp only [RepL] at r
    subst r
    exact RepL.nil
  | t :: ts, vs, r => by
    simp only [RepL] at r
    obtain ⟨v, q, e, h1, h2⟩ := r
    subst e
    rw [List.reverse_cons, List.reverse_cons]
    exact (repL_rev h2).append (RepL.cons h1 RepL.nil)
section
variable {X : Cx} {W : WX} {a : Expr} {ma : ME}
theorem se_rev {k : Nat} {p1 p2 p3 pos : Pos} (ha : SE X W a ma) : SE X W (.Subscript a (.Slice none none (some (.UnaryOp .USub (.Constant (.int 1) k p1) p2)) p3) pos) (m1 fRev ma) := by
  refine ⟨fun pins s σ H Q I h => ?_⟩
  obtain ⟨g0, sm, rfl, R0, S0, h⟩ := h
  have key : tM X.K X.mg W ma σ g0.H (fun v H1 => ∃ g1 t, g1.H = H1 ∧ Rel X.K X.mg g1 ∧ Rep X.K X.mg g1 t v ∧ wpR X.K X.mg W g1 σ Q (fRev t g1.h)) :=
    ⟨g0, sm, rfl, R0, S0, wpR_bind h fun g1 t v e1 R1 r1 h1 => ⟨g1, t, rfl, R1, r1, h1⟩⟩
  refine Subscript_ (thn (ha.run pins s σ g0.H _ I key) fun y s1 ⟨x, H1, I1, rv, g, t, eH, R, r1, q⟩ => ?_)
  subst eH
  have hst : PO X (some (.UnaryOp .USub (.Constant (.int 1) k p1) p2)) (tPart (tUn (rU fun i => .int (-i)) (tC (.int 1)))) := po_some (pe_un un_neg pe_int)
  refine wpAny_Slice (thn (po_none.run pins s1 σ g.H (fun o H2 => o = none ∧ H2 = g.H) I1 ⟨rfl, rfl⟩) fun vl s2 ⟨l, H2, I2, pl, el, e2⟩ => ?_)
  subst el e2
  refine thn (po_none.run pins s2 σ g.H (fun o H3 => o = none ∧ H3 = g.H) I2 ⟨rfl, rfl⟩) fun vu s3 ⟨u, H3, I3, pu, eu, e3⟩ => ?_
  subst eu e3
  refine thn (hst.run pins s3 σ g.H (fun o H4 => o = some (-1) ∧ H4 = g.H) I3 ⟨1, rfl, -1, rfl, rfl, rfl⟩) fun vs s4 ⟨o, H4, I4, ps, eo, e4⟩ => ?_
  subst eo e4
  have I5 : Inv X pins σ g.H { s4 with heap := s4.heap.push { cls := .type "slice", data := .fields #[vl, vu, vs] } } := I4.kept (t' := s4.toks) fun b ob q => Heap.get?_push_of_some _ q
  have lists : ∀ xs, lstOf t g.h = some xs → wpR X.K X.mg W g σ Q (.ok (.lst xs.reverse) g.h) → wpAny (model X.prog X.w) X.A (subscriptTail a (.Slice none none (some (.UnaryOp .USub (.Constant (.int 1) k p1) p2)) p3) y (.ref s4.heap.objs.size)) (EP X pins σ Q) X.xe { s4 with heap := s4.heap.push { cls := .type "slice", data := .fields #[vl, vu, vs] } } := fun xs hx hq => by
    obtain ⟨p, ws, rfl, hp, lp⟩ := lst_of R r1 hx
    cases (show y = Value.ref p from rv)
    obtain ⟨its, r, ht, hz⟩ := I5.list hp
    have hlen := r.length
    refine tail_any (ops := [.ref p, .ref s4.heap.objs.size]) ht.isList.typeIs (PySem.slot_list_getitem.lookup) ?_ (by with_unfolding_all rfl)
    refine wpAny_getItem_list_slice ht.isList (Heap.IsSliceOf.new _ vl vu vs) pl pu ps (by decide) ?_ (by rw [List.size_toArray]; omega)
    rw [PySem.W.krv_pick]
    refine ⟨.ref _, _, I5.laid (t' := s4.toks) (o := .lst ws.reverse) (fun b ob q => Heap.get?_push_of_some _ q) (Nat.le_refl _) ?_, rfl, wpR_lst hq R (repL_rev lp) (I5.hok.fresh (Nat.le_refl _))⟩
    exact ⟨by rw [List.length_reverse]; exact hz, _, 0, r.reverse, Heap.get?_push_size _ rfl⟩
  unfold fRev at q
  split at q
  · rename_i xs
    obtain ⟨p, ws, rfl, hp, lp⟩ := r1.sqT
    cases (show y = Value.ref p from rv)
    obtain ⟨its, r, ht, hz⟩ := I5.tuple hp
    have hlen := r.length
    cases ps with
    | int _ tk =>
      refine tail_any (ops := [.ref p, .ref s4.heap.objs.size]) ht.typeIs (PyProof.Rows.slot_tuple_getitem.lookup) ?_ (by with_unfolding_all rfl)
      refine getItem_tuple_rev ht (Heap.IsSliceOf.new _ vl vu (.int (-1) tk)) pl pu ?_ (by rw [List.size_toArray]; omega)
      refine ⟨.ref _, _, I5.laid (t' := s4.toks) (o := .frz { cls := .type "tuple", data := .seq its.reverse.toArray } (.tup ws.reverse)) (fun b ob q => Heap.get?_push_of_some _ q) (Nat.le_refl _) ?_, rfl, wpR_tup q R (repL_rev lp) (I5.hok.fresh (Nat.le_refl _)) rfl⟩
      exact ⟨Heap.get?_push_size _ rfl, by rw [List.length_reverse]; exact hz, _, r.reverse, IsTup.new _ _⟩
  · split at q
    · rename_i xs hx
      exact lists xs hx q
    · exact q.elim
end
end Mi
end part_Mi51
section part_Mi52
set_option maxRecDepth 100000
set_option maxHeartbeats 2000000
/-! Mi, part 52: sorted(xs), xs a list of data that compare, of any length and depth. -/
namespace Mi
open PySem PySem.Spec PyProof.Rows L2
/-- a tree's data -/
def dT (t : T) : PyData := (toD t).getD .none
/-- x before y, or equal -/
def leD (x y : T) : Bool := !PySem.W.dataLt (dT y) (dT x)
def insD (x : T) : List T → List T
  | [] => [x]
  | y :: ys => if leD x y then x :: y :: ys else y :: insD x ys
def srtD (xs : List T) : List T := xs.foldr insD []
theorem leD_total : PySem.W.TotalLe leD := PySem.W.sortLe_total (PyProof.Rows.listOrd PyProof.Rows.itemOrd) false fun t => PySem.W.keyToks (dT t)
theorem insD_app {x : T} : ∀ {l1 l2 : List T}, (∀ b ∈ l1, leD x b = false) → (∀ b ∈ l2, leD x b = true) → insD x (l1 ++ l2) = l1 ++ x :: l2
  | [], [], _, _ => rfl
  | [], y :: ys, _, h => by
    show (if leD x y then x :: y :: ys else y :: insD x ys) = _
    rw [if_pos (h y List.mem_cons_self)]; rfl
  | z :: l1, l2, h1, h2 => by
    show (if leD x z then x :: z :: (l1 ++ l2) else z :: insD x (l1 ++ l2)) = _
    rw [if_neg (by rw [h1 z List.mem_cons_self]; decide), insD_app (fun b hb => h1 b (List.mem_cons_of_mem _ hb)) h2]; rfl
theorem srtD_merge : ∀ xs : List T, xs.mergeSort leD = srtD xs
  | [] => by simp [srtD]
  | x :: xs => by
    obtain ⟨l1, l2, e1, e2, e3⟩ := List.mergeSort_cons (le := leD) (fun a b c => leD_total.trans a b c) (fun a b => by simpa using leD_total.total a b) x xs
    have ps := List.pairwise_mergeSort (le := leD) (fun a b c => leD_total.trans a b c) (fun a b => by simpa using leD_total.total a b) (x :: xs)
    rw [e1] at ps ⊢
    have e4 : srtD (x :: xs) = insD x (l1 ++ l2) := by
      show insD x (srtD xs) = _
      rw [← srtD_merge xs, e2]
    rw [e4, insD_app (fun b hb => by simpa using e3 b hb) fun b hb => (List.pairwise_cons.mp (List.pairwise_append.mp ps).2.1).1 b hb]
def alikeB (ds : List PyData) : Bool := ds.all fun d => ds.all fun e => PySem.W.alike d e
def tupB : PyData → Bool
  | .tuple (_ :: _) => true
  | _ => false
def lowB : PyData → Bool
  | .none => false
  | .tuple _ => false
  | _ => true
def sortB (ds : List PyData) : Bool := alikeB ds && ((ds.all tupB || ds.all lowB) && ds.all fun d => decide (d.depth ≤ 60))
def sortD (xs : List T) (h : MH) : R := match toDs xs with
  | some ds => if sortB ds then .ok (.lst (srtD xs)) h else .stuck
  | none => .stuck
def fSortD : List T → MH → R := fun ts h => match ts with
  | [.lst xs] => sortD xs h
  | [.frl xs] => sortD xs h
  | _ => .stuck
theorem toDs_map : ∀ {xs : List T} {ds : List PyData}, toDs xs = some ds → ds = xs.map dT ∧ ∀ x ∈ xs, ∃ d, toD x = some d
  | [], ds, e => by
    simp only [toDs] at e
    cases e
    exact ⟨rfl, fun x h => by cases h⟩
  | x :: xs, ds, e => by
    simp only [toDs] at e
    split at e
    · rename_i d ds1 e1 e2
      cases e
      obtain ⟨z1, z2⟩ := toDs_map e2
      refine ⟨?_, fun y hy => ?_⟩
      · rw [List.map_cons, ← z1]
        show d :: ds1 = (toD x).getD .none :: ds1
        rw [e1]; rfl
      · rcases List.mem_cons.mp hy with q | q
        · rw [q]; exact ⟨d, e1⟩
        · exact z2 y q
    · cases e
theorem alikeB_ok {ds : List PyData} (h : alikeB ds = true) : PySem.W.AllAlike ds := fun d hd e he => by
  unfold alikeB at h
  exact List.all_eq_true.mp (List.all_eq_true.mp h d hd) e he
theorem tupB_ok {d : PyData} (h : tupB d = true) : ∃ x r, d = .tuple (x :: r) := by
  cases d with
  | tuple xs => cases xs with
    | nil => cases h
    | cons x r => exact ⟨x, r, rfl⟩
  | _ => cases h
theorem lowB_ok {d : PyData} (h : lowB d = true) : d ≠ .none ∧ ∀ xs, d ≠ .tuple xs := by
  cases d with
  | none => cases h
  | tuple xs => cases h
  | _ => exact ⟨(by intro z; cases z), fun xs z => by cases z⟩
theorem sortB_ok {ds : List PyData} (h : sortB ds = true) : PySem.W.AllAlike ds ∧ PySem.W.Sortable ds ∧ ∀ d ∈ ds, d.depth ≤ 60 := by
  unfold sortB at h
  obtain ⟨h1, h⟩ := Bool.and_eq_true_iff.mp h
  obtain ⟨h2, h3⟩ := Bool.and_eq_true_iff.mp h
  refine ⟨alikeB_ok h1, ?_, fun d hd => of_decide_eq_true (List.all_eq_true.mp h3 d hd)⟩
  rcases Bool.or_eq_true_iff.mp h2 with q | q
  · exact .inl fun d hd => tupB_ok (List.all_eq_true.mp q d hd)
  · exact .inr fun d hd => lowB_ok (List.all_eq_true.mp q d hd)
/-- the rule -/
def rSortD (K : PySem.W.Frag) : List V → Hp → VK → Prop := fun vs H Q => ∃ (a : Addr) (bs : List (T × V)), vs = [V.ref a] ∧ SqL K H a (bs.map (·.2)) ∧ (∀ b ∈ bs, Dp K H b.2 (dT b.1)) ∧ PySem.W.AllAlike (bs.map fun b => dT b.1) ∧ PySem.W.Sortable (bs.map fun b => dT b.1) ∧ (∀ b ∈ bs, (dT b.1).depth ≤ 60) ∧
  ∀ p, H p = none → Q (.ref p) (upd H p (.lst ((bs.mergeSort (PySem.W.dataLe false fun b => dT b.1)).map (·.2))))
theorem each_of : ∀ {bs : List (T × V)} {us : List Value}, Vals (bs.map (·.2)) us → PySem.W.EachIs (fun v (b : T × V) => RelV b.2 v) us bs
  | [], _, h => by
    cases h
    exact .nil
  | b :: bs, _, h => by
    cases h with
    | cons r t => exact .cons r (each_of t)
theorem vals_of : ∀ {bs : List (T × V)} {us : List Value}, PySem.W.EachIs (fun v (b : T × V) => RelV b.2 v) us bs → Vals (bs.map (·.2)) us
  | [], _, h => by
    cases h
    exact .nil
  | b :: bs, _, h => by
    cases h with
    | cons r t => exact .cons r (vals_of t)
section
variable {X : Cx} {K : PySem.W.Frag} {mg : Str → Option Value} {g : G}
theorem each_reads {pins : List (Addr × Obj)} {σ : L2.St} {H : Hp} {s : Shared} (I : Inv X pins σ H s) : ∀ {bs : List (T × V)} {us : List Value}, (∀ b ∈ bs, Dp X.K H b.2 (dT b.1)) → PySem.W.EachIs (fun v (b : T × V) => RelV b.2 v) us bs →
    PySem.W.EachIs (fun v (b : T × V) => ∃ as, Reads s.heap v (dT b.1) as) us bs
  | [], _, _, h => by
    cases h
    exact .nil
  | b :: bs, _, hd, h => by
    cases h with
    | cons r t => exact .cons (Dp.reads I _ _ _ (hd b List.mem_cons_self) r) (each_reads I (fun c hc => hd c (List.mem_cons_of_mem _ hc)) t)
theorem cr_sortD (hu : X.A.units + 64 < cLine) : CallR X (.builtin "sorted") (rSortD X.K) := by
  intro pins s σ H vs us Q I r h
  obtain ⟨a, bs, rfl, hs, hd, hal, hk, hdep, q⟩ := h
  obtain ⟨its, rv, hl, hz⟩ := I.list hs
  rw [Vals.ref1 r]
  have e1 := each_of rv
  refine PySem.W.sorted_data (enc := fun b : T × V => dT b.1) (R := fun v (b : T × V) => RelV b.2 v) hl.isList e1 (each_reads I hd e1) hal hk (by rw [List.length_map] at hz; exact hz) (fun b hb => by have := hdep b hb; omega) fun out h1 h2 => ?_
  obtain ⟨ep, he'⟩ := PyProof.Rows.sortedAll_at s.heap its out.toArray
  have hlen : ((bs.mergeSort (PySem.W.dataLe false fun b => dT b.1)).map (·.2)).length ≤ sizeLine := by
    rw [List.length_map, List.length_mergeSort]
    rw [List.length_map] at hz
    exact hz
  exact ⟨.ref _, upd H (s.heap.objs.size + 1) (.lst ((bs.mergeSort (PySem.W.dataLe false fun b => dT b.1)).map (·.2))), I.laid (t' := s.toks) (fun _ _ => PyProof.Rows.sortedAll_old) (Nat.le_succ _) ⟨hlen, out, ep, vals_of h2, he'⟩, rfl, q _ (I.hok.fresh (Nat.le_succ _))⟩
theorem repL_zip : ∀ {ts : List T} {vs : List V}, RepL K mg g ts vs → ∃ bs : List (T × V), ts = bs.map (·.1) ∧ vs = bs.map (·.2) ∧ ∀ b ∈ bs, Rep K mg g b.1 b.2
  | [], vs, h => by
    simp only [RepL] at h
    exact ⟨[], rfl, h, fun b hb => by cases hb⟩
  | t :: ts, vs, h => by
    simp only [RepL] at h
    obtain ⟨v, r, rfl, h1, h2⟩ := h
    obtain ⟨bs, e1, e2, h3⟩ := repL_zip h2
    refine ⟨(t, v) :: bs, by rw [e1]; rfl, by rw [e2]; rfl, fun b hb => ?_⟩
    rcases List.mem_cons.mp hb with e | e
    · rw [e]; exact h1
    · exact h3 b e
theorem repL_unzip : ∀ {bs : List (T × V)}, (∀ b ∈ bs, Rep K mg g b.1 b.2) → RepL K mg g (bs.map (·.1)) (bs.map (·.2))
  | [], _ => RepL.nil
  | b :: bs, h => RepL.cons (h b List.mem_cons_self) (repL_unzip fun c hc => h c (List.mem_cons_of_mem _ hc))
theorem srtD_zip {bs : List (T × V)} : (bs.mergeSort (PySem.W.dataLe false fun b => dT b.1)).map (·.1) = srtD (bs.map (·.1)) := by
  rw [← srtD_merge]
  exact List.map_mergeSort fun a _ b _ => rfl
theorem mSortD : CallM X fSortD (rSortD X.K) := by
  intro W g σ ts vs Q R r h
  have key : ∀ (xs : List T) (l : Addr) (ws : List V), SqL X.K g.H l ws → RepL X.K X.mg g xs ws → wpR X.K X.mg W g σ Q (sortD xs g.h) → rSortD X.K [V.ref l] g.H Q := by
    intro xs l ws hsq hr h
    unfold sortD at h
    split at h
    · rename_i ds hds
      split at h
      · rename_i hb
        obtain ⟨bs, e1, e2, hb1⟩ := repL_zip hr
        obtain ⟨ed, hto⟩ := toDs_map hds
        obtain ⟨s1, s2, s3⟩ := sortB_ok hb
        have e3 : ds = bs.map fun b => dT b.1 := by rw [ed, e1, List.map_map]; rfl
        subst e1 e2
        rw [e3] at s1 s2 s3
        refine ⟨l, bs, rfl, hsq, fun b hb => ?_, s1, s2, fun b hb => s3 _ (List.mem_map.mpr ⟨b, hb, rfl⟩), fun p hp => ?_⟩
        · obtain ⟨d, e⟩ := hto b.1 (List.mem_map.mpr ⟨b, hb, rfl⟩)
          have z : dT b.1 = d := by unfold dT; rw [e]; rfl
          rw [z]
          exact dp_of _ _ _ (hb1 b hb) e
        · refine wpR_lst h R ?_ hp
          rw [← srtD_zip]
          exact repL_unzip fun b hb => hb1 b ((List.mergeSort_perm bs _).mem_iff.mp hb)
      · exact h.elim
    · exact h.elim
  unfold fSortD at h
  split at h
  · rename_i xs
    obtain ⟨v, rfl, rv⟩ := r.one
    obtain ⟨l, ws, rfl, hsq, hr⟩ := rv.sqL
    exact key xs l ws hsq hr h
  · rename_i xs
    obtain ⟨v, rfl, rv⟩ := r.one
    obtain ⟨l, ws, rfl, hsq, hr⟩ := rv.sqF
    exact key xs l ws hsq hr h
  · exact h.elim
end
end Mi
end part_Mi52
section part_Mi53
set_option maxRecDepth 100000
set_option maxHeartbeats 4000000
/-! Mi, part 53: static methods with one keyword-only parameter, read off their class. -/
namespace Mi
open PySem PySem.Spec PyProof.Rows L2
/-- C.m is a staticmethod: its record at p, its def at g -/
structure SMet (K : PySem.W.Frag) (C : Addr) (mc : Value) (m : Str) (p g : Addr) : Prop where
  at_ : PySem.W.findCls K (.ref C) mc m = some (.get (.builtin "staticmethod.__get__") (.ref p) .none (.ref C))
  rc : ∃ rest, PySem.W.recIn K p "staticmethod" = some (.ref g :: rest)
/-- a def with keyword-only defaults kdts -/
structure FnK (P : Program) (w : World) (K : PySem.W.Frag) (mg : Str → Option Value) (base : Heap) (k : Nat) (x qual : Str) (st : Stmt) (ps : List Str) (kdts : List (Str × T)) (m : MF) (f : Addr) (fd : FuncData) (kvs : List (Str × V)) : Prop where
  F : FunD K x qual (defArgs st) (defBody st) (defScope st) [] kvs f fd
  kn : kvs.map (·.1) = kdts.map (·.1)
  kr : ∀ g, RepL K mg g (kdts.map (·.2)) (kvs.map (·.2))
  ne : kvs ≠ []
  ok : FnOk P w K mg base (L2.CX P w) k f fd ps (spM K mg ps.length m)
def HasS (P : Program) (w : World) (K : PySem.W.Frag) (mg : Str → Option Value) (base : Heap) (k : Nat) (c x qual : Str) (st : Stmt) (ps : List Str) (kdts : List (Str × T)) (m : MF) : Prop :=
  ∃ C p f fd kvs mc, mg c = some (.ref C) ∧ ClX.CRead K C mc ∧ SMet K C mc x p f ∧ FnK P w K mg base k x qual st ps kdts m f fd kvs
theorem HasS.up {P : Program} {w : World} {K : PySem.W.Frag} {mg : Str → Option Value} {base : Heap} {j k : Nat} {c x qual : Str} {st : Stmt} {ps : List Str} {kdts : List (Str × T)} {m : MF} (h : HasS P w K mg base j c x qual st ps kdts m) (l : j ≤ k) : HasS P w K mg base k c x qual st ps kdts m := by
  obtain ⟨C, p, f, fd, kvs, mc, h1, h2, h3, h4⟩ := h
  exact ⟨C, p, f, fd, kvs, mc, h1, h2, h3, ⟨h4.F, h4.kn, h4.kr, h4.ne, h4.ok.mono l⟩⟩
/-- how a call binds: n positional values, keywords ks; the keyword-only parameters kn lack -/
def KwO (st : Stmt) (x qual : Str) (ps : List Str) (n : Nat) (kn ks : List Str) (is : List Nat) : Prop := ∀ (D : Addr) (doc pm : Value) (an : Option Addr) (cdv ct : Value) (us mv ws : List Value), us.length = n → mv.length = kn.length → ws.length = ks.length →
  KwChain D (kn.zip mv) (bindArgs (PySem.W.fnOf x qual (defArgs st) (defBody st) (defScope st) .none (.ref D) doc pm an cdv ct) ⟨us, ks.zip ws⟩) (ps.zip (pick is (us ++ ws ++ mv)))
section
variable {X : Cx} {K : PySem.W.Frag} {mg : Str → Option Value} {W : WX} {g : G} {σ : L2.St} {Q : VK}
variable {a b e : Expr} {ma mb me : ME} {mr mk : MA} {pos p apos : Pos} {es : List Expr} {c x : Str} {kws : List Keyword}
variable {k n j : Nat} {qual : Str} {st : Stmt} {ps ks : List Str} {is : List Nat} {kdts ms : List (Str × T)} {mf : MF} {fm : List T → MH → R}
abbrev HasSX (X : Cx) := HasS X.prog X.w X.K X.mg X.base
theorem kO_binds {P : Program} {w : World} {base : Heap} {m : MF} {f : Addr} {fd : FuncData} {kvs : List (Str × V)} (h : FnK P w K mg base k x qual st ps kdts m f fd kvs) (hms : ms = kdts ∨ ms = []) (hb : KwO st x qual ps n (ms.map (·.1)) ks is) :
    ∃ (mvs : List V) (mv : List Value), (∀ g, RepL K mg g (ms.map (·.2)) mvs) ∧ KBn K fd ps n ks (fun us ws => pick is (us ++ ws ++ mv)) (fun vs zs => pick is (vs ++ zs ++ mvs)) := by
  rcases hms with e | e
  · subst e
    obtain ⟨mv, kb⟩ := h.F.kbinds0 (ps := ps) n ks kvs (fun us mv ws => pick is (us ++ ws ++ mv)) h.ne (fun q hq => hq) (fun r1 r2 r3 => pick_vals ((r1.append r3).append r2) is) fun D doc pm an cdv ct us mv ws h1 h2 h3 => by
      rw [h.kn]
      refine hb D doc pm an cdv ct us mv ws h1 ?_ h3
      have := congrArg List.length h.kn
      rw [List.length_map] at this
      rw [h2, this]
    exact ⟨_, mv, h.kr, kb⟩
  · subst e
    obtain ⟨mv, kb⟩ := h.F.kbinds0 (ps := ps) n ks [] (fun us mv ws => pick is (us ++ ws ++ mv)) h.ne (fun q hq => by cases hq) (fun r1 r2 r3 => pick_vals ((r1.append r3).append r2) is) fun D doc pm an cdv ct us mv ws h1 h2 h3 => hb D doc pm an cdv ct us mv ws h1 h2 h3
    exact ⟨[], mv, fun g => RepL.nil, kb⟩
theorem getmethst_ok {pl : Sem Bool} {pins : List (Addr × Obj)} {H : Hp} {s : Shared} {C p f : Addr} {mc : Value} {m : Str} {A : Around} {E : Value → Shared → Prop} {Q : Value × List Value → Shared → Prop} (I : Inv X pins σ H s) (r : ClX.CRead X.K C mc) (k : SMet X.K C mc m p f)
    (h : ∀ s', Inv X pins σ H s' → Q (.ref f, []) s') : wpAny (model X.prog X.w) A (getMethod (.ref C) m pl) Q E s := by
  refine PySem.W.method_cls I.kIn r.ga ?_
  obtain ⟨rest, hp⟩ := k.rc
  refine PySem.W.cls_bind I.kIn r.rd k.at_ ?_
  exact wpAny_call (PySem.W.sm_get (s := { s with toks := s.toks + 1 }) I.kIn hp (PySem.W.handed_on rfl (h _ (I.tok _))))
/-- C.m(k = e, ..), C.m() -/
def mStK (nk : Nat) (is : List Nat) (mdts : List T) (fm : List T → MH → R) (mk : MA) : ME := fun s h => (mk s h).bind fun us h2 => if us.length = nk then fm (pick is (us ++ mdts)) h2 else .stuck
theorem se_stK {pl : Sem Bool} (Hm : HasSX X k c x qual st ps kdts mf) (hr : Room k X.A) (tk : Takes X W) (cl : Calls2 X W ps.length mf fm) (hms : ms = kdts ∨ ms = []) (hb : KwO st x qual ps 0 (ms.map (·.1)) ks is) (hkw : SK X W kws mk) (hg : Gl X c := by rfl) (hd : (c == ("__debug__" : Str)) = false := by decide)
    (hall : (backToKw pos (keywordEach kws X.env)).all (·.1.isSome) = true := by rfl) (hks : (backToKw pos (keywordEach kws X.env)).filterMap (·.1) = ks := by rfl)
    (hpl : ((backTo pos (starEach [] X.env)).any (·.1) || (backToKw pos (keywordEach kws X.env)).any (·.1.isNone)) = false := by rfl)
    (ht : eval (.Call (.Attribute (.Name c p) x apos) [] kws pos) X.env = (do
      let ov ← eval (.Name c p) X.env
      standAt apos.atName
      let (f, first) ← holding [ov] (getMethod ov x pl)
      callWith pos f first (backTo pos (starEach [] X.env)) (backToKw pos (keywordEach kws X.env))) := by rfl) :
    SE X W (.Call (.Attribute (.Name c p) x apos) [] kws pos) (mStK ks.length is (ms.map (·.2)) fm mk) := by
  obtain ⟨C, pp, f, fd, kvs, mc, hC, hrd, hme, hf⟩ := Hm
  obtain ⟨mvs, mv, rm, kb⟩ := kO_binds hf hms hb
  refine ⟨fun pins s σ H Q I h => ?_⟩
  obtain ⟨g, s0, rfl, R, S, h⟩ := h
  refine PySem.W.methodCall_KW (pl := pl) (thn ((pe_glob hg hC (v := .ref C) rfl hd).run pins s σ g.H (fun v H1 => v = .ref C ∧ H1 = g.H) I ⟨rfl, rfl⟩) fun u s1 ⟨v, H1, I1, rv, ev, eH⟩ => ?_) ht
  subst ev eH
  obtain rfl : u = Value.ref C := rv
  refine getmethst_ok I1 hrd hme fun s2 I2 => ?_
  have key : tMA X.K X.mg W mk σ g.H (fun zs H2 => zs.length = ks.length ∧ spM X.K X.mg ps.length mf (pick is ([] ++ zs ++ mvs)) H2 Q (WE W σ)) :=
    ⟨g, s0, rfl, R, S, wpL_of h fun g2 us zs e2 R2 r2 h2 => by
      split at h2
      · rename_i q
        exact ⟨r2.length.symm.trans q, cl g2 σ _ _ Q R2 (pick_repL ((RepL.nil.append r2).append (rm g2)) is) h2⟩
      · exact h2.elim⟩
  refine PySem.W.callWith_KW0 (h₀ := X.base) I2.ok.mod.kin hf.F.kp hall ?_ hpl
  refine thn (hkw.run pos pins s2 σ g.H _ I2 key) fun ws s3 ⟨zs, H3, I3, rz, l2, q2⟩ => ⟨I3.kIn, ?_⟩
  rw [hks]
  exact run_at (args := ⟨[], ks.zip ws⟩) hf.ok hr (passAt tk σ) I3 (kb.to s3 [] ws I3.kIn rfl (rz.length.symm.trans l2)) (kb.rel .nil rz) q2
end
/-! ### what the module says of them -/
def StAt (K : PySem.W.Frag) (mg : Str → Option Value) (c x qual : Str) (st : Stmt) (kdts : List (Str × T)) : Prop := ∃ C p f fd kvs mc, mg c = some (.ref C) ∧ ClX.CRead K C mc ∧ SMet K C mc x p f ∧ FunD K x qual (defArgs st) (defBody st) (defScope st) [] kvs f fd ∧ kvs.map (·.1) = kdts.map (·.1) ∧ (∀ g, RepL K mg g (kdts.map (·.2)) (kvs.map (·.2))) ∧ kvs ≠ []
def kKw (K : PySem.W.Frag) (D : Addr) : List (Str × T) → Bool
  | [] => true
  | (y, t) :: r => (match PySem.W.nsIn K D y with
    | some (some u) => kT K t u
    | _ => false) && kKw K D r
theorem kKw_ok {K : PySem.W.Frag} {mg : Str → Option Value} {D : Addr} : ∀ {l : List (Str × T)}, kKw K D l = true → ∃ kvs : List (Str × V), kvs.map (·.1) = l.map (·.1) ∧ (∀ g, RepL K mg g (l.map (·.2)) (kvs.map (·.2))) ∧ ∀ q ∈ kvs, ∃ u, PySem.W.nsIn K D q.1 = some (some u) ∧ RelV q.2 u
  | [], _ => ⟨[], rfl, fun g => RepL.nil, fun q h => by cases h⟩
  | (y, t) :: r, h => by
    unfold kKw at h
    obtain ⟨h1, h2⟩ := Bool.and_eq_true_iff.mp h
    obtain ⟨kvs, e1, e2, e3⟩ := kKw_ok (mg := mg) h2
    split at h1
    · rename_i u q
      obtain ⟨v, rv, rr⟩ := kT_of (mg := mg) t u h1
      refine ⟨(y, v) :: kvs, by rw [List.map_cons, List.map_cons, e1], fun g => RepL.cons (rr g) (e2 g), fun q' hq => ?_⟩
      rcases List.mem_cons.mp hq with z | z
      · rw [z]; exact ⟨u, q, rv⟩
      · exact e3 q' z
    · cases h1
def okK (K : PySem.W.Frag) (a : Addr) (q : Str) (kdts : List (Str × T)) : Bool := PySem.W.keepIn K (.ref a) && (match K.lookup a with
  | some ⟨_, _, .func fd, _⟩ => fd.closure.isEmpty && (PySem.W.codeIn K fd.code q && (match fd.defaults, fd.kwdefaults with
    | .none, .ref D => kKw K D kdts
    | _, _ => false))
  | _ => false)
theorem okK_ok {K : PySem.W.Frag} {mg : Str → Option Value} {a : Addr} {x qual : Str} {st : Stmt} {kdts : List (Str × T)} (e : fnS K a = some (x, qual, defArgs st, .stmts (defBody st), defScope st, mainGlobals, builtinsNs)) (b : okK K a qual kdts = true) (hne : kdts ≠ []) :
    ∃ fd kvs, FunD K x qual (defArgs st) (defBody st) (defScope st) [] kvs a fd ∧ kvs.map (·.1) = kdts.map (·.1) ∧ (∀ g, RepL K mg g (kdts.map (·.2)) (kvs.map (·.2))) ∧ kvs ≠ [] := by
  unfold okK at b
  obtain ⟨kp, b⟩ := bb b
  unfold fnS at e
  split at b
  · rename_i oc od fd osl lk
    rw [lk] at e
    obtain ⟨n1, n2, n3, n4, n5, n6, n7, n8, n9, n10, n11, n12, n13, n14, n15⟩ := fd
    have e2 : (some (n1, n2, n3, n4, n5, n6, n15) : FnS) = some (x, qual, defArgs st, .stmts (defBody st), defScope st, mainGlobals, builtinsNs) := e
    simp only [Option.some.injEq, Prod.mk.injEq] at e2
    obtain ⟨h1, h2, h3, h4, h5, h6, h8⟩ := e2
    subst h1 h2 h3 h4 h5 h6 h8
    obtain ⟨b1, b⟩ := bb b
    obtain ⟨b2, b3⟩ := bb b
    have e7 : n7 = [] := List.isEmpty_iff.mp b1
    subst e7
    dsimp only at b3
    split at b3
    · rename_i D bz
      obtain ⟨kvs, z1, z2, z3⟩ := kKw_ok (mg := mg) b3
      have ne : kvs ≠ [] := fun z => by
        rw [z] at z1
        exact hne (List.map_eq_nil_iff.mp z1.symm)
      exact ⟨_, kvs, ⟨⟨oc, od, _, _, n10, n11, n12, n13, n14, osl, rfl, lk, b2, .inl ⟨rfl, rfl⟩, .inr ⟨D, rfl, z3⟩⟩, kp⟩, z1, z2, ne⟩
    · cases b3
  · cases b
section
variable {K : PySem.W.Frag} {mg : Str → Option Value} {h : Heap} {c x : Str} {st : Stmt} {kdts : List (Str × T)}
def smB (K : PySem.W.Frag) (c x q : Str) (kdts : List (Str × T)) : Bool := gloB K c && (PySem.W.readsIn K (He.ga K c) (.type "type") && (He.eqO (PySem.W.specialIn K (.ref (He.ga K c)) "__getattribute__") (some (some (.builtin "type.__getattribute__"))) && ((match PySem.W.findCls K (.ref (He.ga K c)) (.type "type") x with
    | some (.get (.builtin gi) (.ref p) .none (.ref C)) => decide (gi = "staticmethod.__get__") && (decide (p = He.ma K (He.ga K c) x) && decide (C = He.ga K c))
    | _ => false) && ((match PySem.W.recIn K (He.ma K (He.ga K c) x) "staticmethod" with
    | some (.ref _ :: _) => true
    | _ => false) && okK K (pthR "staticmethod" c x K) q kdts))))
theorem smB_ok {qual : Str} (X : K.In h) (G : h.Ns mainGlobals mg) (e : fnS K (pthR "staticmethod" c x K) = some (x, qual, defArgs st, .stmts (defBody st), defScope st, mainGlobals, builtinsNs)) (b : smB K c x qual kdts = true) (hne : kdts ≠ []) : StAt K mg c x qual st kdts := by
  obtain ⟨b1, b⟩ := bb b
  obtain ⟨b2, b⟩ := bb b
  obtain ⟨b3, b⟩ := bb b
  obtain ⟨b4, b⟩ := bb b
  obtain ⟨b5, b7⟩ := bb b
  obtain ⟨fd, kvs, z1, z2, z3, z4⟩ := okK_ok (mg := mg) e b7 hne
  refine ⟨_, He.ma K (He.ga K c) x, _, fd, kvs, .type "type", PySem.W.mg_of X G (He.eqO_ok b1), ⟨b2, He.eqO_ok b3⟩, ⟨?_, ?_⟩, z1, z2, z3, z4⟩
  · split at b4
    · rename_i gi p C q
      obtain ⟨c1, c2⟩ := bb b4
      obtain ⟨c2, c3⟩ := bb c2
      have e1 := of_decide_eq_true c1
      have e2 := of_decide_eq_true c2
      have e3 := of_decide_eq_true c3
      subst e1 e2 e3
      exact q
    · cases b4
  · show ∃ rest, PySem.W.recIn K (He.ma K (He.ga K c) x) "staticmethod" = some (.ref (recA K "staticmethod" c x) :: rest)
    unfold recA
    split at b5
    · rename_i gg rest q
      exact ⟨rest, by rw [q]⟩
    · cases b5
end
end Mi
end part_Mi53
section part_Mi54
set_option maxRecDepth 100000
set_option maxHeartbeats 4000000
/-! Mi, part 54: sorted({i, j}) of ints, tuple(range(n)), abs(n). -/
namespace Mi
open PySem PySem.Spec PyProof.Rows L2
section
variable {prog : Program} {w : World} {A : Around} {E : Value → Shared → Prop} {s : Shared}
/-- a display of at most two items -/
theorem disp_core {road : DisplayRoad} {b : Bool} {elts : List (Bool × Sem Value)} {ts : List (Sem Value)} {Q : Value → Shared → Prop} (hroad : road = .oneByOne) (hs : elts.findIdx? (·.1) = none) (hlen : elts.length ≤ 30) (hm : elts.map (·.2) = ts)
    (h : wpAny (model prog w) A (evalAll ts) (fun vs s' => PySem.W.KdsFill (model prog w) A E false s.heap.objs.size Q vs s') E { s with heap := s.heap.push { cls := .type "set", dict := none, data := .set #[] 0 (.fresh 0 0 (!w.params.followText "set-order")) } }) :
    wpAny (model prog w) A (setDisplay road b elts) Q E s := by
  subst hroad
  have hn : (if elts.length > 30 then 0 else (elts.findIdx? (·.1)).getD elts.length) = elts.length := by rw [if_neg (by omega), hs]; rfl
  unfold setDisplay
  try dsimp only
  rw [if_neg (by decide)]
  refine wpAny_bind ?_
  unfold newSet setsByText
  refine wpAny_bind (wpAny_bind (wpAny_askSetting (wpAny_pure ?_)))
  dsimp only
  simp only [newObj]
  refine wpAny_bind (wpAny_alloc (wpAny_pure ?_))
  dsimp only
  rw [hn, List.take_length, List.drop_length, hm]
  refine wpAny_bind (wpAny_holding ?_)
  refine wpAny_bind (wpAny_mono h (fun vs s' h' => ?_) fun _ _ x => x)
  refine wpAny_bind (wpAny_holding ?_)
  refine wpAny_bind (wpAny_mono (PySem.W.kds_for (fun x P s hx => ?_) vs s' h') (fun _ s1 h1 => ?_) fun _ _ x => x)
  · refine wpAny_bind (wpAny_mono hx (fun _ s2 h2 => ?_) fun _ _ x => x)
    first | exact wpAny_pure ⟨rfl, h2⟩ | exact wpAny_bind (wpAny_pure (wpAny_pure ⟨rfl, h2⟩))
  · have h2 : Q (.ref s.heap.objs.size) s1 := by simpa [PySem.W.KdsFill] using h1
    rw [if_neg (by decide)]
    refine wpAny_pure ?_
    rw [List.forIn_nil]
    exact wpAny_pure (wpAny_pure h2)
end
section
variable {X : Cx} {W : WX} {g : G} {a b e : Expr} {ma mb me : ME} {mr : MA} {p pos p1 p2 q1 q2 : Pos} {σ : L2.St} {Q : VK} {ta tb : TE}
theorem fill_step {pins : List (Addr × Obj)} {H : Hp} {s : Shared} {d : Addr} {S : Int → Bool} {n : Nat} {k : Int} {tk : Tok} {vs : List Value} {Q : Value → Shared → Prop} (I : Inv X pins σ H s) (hd : H d = some (SetO X.w d S n)) (hn : n < 20)
    (h : ∀ s', Inv X pins σ (upd H d (SetO X.w d (fun j => S j || decide (j = k)) (if S k = true then n else n + 1))) s' → PySem.W.KdsFill (model X.prog X.w) X.A X.xe false d Q vs s') : PySem.W.KdsFill (model X.prog X.w) X.A X.xe false d Q (.int k tk :: vs) s := by
  refine PySem.W.kds_fill_cons ?_
  unfold setAdd
  refine wpAny_holding (wpAny_bind ((intKind X.prog X.w).pyHash (intKind_is _ _ k tk) ?_))
  have R := setO_get I hd
  refine setR_add_hashed (s := { s with toks := s.toks + 1 }) R (by unfold scanBound; omega) fun h' sb new => ?_
  have he : ∃ u, h'.get? d = some u := by
    have ⟨o, _, _, _, ho, _⟩ := new
    exact ⟨o, ho⟩
  exact h _ (I.write (e := d) (t' := s.toks + 1) (by rw [hd]; trivial) (.inl rfl) (fun b u hb hu => (sb.2 b hb).trans hu) he (setO_new new))
/-- {a, b}, ints -/
def tSet2 (w : World) (ta tb : TE) : TE := fun σ H Q => ∀ D, H D = none → ta σ (upd H D (SetO w D (fun _ => false) 0)) fun x H1 => tb σ H1 fun y H2 => ∃ i j : Int, x = .int i ∧ y = .int j ∧ H2 D = some (SetO w D (fun _ => false) 0) ∧
  ∀ H3 : Hp, (∀ q, q ≠ D → H3 q = H2 q) → (∃ S n, H3 D = some (SetO w D S n) ∧ (∀ k, S k = true ↔ k = i ∨ k = j) ∧ n < 64) → Q (.ref D) H3
theorem pe_set2 (hcd : PySem.W.kdsCode X.K X.env.code = true) (ha : PE X a ta) (hb : PE X b tb) (hp : [a, b].all PySem.W.kdsPlain = true := by rfl) (hr : displayRoad 0 [a, b] = .oneByOne := by rfl) : PE X (.Set [a, b] 0 pos) (tSet2 X.w ta tb) := by
  refine ⟨fun pins s σ H Q I h => ?_⟩
  rw [arm_eval_Set]
  refine wpAny_bind (wpAny_standAt ?_)
  refine wpAny_bind (PySem.W.kds_main I.kIn hcd fun b0 => ?_)
  rw [PySem.W.kds_star [a, b] hp, List.map_map]
  refine disp_core (ts := (evalEach [a, b] X.env).map fun t => do let v ← t; standAt pos; pure v) hr ?_ ?_ ?_ ?_
  · refine List.findIdx?_eq_none_iff.mpr fun x hx => ?_
    obtain ⟨t, _, rfl⟩ := List.mem_map.mp hx
    rfl
  · rw [List.length_map, PySem.W.kds_len]
    show 2 ≤ 30
    omega
  · rw [List.map_map]
    try rfl
  · have hn : H s.heap.objs.size = none := I.hok.fresh (Nat.le_refl _)
    have I1 : Inv X pins σ (upd H s.heap.objs.size (SetO X.w s.heap.objs.size (fun _ => false) 0)) { s with heap := s.heap.push { cls := .type "set", dict := none, data := .set #[] 0 (.fresh 0 0 (!X.w.params.followText "set-order")) }, toks := s.toks } :=
      I.laid (t' := s.toks) (fun b u e => Heap.get?_push_of_some _ e) (Nat.le_refl _) (setO_new (setR_fresh X.w))
    refine PySem.W.kds_all pos [a, b] _ _ ?_
    refine thn (ha.run pins _ σ _ _ I1 (h _ hn)) fun u1 s1 ⟨x, H1, J1, r1, z1⟩ => ?_
    refine thn (hb.run pins s1 σ H1 _ J1 z1) fun u2 s2 ⟨y, H2, J2, r2, i, j, ex, ey, hD, z2⟩ => ?_
    subst ex ey
    obtain ⟨t1, rfl⟩ := r1
    obtain ⟨t2, rfl⟩ := r2
    show PySem.W.KdsFill (model X.prog X.w) X.A X.xe false s.heap.objs.size _ [.int i t1, .int j t2] s2
    refine fill_step J2 hD (by omega) fun s3 J3 => ?_
    refine fill_step J3 upd_same (by split <;> omega) fun s4 J4 => ?_
    refine PySem.W.kds_fill_nil rfl ⟨.ref _, _, J4, rfl, z2 _ (fun q hq => by rw [upd_ne hq, upd_ne hq]) ⟨_, _, upd_same, fun k => ?_, ?_⟩⟩
    · simp
    · split <;> split <;> omega
theorem repL_intsV (ns : List Int) : RepL X.K X.mg g (ns.map T.int) (ns.map V.int) := by
  induction ns with
  | nil => exact RepL.nil
  | cons n ns ih => exact RepL.cons rInt ih
def sort2 (i j : Int) : List Int := if i = j then [i] else if i < j then [i, j] else [j, i]
def fSort2 : T → T → MH → R := fun t u h => match t, u with
  | .int i, .int j => .ok (.lst ((sort2 i j).map .int)) h
  | _, _ => .stuck
theorem sort2_uniq {i j : Int} {ns : List Int} (h : ns.Pairwise (· < ·)) (hm : ∀ k, k ∈ ns ↔ k = i ∨ k = j) : ns = sort2 i j := by
  have p2 : (sort2 i j).Pairwise (· < ·) := by
    unfold sort2
    split
    · exact List.pairwise_singleton _ _
    · split
      · rename_i h1
        exact List.pairwise_cons.mpr ⟨fun x hx => by rw [List.mem_singleton.mp hx]; exact h1, List.pairwise_singleton _ _⟩
      · exact List.pairwise_cons.mpr ⟨fun x hx => by rw [List.mem_singleton.mp hx]; omega, List.pairwise_singleton _ _⟩
  have m2 : ∀ k, k ∈ sort2 i j ↔ k = i ∨ k = j := fun k => by
    unfold sort2
    split
    · rename_i e; subst e; simp
    · split
      · simp
      · simp; exact Or.comm
  exact List.Perm.eq_of_pairwise (le := (· < ·)) (fun a b _ _ h1 h2 => absurd h1 (by omega)) h p2 ((List.perm_ext_iff_of_nodup (h.imp fun {a b} (z : a < b) => by omega) (p2.imp fun {a b} (z : a < b) => by omega)).mpr fun k => (hm k).trans (m2 k).symm)
/-- sorted({a, b}) -/
def mSort2 (ma mb : ME) : ME := fun s h => match ma s h with
  | .ok t h1 => (match mb s h1 with
    | .ok u h2 => fSort2 t u h2
    | _ => .stuck)
  | _ => .stuck
theorem use_sort2 {H : Hp} {W' : WX} (h : tM X.K X.mg W (mSort2 ma mb) σ H Q) : tSet2 X.w (tM X.K X.mg W0 ma) (tM X.K X.mg W0 mb) σ H fun x H1 => rSortedSet X.w [x] H1 Q := by
  obtain ⟨g, s0, rfl, R, S, h⟩ := h
  intro D hD
  obtain ⟨s1, R1⟩ := pv_new (o := SetO X.w D (fun _ => false) 0) R hD
  refine ⟨⟨g.rho, g.h, D :: g.pv, upd g.H D (SetO X.w D (fun _ => false) 0)⟩, s0, rfl, R1, S.sub s1, ?_⟩
  unfold mSort2 at h
  show wpR X.K X.mg W0 _ σ _ (ma s0 g.h)
  cases q : ma s0 g.h with
  | stuck => rw [q] at h; exact h.elim
  | ex x h1 => rw [q] at h; exact h.elim
  | ok t h1 =>
    rw [q] at h
    dsimp only at h
    intro g1 v q1 e1 R1' r1
    refine ⟨g1, s0, rfl, R1', (S.sub s1).mono e1, ?_⟩
    rw [q1]
    cases q2 : mb s0 h1 with
    | stuck => rw [q2] at h; exact h.elim
    | ex x h2 => rw [q2] at h; exact h.elim
    | ok u h2 =>
      rw [q2] at h
      dsimp only at h
      intro g2 z q3 e2 R2 r2
      have r1' := r1.mono e2
      unfold fSort2 at h
      split at h
      · rename_i i j
        have e12 := e1.trans e2
        have hD2 : g2.H D = some (SetO X.w D (fun _ => false) 0) := (e12.pvk D List.mem_cons_self).trans upd_same
        refine ⟨i, j, rep_int r1', rep_int r2, hD2, fun H3 hk hS => ?_⟩
        obtain ⟨Sf, n, h3, hSm, hn⟩ := hS
        refine ⟨D, Sf, n, rfl, h3, hn, fun ns p pw hm hl hp => ?_⟩
        have ens : ns = sort2 i j := sort2_uniq pw fun k => (hm k).trans (hSm k)
        have eH : H3 = upd g2.H D (SetO X.w D Sf n) := funext fun a => by
          by_cases c : a = D
          · subst c; rw [h3, upd_same]
          · rw [hk a c, upd_ne c]
        have hpv : g2.pv = D :: g.pv := e12.pv
        obtain ⟨s3, R3⟩ := pv_put (o := SetO X.w D Sf n) R2 (by rw [hpv]; exact List.mem_cons_self)
        obtain ⟨s4, R4, _⟩ := pv_out R3 hpv (fun z => blk_ne R hD D z rfl)
        have ex : Ext g { g2 with H := upd g2.H D (SetO X.w D Sf n), pv := g.pv } := by
          refine ⟨fun a b c => e12.rho a b c, rfl, fun a ha => ?_, fun a o c d => ?_⟩
          · have ne : a ≠ D := blk_ne R hD a ha
            show upd g2.H D _ a = g.H a
            rw [upd_ne ne, e12.pvk a (List.mem_cons_of_mem _ ha)]
            show upd g.H D _ a = g.H a
            rw [upd_ne ne]
          · obtain ⟨a1, b1⟩ := s1.keep a o c d
            obtain ⟨a2, b2⟩ := e12.keep a o a1 b1
            obtain ⟨a3, b3⟩ := s3.keep a o a2 b2
            exact s4.keep a o a3 b3
        rw [ens, eH]
        rw [eH] at hp
        refine wpR_lst (W := W) (σ := σ) (g := { g2 with H := upd g2.H D (SetO X.w D Sf n), pv := g.pv }) (xs := (sort2 i j).map T.int) ?_ R4 (repL_intsV _) hp
        subst q3
        exact wpR.ext h ex
      · exact h.elim
theorem se_sort2 (hc : X.calm = true) (hcd : PySem.W.kdsCode X.K X.env.code = true) (hs : X.mg "sorted" = none) (ha : SE X W0 a ma) (hb : SE X W0 b mb) (hg : Gl X "sorted" := by rfl) (hp : [a, b].all PySem.W.kdsPlain = true := by rfl) (hr : displayRoad 0 [a, b] = .oneByOne := by rfl)
    (he2 : starEach [.Set [a, b] 0 p2] X.env = (false, eval (.Set [a, b] 0 p2) X.env) :: starEach [] X.env := by rfl) (hpl2 : (backTo q1 (starEach [] X.env)).any (·.1) = false := by rfl) :
    SE X W (.Call (.Name "sorted" p1) [.Set [a, b] 0 p2] [] q1) (mSort2 ma mb) := by
  have h1 := pe_set2 (pos := p2) hcd ha hb hp hr
  have h2 := pe_callB (x := "sorted") (p := p1) (pos := q1) (cr_sortedSet hc) hg hs (by decide +kernel) (pa_cons h1 pa_nil he2) (by decide) (by decide) he2 hpl2
  exact weakE h2 fun σ H Q h => use_sort2 (W' := W) h
/-! ### tuple(range(n)) -/
def fTupRg : T → MH → R := fun t h => match t with
  | .int n => if 0 ≤ n ∧ n ≤ 1000 then .ok (.tup ((List.range n.toNat).map fun i => T.int (i : Nat))) h else .stuck
  | _ => .stuck
theorem repL_range (n : Int) : RepL X.K X.mg g ((List.range n.toNat).map fun i => T.int (i : Nat)) (rgV 0 n) := by
  have e1 : (List.range n.toNat).map (fun i => T.int (i : Nat)) = ((List.range n.toNat).map fun i => ((i : Nat) : Int)).map T.int := by rw [List.map_map]; rfl
  have e2 : rgV 0 n = ((List.range n.toNat).map fun i => ((i : Nat) : Int)).map V.int := by
    unfold rgV
    rw [List.map_map]
    refine (by rw [Int.sub_zero]; exact List.map_congr_left fun i _ => by simp)
  rw [e1, e2]
  exact repL_intsV _
def tTupRgX (te : L2.St → Hp → (Int → Int → Hp → Prop) → Prop) : TE := fun σ H Q => te σ H fun a b H1 => RgOk a b ∧ ∀ (o : Obj) q, o.dict = none → H1 q = none → Q (.ref q) (upd H1 q (.frz o (.tup (rgV a b))))
theorem pe_tupRgX {e : Expr} {te : L2.St → Hp → (Int → Int → Hp → Prop) → Prop} {p pos : Pos} (hc : X.calm = true) (hg : Gl X "tuple") (hm : X.mg "tuple" = none) (he : PRg X e te) (na : starEach [e] X.env = (false, eval e X.env) :: starEach [] X.env := by rfl) : PE X (.Call (.Name "tuple" p) [e] [] pos) (tTupRgX te) := by
  refine ⟨fun pins s σ H Q I h => ?_⟩
  refine Call_ (ld_blt I hg hm boot_tuple (PyProof.Rows.callWith_type1 (args_cons (thn (he pins s σ H _ I h) fun x s1 ⟨r, a, b, t, u, v, H1, ex, hr, I1, ok, q⟩ => args_nil ?_) na) na))
  subst ex
  obtain ⟨b1, b2, b3, b4, b5⟩ := ok
  refine call_tuple_range (n := (b - a).toNat) (I1.ok.hd hc) hr (small_one b1 b2 b3 b4) (rangeSize_nat a b) b5 fun h' tk acc hk hi => ?_
  have I2 : Inv X pins σ H1 { s1 with heap := h', toks := tk } := I1.kept hk
  refine ⟨.ref h'.objs.size, upd H1 h'.objs.size (.frz { cls := .type "tuple", data := .seq acc } (.tup (rgV a b))), I2.laid (t' := tk) (fun c o e => Heap.get?_push_of_some _ e) (Nat.le_refl _) (show ObjOk X.prog X.w _ _ _ (.frz _ (.tup (rgV a b))) from ⟨?_, ?_, acc.toList, vals_rg hi, ?_⟩), rfl, q _ _ rfl (I2.hok.fresh (Nat.le_refl _))⟩
  · exact Heap.get?_push_size _ rfl
  · rw [rgV_length, sizeLine_eq]; omega
  · rw [Array.toArray_toList]; exact IsTup.new _ _
theorem se_tupRg (hc : X.calm = true) (ht : X.mg "tuple" = none) (hr : X.mg "range" = none) (ha : SE X W a ma) (hg : Gl X "tuple" := by rfl) (hg2 : Gl X "range" := by rfl) (na : starEach [a] X.env = (false, eval a X.env) :: starEach [] X.env := by rfl)
    (ne : starEach [.Call (.Name "range" p2) [a] [] q2] X.env = (false, eval (.Call (.Name "range" p2) [a] [] q2) X.env) :: starEach [] X.env := by rfl) :
    SE X W (.Call (.Name "tuple" p1) [.Call (.Name "range" p2) [a] [] q2] [] q1) (m1 fTupRg ma) := by
  refine weakE (pe_tupRgX (p := p1) (pos := q1) hc hg ht (prg_1 (p := p2) (pos := q2) hg2 hr ha na) ne) ?_
  rintro σ H Q ⟨g, s, rfl, R, S, h⟩
  refine ⟨g, s, rfl, R, S, wpR_bind h fun g1 t v e1 R1 r1 h1 => ?_⟩
  unfold fTupRg at h1
  split at h1
  · rename_i n
    split at h1
    · rename_i hn
      exact ⟨n, rep_int r1, RgOk.of_le (by omega) (by omega) (by omega) (by omega), fun o q hd hq => wpR_tup h1 R1 (repL_range n) hq hd⟩
    · exact h1.elim
  · exact h1.elim
/-- abs(n) -/
def fAbs : List T → MH → R := fun ts h => match ts with
  | [.int i] => .ok (.int (if i < 0 then -i else i)) h
  | _ => .stuck
theorem mAbs : CallM X fAbs (fun xs H Q => ∃ i, xs = [.int i] ∧ Q (.int (if i < 0 then -i else i)) H) := by
  intro W g σ ts vs Q R r h
  unfold fAbs at h
  split at h
  · rename_i i
    obtain ⟨v, rfl, rv⟩ := r.one
    rw [rep_int rv]
    exact ⟨i, rfl, wpR_here h R rInt⟩
  · exact h.elim
end
/-! ### a def whose code object is known -/
theorem kds_of {K : PySem.W.Frag} {cd : Value} {q : Str} (e : PySem.W.codeIn K cd q = true) : PySem.W.kdsCode K cd = true := by
  unfold PySem.W.codeIn at e
  unfold PySem.W.kdsCode
  split at e
  · split at e
    · rename_i h
      dsimp only
      rw [h]
    · cases e
  · cases e
theorem def_okC {P : Program} {w : World} {K : PySem.W.Frag} {mg : Str → Option Value} {base : Heap} {x qual : Str} {params : Arguments} {body : List Stmt} {scope : Scope} {dvs : List V} {kws : List (Str × V)} {f : Addr} {fd : FuncData} {N ps : List Str} {k n : Nat} {mb : MS}
    (F : FunD K x qual params body scope dvs kws f fd) (S : FnScope N ps scope) (hn : ps.length = n)
    (hbody : ∀ (cdv : Value) (A : Around) (outer : List Env) (s : Shared) (H : Hp) (E : XK), PySem.W.kdsCode K cdv = true → Room k (A.deeper (envOfC qual scope s.heap.objs.size f cdv)) →
      Takes (cxOf (L2.CX P w) P w K mg base N qual scope f cdv A outer s H E) (fun cls d _ H => E cls d H) →
      PassesOwn (model P w) (A.deeper (envOfC qual scope s.heap.objs.size f cdv)) (envOfC qual scope s.heap.objs.size f cdv) (cxOf (L2.CX P w) P w K mg base N qual scope f cdv A outer s H E).xe →
      SSs (cxOf (L2.CX P w) P w K mg base N qual scope f cdv A outer s H E) (fun cls d _ H => E cls d H) body mb) :
    FnOk P w K mg base (L2.CX P w) (k + 1) f fd ps (spM K mg n (mDef N.length mb)) := by
  obtain ⟨oc, od, dV, kV, doc, pm, an, cdv, ct, osl, rfl, lk, hcd, _, _⟩ := F.ex
  refine fn_of lk hcd S (fun vs H Q E h => (spM_len h).trans hn.symm) fun A outer s H vs Q E hr h => ?_
  refine ⟨_, hbody cdv A outer s H E (kds_of hcd) hr (takes_of rfl rfl rfl rfl) (passes_of rfl), ?_⟩
  obtain ⟨g, ts, rfl, R, r, l, h⟩ := h
  refine ⟨g, _, rfl, R, repS_start r, ?_⟩
  unfold mDef at h
  cases q : mb (ts.map some ++ List.replicate (N.length - ts.length) none) g.h with
  | nx s' h' =>
    rw [q] at h
    exact fun g' σ' q1 e R' S' => h g' .non q1 e R' rNon
  | rt t h' => rw [q] at h; exact fun g' v q1 e R' r' => h g' v q1 e R' r'
  | bk s' h' => rw [q] at h; exact h.elim
  | ct s' h' => rw [q] at h; exact h.elim
  | ex y s' h' => rw [q] at h; exact fun g' σ' cls d q1 e R' S' r' => h g' cls d q1 e R' r'
  | stuck => rw [q] at h; exact h.elim
end Mi
namespace Mi
open PySem PySem.Spec PyProof.Rows L2
section
variable {X : Cx} {W : WX} {a b c : Expr} {ma mb mc : ME} {pos : Pos}
/-- a chain as a test -/
def fBl : T → MH → R := fun t h => match t with
  | .bl b => .ok (.bl b) h
  | _ => .stuck
theorem st_chain {op op' : CmpOp} {f f' : T → T → MH → R} {r r' : R2} (ho : OpR X (compareOp op) r) (hm : OpM X f r) (hb' : BlM f) (ho' : OpR X (compareOp op') r') (hm' : OpM X f' r') (ha : SE X W a ma) (hb : SE X W b mb) (hc : SE X W c mc)
    (hk : lastMarks [op, op'] [b, c] = false := by with_unfolding_all rfl) : ST X W (.Compare a [op, op'] [b, c] pos) (m1 fBl (mChain f f' ma mb mc)) := by
  refine weakT (pt_chain ho ho' ha hb hc hk) ?_
  rintro σ H Q ⟨g, s, rfl, R, S, h⟩
  refine use_chain hm hm' hb' ⟨g, s, rfl, R, S, wpT_bind h fun g1 t v e1 R1 r1 h1 => ?_⟩
  cases t with
  | bl k => exact ⟨k, rep_bl r1, wpT_here h1 R1⟩
  | _ => exact h1.elim
end
end Mi
end part_Mi54
section part_Mi55
set_option maxRecDepth 100000
set_option maxHeartbeats 4000000
/-! Mi, part 55: dicts that do not change: dict(t), d[k], d.get(k, x), k in d, {..}; dicts of the module with text keys. -/
namespace Mi
open PySem PySem.Spec PyProof.Rows L2
/-! ### keys -/
def keyOfT : T → Option Key
  | .int i => some (.inl i)
  | .str x => some (.inr x)
  | _ => none
theorem keyOfT_some {t : T} {k : Key} (h : keyOfT t = some k) : t = keyT k := by
  cases t <;> simp only [keyOfT] at h <;> first | (cases h; rfl) | cases h
/-- what a dict holds at a key -/
def look (k : Key) : List T → List T → Option T
  | x :: ks, v :: vs => if keyOfT x = some k then some v else look k ks vs
  | _, _ => none
section
variable {X : Cx} {K : PySem.W.Frag} {mg : Str → Option Value} {W : WX} {g : G} {σ : L2.St} {Q : VK}
theorem keyOfT_keyT (k : Key) : keyOfT (keyT k) = some k := by cases k <;> rfl
theorem rep_key {k : Key} {v : V} (r : Rep K mg g (keyT k) v) : v = L2.kV k := by
  cases k with
  | inl i => exact rep_int r
  | inr x => exact rep_str r
theorem repL_snd {ts : List T} : ∀ {kvs : List (Key × V)} {k : Key}, RepL K mg g ts (kvs.map (·.2)) → (∃ t v, look k (kvs.map fun q => keyT q.1) ts = some t ∧ valV kvs k = some v ∧ Rep K mg g t v) ∨ (look k (kvs.map fun q => keyT q.1) ts = none ∧ valV kvs k = none) := by
  intro kvs
  induction kvs generalizing ts with
  | nil => intro k r; exact .inr ⟨by cases ts <;> rfl, rfl⟩
  | cons q kvs ih =>
    intro k r
    cases ts with
    | nil => simp only [RepL] at r; cases r
    | cons t ts =>
      simp only [List.map_cons, RepL] at r
      obtain ⟨v, w, e, h1, h2⟩ := r
      injection e with e1 e2
      subst e1 e2
      show (∃ t' v, (if keyOfT (keyT q.1) = some k then some t else look k (kvs.map fun q => keyT q.1) ts) = some t' ∧ _) ∨ ((if keyOfT (keyT q.1) = some k then some t else look k (kvs.map fun q => keyT q.1) ts) = none ∧ _)
      by_cases c : q.1 = k
      · rw [keyOfT_keyT, if_pos (congrArg some c), valV_pos c]
        exact .inl ⟨t, q.2, rfl, rfl, h1⟩
      · rw [keyOfT_keyT, if_neg (fun z => c (Option.some.inj z)), valV_neg c]
        exact ih h2
theorem rep_dct {ks ts : List T} {v : V} (r : Rep K mg g (.dct ks ts) v) : ∃ p kvs, v = .ref p ∧ g.H p = some (.dK kvs) ∧ ks = kvs.map (fun q => keyT q.1) ∧ RepL K mg g ts (kvs.map (·.2)) := by
  simp only [Rep] at r
  obtain ⟨p, kvs, e, ⟨h1, _⟩, e2, h2⟩ := r
  exact ⟨p, kvs, e, h1, e2, h2⟩
theorem wpR_dct {ks ts : List T} {kvs : List (Key × V)} {p : Addr} (h : wpR K mg W g σ Q (.ok (.dct ks ts) g.h)) (R : Rel K mg g) (ek : ks = kvs.map fun q => keyT q.1) (r : RepL K mg g ts (kvs.map (·.2))) (hp : g.H p = none) : Q (.ref p) (upd g.H p (.dK kvs)) := by
  refine h (g.lay p (.dK kvs)) (.ref p) rfl (lay_ext R hp) (R.lay hp) ?_
  simp only [Rep]
  exact ⟨p, kvs, rfl, ⟨upd_same, R.nohid hp⟩, ek, r.sub (lay_sub hp)⟩
/-! ### d[k] -/
def fDix : T → T → MH → R := fun t u h => match t, keyOfT u with
  | .dct ks vs, some k => match look k ks vs with
    | some v => .ok v h
    | none => .stuck
  | _, _ => .stuck
theorem use_dix {t u : T} {x y : V} (R : Rel K mg g) (r1 : Rep K mg g t x) (r2 : Rep K mg g u y) (h : wpR K mg W g σ Q (fDix t u g.h)) : ∃ a v, x = .ref a ∧ DGet g.H a y (some v) ∧ Q v g.H := by
  unfold fDix at h
  split at h
  · rename_i ks vs k hk
    have ek := keyOfT_some hk
    subst ek
    obtain ⟨p, kvs, rfl, h1, e2, hr⟩ := rep_dct r1
    subst e2
    rcases repL_snd (k := k) hr with ⟨t', v, l1, l2, rv⟩ | ⟨l1, l2⟩
    · rw [l1] at h
      refine ⟨p, v, rfl, ?_, wpR_here h R rv⟩
      have z := DGet.k (k := k) h1
      rw [l2] at z
      rw [rep_key r2]
      exact z
    · rw [l1] at h; exact h.elim
  · exact h.elim
theorem se_dix {a b : Expr} {ma mb : ME} {pos : Pos} (hu : X.A.units + 1 < cLine) (ha : SE X W a ma) (hb : SE X W b mb) (hs : NoSl b) : SE X W (.Subscript a b pos) (m2 fDix ma mb) := by
  refine weakE (pe_dget hu ha hb hs) ?_
  rintro σ H Q ⟨g, s, rfl, R, S, h⟩
  refine ⟨g, s, rfl, R, S, wpR_bind h fun g1 t v e1 R1 r1 h1 => ⟨g1, s, rfl, R1, S.mono e1, wpR_bind h1 fun g2 u w e2 R2 r2 h2 => ?_⟩⟩
  exact use_dix R2 (r1.mono e2) r2 h2
/-! ### d.get(k, x) -/
def fDget2 : T → T → T → MH → R := fun t u d h => match t, keyOfT u with
  | .dct ks vs, some k => match look k ks vs with
    | some v => .ok v h
    | none => .ok d h
  | _, _ => .stuck
def isDct : T → Bool
  | .dct _ _ => true
  | _ => false
def mDget2 (mo ma mb : ME) : ME := fun s h => (mo s h).bind fun t h1 => if isDct t then (ma s h1).bind fun u h2 => (mb s h2).bind fun d h3 => fDget2 t u d h3 else .stuck
theorem se_dget2 {o a b : Expr} {mo ma mb : ME} {apos cpos : Pos} (hu : X.A.units + 1 < cLine) (ho : SE X W o mo) (ha : SE X W a ma) (hb : SE X W b mb) (m : M2 X o "get" apos a b cpos) : SE X W (.Call (.Attribute o "get" apos) [a, b] [] cpos) (mDget2 mo ma mb) := by
  refine weakE (pe_dget2 hu ho ha hb m) ?_
  rintro σ H Q ⟨g, s, rfl, R, S, h⟩
  refine ⟨g, s, rfl, R, S, wpR_bind h fun g1 t v e1 R1 r1 h1 => ?_⟩
  split at h1
  · rename_i hd
    have hD : ∃ ks vs, t = .dct ks vs := by
      cases t with
      | dct ks vs => exact ⟨ks, vs, rfl⟩
      | _ => cases hd
    obtain ⟨ks, vs, rfl⟩ := hD
    obtain ⟨p, kvs, ev, hp, e2, hr⟩ := rep_dct r1
    refine ⟨p, ev, .inl ⟨kvs, .inl hp⟩, g1, s, rfl, R1, S.mono e1, wpR_bind h1 fun g2 u y e2' R2 r2 h2 => ⟨g2, s, rfl, R2, S.mono (e1.trans e2'), wpR_bind h2 fun g3 d z e3 R3 r3 h3 => ?_⟩⟩
    have r1' := (r1.mono e2').mono e3
    have r2' := r2.mono e3
    unfold fDget2 at h3
    split at h3
    · rename_i ks' vs' k hT hk
      cases hT
      have ek := keyOfT_some hk
      subst ek
      obtain ⟨p', kvs', ev', hp', e2'', hr'⟩ := rep_dct r1'
      rw [ev] at ev'
      cases ev'
      subst e2''
      rw [rep_key r2']
      have zz := DGet.k (k := k) hp'
      rcases repL_snd (k := k) hr' with ⟨t', v', l1, l2, rv⟩ | ⟨l1, l2⟩
      · rw [l1] at h3
        rw [l2] at zz
        exact ⟨some v', zz, wpR_here h3 R3 rv⟩
      · rw [l1] at h3
        rw [l2] at zz
        exact ⟨none, zz, wpR_here h3 R3 r3⟩
    · exact h3.elim
  · exact h1.elim
/-! ### k in d -/
def fDin (neg : Bool) : T → T → MH → R := fun u t h => match t, keyOfT u with
  | .dct ks vs, some k => .ok (.bl (if neg then !(look k ks vs).isSome else (look k ks vs).isSome)) h
  | _, _ => .stuck
/-! ### dict(t), t a tuple of pairs -/
def prOf : T → Option (Key × T)
  | .tup [k, v] => (keyOfT k).map fun q => (q, v)
  | _ => none
def prsOf : List T → Option (List (Key × T))
  | [] => some []
  | t :: ts => match prOf t, prsOf ts with
    | some p, some ps => some (p :: ps)
    | _, _ => none
def fDictP : List T → MH → R := fun ts h => match ts with
  | [.tup xs] => match prsOf xs with
    | some ps => if (ps.map (·.1)).Nodup ∧ ps.length ≤ 1000 then .ok (.dct (ps.map fun p => keyT p.1) (ps.map (·.2))) h else .stuck
    | none => .stuck
  | _ => .stuck
def rDictX (K : PySem.W.Frag) : List V → Hp → VK → Prop := fun xs H Q => ∃ (a : Addr) (ps : List Addr) (kvs : List (Key × V)), xs = [.ref a] ∧ ((∃ o : Obj, H a = some (.frz o (.tup (ps.map V.ref))) ∧ o.dict = none) ∨ KTx K a (ps.map V.ref)) ∧
  Paired (fun p kv => SqT K H p [L2.kV kv.1, kv.2]) ps kvs ∧ ps.length ≤ sizeLine ∧ ∀ p, H p = none → Q (.ref p) (upd H p (.dK (mergeK [] kvs)))
theorem pairs_of2 {pins : List (Addr × Obj)} {H : Hp} {s : Shared} (I : Inv X pins σ H s) : ∀ {ps : List Addr} {kvs : List (Key × V)}, Paired (fun p kv => SqT X.K H p [L2.kV kv.1, kv.2]) ps kvs →
    ∃ (prs : List (Key × Value)) (pv : List (Value × Value)), KV kvs prs ∧ prs.length = ps.length ∧ pv.length = ps.length ∧ ∀ (j : Nat) (b : Addr), ps[j]? = some b → ∃ k u y, prs[j]? = some (k, y) ∧ pv[j]? = some (u, y) ∧ IsTup s.heap b #[u, y] ∧ keyIs k u = true
  | _, _, .nil => ⟨[], [], .nil, rfl, rfl, fun j q e => by simp at e⟩
  | _, _, .cons (a := p) (b := kv) h t => by
    obtain ⟨prs, pv, r, hl, hl2, hp⟩ := pairs_of2 I t
    obtain ⟨its, rv, ht, _⟩ := I.tuple h
    obtain ⟨u, y, ei, ru, ry⟩ := vals2 rv
    subst ei
    refine ⟨(kv.1, y) :: prs, (u, y) :: pv, .cons ⟨rfl, ry⟩ r, by rw [List.length_cons, List.length_cons, hl], by rw [List.length_cons, List.length_cons, hl2], fun j b e => ?_⟩
    cases j with
    | zero =>
      have e' : p = b := Option.some.inj e
      subst e'
      exact ⟨kv.1, u, y, rfl, rfl, ht, kV_is (P := X.prog) (w := X.w) ru⟩
    | succ j =>
      obtain ⟨k, u', y', e1, e2, e3, e4⟩ := hp j b (by simpa using e)
      exact ⟨k, u', y', by simpa using e1, by simpa using e2, e3, e4⟩
theorem call_dictX (hcalm : X.calm = true) : CallR X (.type "dict") (rDictX X.K) := by
  intro pins s σ H xs us Q I r q
  obtain ⟨a, ps, kvs, ex, hq, hp, hz, q⟩ := q
  subst ex
  obtain ⟨u, eu, rx⟩ := vals1 r
  subst eu
  cases rx
  have hT : ∃ its : List Value, Vals (ps.map V.ref) its ∧ PySem.PlainSeq "tuple" s.heap a its.toArray := by
    rcases hq with ⟨o, h1, hd⟩ | ⟨o, its, n, h1, h2, hd, h3, _, h5⟩
    · obtain ⟨hg, _, its, rv, o', hg', hc, n, hdt⟩ := I.hok a _ h1
      rw [hg] at hg'
      cases hg'
      exact ⟨its, rv, o, n, hg, hc, hd, hdt⟩
    · exact ⟨its.toList, h5, o, n, I.kIn _ _ h1, h2, hd, by rw [h3]⟩
  obtain ⟨its, rv, hpl⟩ := hT
  have ei := refs_at rv
  subst ei
  obtain ⟨prs, pv, rel, hl, hl2, hpr⟩ := pairs_of2 I hp
  have hits : PySem.PairItems s.heap (ps.map Value.ref).toArray (fun j => ps.getD j 0) pv := by
    refine ⟨by simp [hl2], fun j k v e => ?_⟩
    have hj : j < ps.length := by rw [← hl2]; exact (List.getElem?_eq_some_iff.mp e).1
    obtain ⟨k', u, y, e1, e2, e3, e4⟩ := hpr j ps[j] (List.getElem?_eq_getElem hj)
    rw [e] at e2
    cases e2
    refine ⟨by simp [hj], ?_⟩
    have : ps.getD j 0 = ps[j] := by simp [hj]
    show PySem.PairAt s.heap (ps.getD j 0) k v
    rw [this]
    exact .inl e3
  refine PySem.call_dict_pairs (knd := mixKind X.prog X.w) (kvs := prs) (PySem.PairArg.tuple a (ps.map Value.ref).toArray (fun j => ps.getD j 0) pv) (I.ok.hd hcalm) ⟨hpl, hits⟩ ⟨by rw [hl, hl2], fun i key v e => ?_⟩ (by rw [hl2]; exact hz) fun h' tk hd' hk => ?_
  · have hj : i < ps.length := by rw [← hl2]; exact (List.getElem?_eq_some_iff.mp e).1
    obtain ⟨k', u, y, e1, e2, e3, e4⟩ := hpr i ps[i] (List.getElem?_eq_getElem hj)
    rw [e] at e2
    cases e2
    exact ⟨k', e1, e4⟩
  · have hm : (s.heap.objs.size == sysModules) = false := beq_eq_false_iff_ne.mpr (Nat.ne_of_gt I.big)
    have hlen : (mergeK [] kvs).length ≤ sizeLine := by
      refine Nat.le_trans (length_mergeK kvs []) ?_
      rw [List.length_nil, Nat.zero_add, rel.length, hl]
      exact hz
    have hk' : ∀ b o, s.heap.get? b = some o → h'.get? b = some o := fun b o e => hk b o (by simp) e
    exact ⟨.ref s.heap.objs.size, upd H s.heap.objs.size (.dK (mergeK [] kvs)), I.laid (t' := tk) hk' (Nat.le_refl _) (show ObjOk X.prog X.w _ _ _ (.dK (mergeK [] kvs)) from ⟨hlen, hm, PySem.merged [] prs, KV.merge rel .nil, hd'⟩), rfl, q _ (I.hok.fresh (Nat.le_refl _))⟩
theorem merge_nodup : ∀ {kvs acc : List (Key × V)}, ((acc ++ kvs).map (·.1)).Nodup → mergeK acc kvs = acc ++ kvs
  | [], acc, _ => by simp [mergeK]
  | q :: kvs, acc, h => by
    have hn : (acc.any fun kv => decide (kv.1 = q.1)) = false := by
      cases c : acc.any fun kv => decide (kv.1 = q.1) with
      | false => rfl
      | true =>
        obtain ⟨kv, h1, h2⟩ := List.any_eq_true.mp c
        rw [List.map_append, List.map_cons] at h
        exact absurd (of_decide_eq_true h2) ((List.nodup_append.mp h).2.2 _ (List.mem_map.mpr ⟨kv, h1, rfl⟩) _ List.mem_cons_self)
    have e : putK acc q.1 q.2 = acc ++ [q] := by
      unfold putK
      rw [hn, if_neg (by decide)]
    show mergeK (putK acc q.1 q.2) kvs = _
    rw [e, merge_nodup (by rw [List.append_assoc]; exact h), List.append_assoc]
    rfl
theorem prs_rep : ∀ {xs : List T} {ps : List (Key × T)} {ws : List V}, prsOf xs = some ps → RepL K mg g xs ws →
    ∃ (as : List Addr) (kvs : List (Key × V)), ws = as.map V.ref ∧ Paired (fun p kv => SqT K g.H p [L2.kV kv.1, kv.2]) as kvs ∧ kvs.map (·.1) = ps.map (·.1) ∧ RepL K mg g (ps.map (·.2)) (kvs.map (·.2))
  | [], ps, ws, e, r => by
    simp only [prsOf] at e
    cases e
    simp only [RepL] at r
    exact ⟨[], [], r, .nil, rfl, RepL.nil⟩
  | x :: xs, ps, ws, e, r => by
    simp only [prsOf] at e
    simp only [RepL] at r
    obtain ⟨v, ws', rfl, h1, h2⟩ := r
    split at e
    · rename_i p ps' q1 q2
      cases e
      obtain ⟨as, kvs, e1, e2, e3, e4⟩ := prs_rep q2 h2
      unfold prOf at q1
      split at q1
      · rename_i k t
        cases hk : keyOfT k with
        | none => rw [hk] at q1; cases q1
        | some key =>
          rw [hk] at q1
          cases q1
          have ek := keyOfT_some hk
          subst ek
          obtain ⟨a, vs, rfl, hs, hl⟩ := h1.sqT
          simp only [RepL] at hl
          obtain ⟨v1, r1, rfl, g1, v2, r2, rfl, g2, rfl⟩ := hl
          rw [rep_key g1] at hs
          exact ⟨a :: as, (key, v2) :: kvs, by rw [e1]; rfl, .cons hs e2, by rw [List.map_cons, List.map_cons, e3], RepL.cons g2 e4⟩
      · cases q1
    · cases e
theorem mDictP : CallM X fDictP (rDictX X.K) := by
  intro W g σ ts vs Q R r h
  unfold fDictP at h
  split at h
  · rename_i xs
    obtain ⟨v, rfl, rv⟩ := r.one
    split at h
    · rename_i ps hps
      split at h
      · rename_i hc
        obtain ⟨p, ws, rfl, hx, hr⟩ := rv.sqX
        obtain ⟨as, kvs, rfl, hp, e3, e4⟩ := prs_rep hps hr
        have el : as.length = ps.length := by
          have h1 := hp.length
          have h2 := congrArg List.length e3
          rw [List.length_map, List.length_map] at h2
          omega
        refine ⟨p, as, kvs, rfl, hx, hp, by rw [el, sizeLine_eq]; omega, fun q hq => ?_⟩
        rw [merge_nodup (acc := []) (by rw [List.nil_append, e3]; exact hc.1), List.nil_append]
        refine wpR_dct h R ?_ e4 hq
        have : ps.map (fun p => keyT p.1) = (ps.map (·.1)).map keyT := by rw [List.map_map]; rfl
        rw [this, ← e3, List.map_map]
        rfl
      · exact h.elim
    · exact h.elim
  · exact h.elim
/-! ### a dict of the module, text keys -/
/-- the table of a module's dict: its entries -/
def KdAt (K : PySem.W.Frag) (w : World) (mg : Str → Option Value) (x : Str) (tab : List (Str × T)) : Prop := ∃ p, mg x = some (.ref p) ∧ (∃ es n, K.lookup p = some ⟨.type "dict", none, .dict es n, #[]⟩ ∧ PySem.W.KeysLit w.params es.toList) ∧
  ∀ q ∈ tab, ∃ u v, PySem.W.nsIn K p q.1 = some (some u) ∧ RelV v u ∧ ∀ g, Rep K mg g q.2 v
def fKd (tab : List (Str × T)) : T → MH → R := fun t h => match t with
  | .str x => match tab.find? (fun q => decide (q.1 = x)) with
    | some q => .ok q.2 h
    | none => .stuck
  | _ => .stuck
theorem se_kd {b : Expr} {mb : ME} {x : Str} {tab : List (Str × T)} {p1 pos : Pos} (hk : KdAt X.K X.w X.mg x tab) (hb : SE X W b mb) (hs : PlainIx b := by exact fun _ _ => rfl) (hg : Gl X x := by rfl) (hd : (x == ("__debug__" : Str)) = false := by decide) : SE X W (.Subscript (.Name x p1) b pos) (m1 (fKd tab) mb) := by
  obtain ⟨p, hm, ⟨es, n, hl, hkl⟩, hv⟩ := hk
  refine weakE (pe_ix ix_kdict (pe_glob hg hm (v := .ref p) rfl hd) hb hs) ?_
  rintro σ H Q ⟨g, s, rfl, R, S, h⟩
  refine ⟨g, s, rfl, R, S, wpR_bind h fun g1 t v e1 R1 r1 h1 => ?_⟩
  unfold fKd at h1
  split at h1
  · rename_i z
    split at h1
    · rename_i q hq
      have hmem := List.mem_of_find?_eq_some hq
      have heq : q.1 = z := of_decide_eq_true (List.find?_some (p := fun q : Str × T => decide (q.1 = z)) hq)
      obtain ⟨u, v', n1, rv, rr⟩ := hv q hmem
      rw [rep_str r1]
      rw [heq] at n1
      exact ⟨p, z, v', rfl, rfl, ⟨es, n, u, hl, hkl, n1, rv⟩, wpR_here h1 R1 (rr g1)⟩
    · exact h1.elim
  · exact h1.elim
end
end Mi
end part_Mi55
section part_Mi56
set_option maxRecDepth 100000
set_option maxHeartbeats 4000000
/-! Mi, part 56: sorted(set(xs)), xs a list of any length whose different pairs are few. -/
namespace Mi
open PySem PySem.Spec PyProof.Rows L2
theorem nodup_len {α : Type} [DecidableEq α] : ∀ {l D : List α}, l.Nodup → (∀ x ∈ l, x ∈ D) → l.length ≤ D.length
  | [], _, _, _ => Nat.zero_le _
  | x :: l, D, nd, h => by
    obtain ⟨h1, h2⟩ := List.nodup_cons.mp nd
    have hx : x ∈ D := h x List.mem_cons_self
    have r := nodup_len (l := l) (D := D.erase x) h2 fun y hy => (List.mem_erase_of_ne (fun e => h1 (by rw [← e]; exact hy))).mpr (h y (List.mem_cons_of_mem _ hy))
    rw [List.length_erase_of_mem hx] at r
    have := List.length_pos_of_mem hx
    rw [List.length_cons]
    omega
section
variable {P : Program} {w : World} {A : Around} {E : Value → Shared → Prop} {s : Shared}
/-- the walk that fills the set: few different keys are enough -/
theorem set_update_tupD {I : Addr} {fp wr : List Addr} {G : Array GenState → Array GenState → Prop} {n : Nat} {Pv : Nat → Value → Prop} {St : Nat → Shared → Prop} {R : Result → Shared → Prop}
    (W : WalksS P w A.in1 I fp wr G n Pv St) (S : Addr) (hSf : S ∉ fp) (ks : List (Addr × List Int)) (hn : n = ks.length) {D : List (List Int)} (hD : ∀ p ∈ ks, p.2 ∈ D) (hfew : D.length < 63) (hval : ∀ i v, Pv i v → ∃ p, ks[i]? = some p ∧ v = .ref p.1)
    (h0 : Heap) (hk : ∀ p ∈ ks, IsT P w h0 p.2 p.1) (hS0 : h0.get? S = none) (hw0 : ∀ b ∈ wr, h0.get? b = none) (hu : A.in1.units < cLine) :
    ∀ (k i : Nat) (s : Shared), n - i = k → i ≤ n → St i s → (∀ b o, h0.get? b = some o → s.heap.get? b = some o) → (∃ L es ep t, SetTR P w s.heap S L es ep t ∧ Got ks i L) →
      (∀ s' L es ep t, Moved (S :: wr) G s s' → SetTR P w s'.heap S L es ep t → Got ks n L → (∀ b o, h0.get? b = some o → s'.heap.get? b = some o) → R (.ok (.ret .none)) s') →
      codeAny (model P w) A (.builtin "set.update.loop" ⟨[.ref S, .ref I], []⟩) R s := by
  have hSw : S ∉ wr := fun h => hSf (W.sub _ h)
  have hsub : ∀ b ∈ wr, b ∈ S :: wr := fun b hb => List.mem_cons_of_mem _ hb
  have keepM : ∀ {s s' : Shared}, Moved wr G s s' → (∀ b o, h0.get? b = some o → s.heap.get? b = some o) → ∀ b o, h0.get? b = some o → s'.heap.get? b = some o := fun hm hkp b o e =>
    hm.heap b o (fun hb => by rw [hw0 b hb] at e; cases e) (hkp b o e)
  intro k
  induction k with
  | zero =>
    intro i s hk' hi hst hkp ⟨L, es, ep, t, hS, g⟩ hR
    obtain rfl : i = n := by omega
    refine codeAny_builtin F.entry_set_update_loop ?_
    rw [Around.under_plainId F.plain_set_update_loop _]
    show wpAny _ A.in1 (pyNext (.ref I) >>= _) _ _ s
    refine wpAny_bind (W.done s _ _ hst fun s' hm => ?_)
    show wpAny _ A.in1 (ret Value.none) _ _ s'
    have hkp' := keepM hm hkp
    exact wpAny_pure (hR s' L es ep t (hm.mono hsub) (hS.keep (fun o e => hm.heap S o hSw e) fun p hp => isT_keep (hk p (List.mem_of_mem_take (g.sub p hp))) hkp') g hkp')
  | succ k ih =>
    intro i s hk' hi hst hkp ⟨L, es, ep, t, hS, g⟩ hR
    have hlt : i < n := by omega
    refine codeAny_builtin F.entry_set_update_loop ?_
    rw [Around.under_plainId F.plain_set_update_loop _]
    show wpAny _ A.in1 (pyNext (.ref I) >>= _) _ _ s
    refine wpAny_bind (W.item i s _ _ hlt hst fun v s' hP hst' hm => ?_)
    obtain ⟨p, hp, rfl⟩ := hval i v hP
    have hkp' := keepM hm hkp
    have sub : ∀ p ∈ L, p ∈ ks := fun p hp => List.mem_of_mem_take (g.sub p hp)
    have hlen : L.length ≤ D.length := by
      have := nodup_len (D := D) hS.nd fun x hx => by
        obtain ⟨q, hq, e⟩ := List.mem_map.mp hx
        rw [← e]; exact hD q (sub q hq)
      rwa [List.length_map] at this
    have hx : IsT P w s'.heap p.2 p.1 := isT_keep (hk p (List.mem_of_getElem? hp)) hkp'
    show wpAny _ A.in1 (holding [Value.ref p.1] (setAdd S (.ref p.1)) >>= _) _ _ s'
    refine wpAny_bind (wpAny_holding ?_)
    unfold setAdd
    refine wpAny_holding (wpAny_bind (wpAny_pyHash_tuple hu hx ?_))
    refine add_at (s := { s' with toks := s'.toks + (p.2.length + 1) }) (hS.keep (fun o e => hm.heap S o hSw e) fun q hq => isT_keep (hk q (sub q hq)) hkp') hx hu (by omega) fun b h' L' es' ep' t' hsb hS2 c1 c2 => ?_
    have g' : Got ks (i + 1) L' := by
      rcases Classical.em (p.2 ∈ L.map (·.2)) with c | c
      · rw [c1 c]; exact g.same hp c
      · exact g.more hp (c2 c)
    have out : ∀ b, b ≠ S → h'.get? b = s'.heap.get? b := fun b e => hsb.2 b e
    have hkp2 : ∀ b o, h0.get? b = some o → h'.get? b = some o := fun b o e => (out b (fun z => by rw [z, hS0] at e; cases e)).trans (hkp' b o e)
    refine wpAny_pure ⟨plainId_quiet F.plain_set_update_loop _, ih (i + 1) _ (by omega) hlt (W.frame _ s' _ _ hst' (Nat.le_add_right _ _) fun b hb o e => ?_) hkp2 ⟨L', es', ep', t', hS2, g'⟩ fun s'' L2 es2 ep2 t2 hm'' hS'' g'' hkp'' => ?_⟩
    · rw [out b (fun h => hSf (by rw [← h]; exact hb))]; exact e
    · refine hR s'' L2 es2 ep2 t2 (Moved.trans W.gtrans ((hm.mono hsub).then_heap (Nat.le_add_right _ _) fun b o hb e => ?_) hm'') hS'' g'' hkp''
      rw [out b (fun h => hb (by rw [h]; exact List.mem_cons_self))]; exact e
theorem call_setD {l : Addr} {items : Array Value} (ks : List (Addr × List Int)) {Q : Value → Shared → Prop} (hh : A.handled = none) (hl : s.heap.IsList l items) (hit : items.toList = ks.map fun p => Value.ref p.1)
    (hk : ∀ p ∈ ks, IsT P w s.heap p.2 p.1) {D : List (List Int)} (hD : ∀ p ∈ ks, p.2 ∈ D) (hfew : D.length < 63) (hu : A.units + 3 < cLine)
    (h : ∀ (h' : Heap) (tk : Nat) L es ep t, SetTR P w h' s.heap.objs.size L es ep t → Got ks ks.length L → (∀ b o, s.heap.get? b = some o → h'.get? b = some o) → Q (.ref s.heap.objs.size) { s with heap := h', toks := tk }) :
    wpAny (model P w) A (call (.type "set") [.ref l]) Q E s := by
  have hisz : items.size = ks.length := by
    have q := congrArg List.length hit
    rw [Array.length_toList, List.length_map] at q
    exact q
  obtain ⟨c, tl, hmro⟩ := F.called_set.mro
  have hmade := F.called_set.made
  have hsub := F.called_set.sub
  refine wpAny_call (codeAny_of_tree ?_)
  show wpAny _ _ (callAny (.type "set") _) _ _ _
  refine wpAny_pure ⟨Code.quiet_builtin _ (by decide +kernel), codeAny_builtin F.entry_type_call ?_⟩
  rw [Around.under_plain (weight_type_call_type "set" [.ref l] []) rfl]
  have h1 := F.called_set.notType
  have h2 := F.called_set.canCreate
  have hct := F.typeCall_set_1 (.ref l)
  repeat (any_goals (first | assumption | wp_step))

  refine codeAny_mono (code_set_led1 (.ref l) (E := E) (Q₁ := fun obj s₁ => obj = .ref s.heap.objs.size ∧ s₁ = { s with heap := s.heap.push { cls := .type "set", dict := none, data := .set #[] 0 (.fresh 0 0 (!w.params.followText "set-order")) } }) ⟨rfl, rfl⟩) fun r s₁ hr => ?_
  cases r with
  | error e => exact hr
  | ok fl =>
    cases fl with
    | ret obj =>
      obtain ⟨rfl, rfl⟩ := hr
      have hS : (s.heap.push { cls := .type "set", dict := none, data := .set #[] 0 (.fresh 0 0 (!w.params.followText "set-order")) }).get? s.heap.objs.size = some { cls := .type "set", dict := none, data := .set #[] 0 (.fresh 0 0 (!w.params.followText "set-order")) } := Heap.get?_push_size _ rfl
      have hT : Shared.TypeIs { s with heap := s.heap.push { cls := .type "set", dict := none, data := .set #[] 0 (.fresh 0 0 (!w.params.followText "set-order")) } } (.ref s.heap.objs.size) "set" := ⟨_, hS, rfl⟩
      have hli := F.called_set.init.lookup
      have hbi := F.called_set.init.bind (.ref s.heap.objs.size)
      repeat (any_goals (first | assumption | wp_step))

      refine codeAny_mono (codeAny_call_builtin (R := wants (fun r s₂ => r = .none ∧ ∃ h' tk L es ep t, s₂ = { s with heap := h', toks := tk } ∧ SetTR P w h' s.heap.objs.size L es ep t ∧ Got ks ks.length L ∧
          (∀ b o, s.heap.get? b = some o → h'.get? b = some o)) E) F.called_set.init.plain F.entry_set_init (check_set_init_1 hT ?_)) fun r₂ s₂ hr₂ => ?_
      · obtain ⟨ol, hol, hcl, nl, hdl⟩ := hl
        obtain ⟨ocls, odict, odata, oslots⟩ := ol
        simp only at hcl hdl
        subst hcl; subst hdl
        have hol' : (s.heap.push { cls := .type "set", dict := none, data := .set #[] 0 (.fresh 0 0 (!w.params.followText "set-order")) }).get? l = some { cls := .type "list", dict := odict, data := .seq items nl, slots := oslots } := Heap.get?_push_of_some _ hol
        have hsls := F.sub_list_set
        have hslf := F.sub_list_frozenset
        have hne : (Value.type "list" == Value.type "dict") = false := by decide
        have hl1 : (s.heap.push { cls := .type "set", dict := none, data := .set #[] 0 (.fresh 0 0 (!w.params.followText "set-order")) }).IsList l items := ⟨_, hol', rfl, nl, rfl⟩
        unfold Builtin.«set.__init__» noKeywords Builtin.Frozenset.updateFrom
        generalize hPI : pyIter = PI
        wp_walk
        subst hPI

        refine wpAny_pyIter_list hl1 ?_
        refine wpAny_bind (wpAny_runValue ?_)
        have hlS : l < s.heap.objs.size := Heap.lt_size hol
        have hh3 : A.in1.in1.in1.handled = none := by simp [hh]
        have hz1 : (s.heap.push { cls := .type "set", dict := none, data := .set #[] 0 (.fresh 0 0 (!w.params.followText "set-order")) }).objs.size = s.heap.objs.size + 1 := Heap.size_push ..
        have hneI : l ≠ (s.heap.push { cls := .type "set", dict := none, data := .set #[] 0 (.fresh 0 0 (!w.params.followText "set-order")) }).objs.size := by
          rw [Heap.size_push]; exact Nat.ne_of_lt (Nat.lt_succ_of_lt hlS)
        have hSf : s.heap.objs.size ∉ [(s.heap.push { cls := .type "set", dict := none, data := .set #[] 0 (.fresh 0 0 (!w.params.followText "set-order")) }).objs.size, l] := by
          rw [Heap.size_push]; simp only [List.mem_cons, List.mem_singleton, List.not_mem_nil, or_false, not_or]
          exact ⟨Nat.ne_of_lt (Nat.lt_succ_self _), Nat.ne_of_gt hlS⟩
        have hval : ∀ (i : Nat) (v : Value), items[i]? = some v → ∃ p, ks[i]? = some p ∧ v = .ref p.1 := fun i v hv => by
          have q : items.toList[i]? = some v := by rw [Array.getElem?_toList]; exact hv
          rw [hit, List.getElem?_map] at q
          cases hq : ks[i]? with
          | none => rw [hq] at q; cases q
          | some p =>
            rw [hq] at q
            exact ⟨p, rfl, (Option.some.inj q).symm⟩
        have none_of : ∀ b, s.heap.objs.size ≤ b → s.heap.get? b = none := fun b hb => by
          cases q : s.heap.get? b with
          | none => rfl
          | some o => exact absurd (Nat.lt_of_lt_of_le (Heap.lt_size q) hb) (Nat.lt_irrefl _)
        refine set_update_tupD ((Walks.list hh3 _ l hneI items).toS) s.heap.objs.size
          hSf ks hisz hD hfew hval s.heap hk (none_of _ (Nat.le_refl _)) (fun b hb => none_of b (by
            rw [List.mem_singleton.mp hb, Heap.size_push]
            exact Nat.le_succ _)) hu (items.size - 0) 0 _ (by omega) (Nat.zero_le _)
          ⟨⟨_, Heap.get?_push_size _ rfl, rfl, rfl⟩, (hl1.push _)⟩ (fun b o e => Heap.get?_push_of_some _ (Heap.get?_push_of_some _ e)) ?hS0 ?hR
        case hS0 =>
          have hget : ((s.heap.push { cls := .type "set", dict := none, data := .set #[] 0 (.fresh 0 0 (!w.params.followText "set-order")) }).push { cls := .type "list_iterator", data := .fields #[.ref l, .int 0 0] }).get? s.heap.objs.size
              = some { cls := .type "set", dict := none, data := .set #[] 0 (.fresh 0 0 (!w.params.followText "set-order")) } := Heap.get?_push_of_some _ hS
          exact ⟨[], #[], 0, _, setTR_fresh hget, Got.zero ks⟩
        case hR =>
          intro s' L es ep t hm hS' g' hkp
          obtain ⟨h', g2, d', tk', os'⟩ := s'
          have eg : g2 = s.gens := hm.gens
          have ed : d' = s.drawn := hm.drawn
          have eo : os' = s.os := hm.os
          subst eg; subst ed; subst eo
          show wpAny _ _ _ _ _ _
          refine wpAny_pure ?_
          show wpAny _ _ (ret Value.none) _ _ _
          rw [hisz] at g'
          exact wpAny_pure ⟨rfl, h', tk', L, es, ep, t, rfl, hS', g', hkp⟩

      · cases r₂ with
        | error e => exact hr₂
        | ok fl₂ =>
          cases fl₂ with
          | ret r =>
            obtain ⟨rfl, h', tk, L, es, ep, t, rfl, hS', g', hk'⟩ := hr₂
            repeat (any_goals (first | assumption | wp_step))
            exact h _ _ _ _ _ _ hS' g' hk'
          | _ => exact hr₂.elim
    | _ => exact hr.elim
end
def isLs : T → Bool
  | .lst _ => true
  | .frl _ => true
  | .ref _ => true
  | _ => false
/-- sorted(set(xs)), xs a list of pairs of small numbers, few of them different; or a short list or tuple of such -/
def fSortSetD : List T → MH → R := fun ts h => match ts with
  | [t] => match seqOf t h with
    | some xs => match pks xs with
      | some ps => if ((decide (ps.length < 64) || (isLs t && decide ((srtP ps).length < 63))) && ps.all smallP) = true then .ok (.lst ((srtP ps).map pairT)) h else .stuck
      | none => .stuck
    | none => .stuck
  | _ => .stuck
section
variable {X : Cx} {K : PySem.W.Frag} {mg : Str → Option Value} {W : WX} {g : G} {σ : L2.St} {Q : VK}
theorem seq_ofM {t : T} {v : V} {xs : List T} (R : Rel K mg g) (r : Rep K mg g t v) (h : seqOf t g.h = some xs) : ∃ q vs, v = .ref q ∧ (SqL K g.H q vs ∨ SqT K g.H q vs) ∧ RepL K mg g xs vs ∧ (isLs t = true → SqL K g.H q vs) := by
  unfold seqOf at h
  cases t with
  | tup ys => cases h; obtain ⟨q, vs, e, h1, l1⟩ := r.sqT; exact ⟨q, vs, e, .inr h1, l1, fun z => by cases z⟩
  | lst ys => cases h; obtain ⟨q, vs, e, h1, l1⟩ := r.sqL; exact ⟨q, vs, e, .inl h1, l1, fun _ => h1⟩
  | frl ys => cases h; obtain ⟨q, vs, e, h1, l1⟩ := r.sqF; exact ⟨q, vs, e, .inl h1, l1, fun _ => h1⟩
  | ref i =>
    dsimp only at h
    split at h
    · rename_i ys q
      cases h
      obtain ⟨q, vs, e, _, h1, l1⟩ := R.lst_at r q
      exact ⟨q, vs, e, .inl (SqL.of h1), l1, fun _ => SqL.of h1⟩
    · cases h
  | _ => cases h
def rSetD (K : PySem.W.Frag) (P : Program) (w : World) : List V → Hp → VK → Prop := fun xs H Q => ∃ (l : Addr) (ks : List (Addr × List Int)), xs = [V.ref l] ∧
  ((SqL K H l (ks.map fun p => V.ref p.1) ∧ ∃ D : List (List Int), (∀ p ∈ ks, p.2 ∈ D) ∧ D.length < 63) ∨ ((SqL K H l (ks.map fun p => V.ref p.1) ∨ SqT K H l (ks.map fun p => V.ref p.1)) ∧ ks.length < 64)) ∧ (∀ p ∈ ks, SqT K H p.1 (p.2.map V.int)) ∧
  ∀ a L, H a = none → (∀ p ∈ L, p ∈ ks) → (∀ p ∈ ks, p.2 ∈ L.map (·.2)) → Q (.ref a) (upd H a (SetTO P w a L))
theorem cr_setD (hc : X.calm = true) (hu : X.A.units + 64 < cLine) : CallR X (.type "set") (rSetD X.K X.prog X.w) := by
  intro pins s σ H xs us Q I r h
  obtain ⟨l, ks, rfl, hl, hk, q⟩ := h
  rcases hl with ⟨hl, D, hD, hf⟩ | ⟨hl, hf⟩
  · rw [Vals.ref1 r]
    obtain ⟨its, rv, pl, hz⟩ := I.list hl
    have hn : H s.heap.objs.size = none := I.hok.fresh (Nat.le_refl _)
    refine call_setD (P := X.prog) (w := X.w) ks (I.ok.hd hc) pl.isList (by simpa using refs_of_vals rv) (fun p hp => I.isT (hk p hp)) hD hf (by omega) fun h' tk L es ep t R g k => ?_
    refine ⟨.ref s.heap.objs.size, upd H s.heap.objs.size (SetTO X.prog X.w s.heap.objs.size L), I.laid (t' := tk) k (Nat.le_refl _) (setTO_new R.t0), rfl, q _ L hn (fun p hp => ?_) fun p hp => ?_⟩
    · exact List.mem_of_mem_take (g.sub p hp)
    · exact g.all p (by rw [List.take_length]; exact hp)
  · exact cr_set2 hc hu pins s σ H _ us Q I r ⟨l, ks, rfl, hl, hk, hf, q⟩
theorem mSortSetD : CallM X fSortSetD (fun vs H Q => rSetD X.K X.prog X.w vs H (fun x H2 => rSortedT X.K X.prog X.w [x] H2 Q)) := by
  intro W g σ ts vs Q R r h
  unfold fSortSetD at h
  split at h
  · rename_i t
    obtain ⟨v, rfl, rv⟩ := r.one
    split at h
    · rename_i xs q
      obtain ⟨l, ws, rfl, hsq, hr, hL⟩ := seq_ofM R rv q
      split at h
      · rename_i ps hps
        rw [pks_eq hps] at hr
        split at h
        · rename_i hc
          rw [Bool.and_eq_true] at hc
          obtain ⟨hlen, hsm⟩ := hc
          obtain ⟨ks, e1, e2, hk⟩ := keys_of hr
          have hl : ks.length = ps.length := by
            have := congrArg List.length e2
            simpa using this
          rw [e1] at hsq
          refine ⟨l, ks, rfl, ?_, fun p hp => ?_, fun a L ha hs hcov => ?_⟩
          · rw [Bool.or_eq_true, Bool.and_eq_true] at hlen
            rcases hlen with hlen | ⟨hls, hlen⟩
            · have hlen := of_decide_eq_true hlen
              exact .inr ⟨hsq, by omega⟩
            · have hlen := of_decide_eq_true hlen
              have hsl := hL hls
              rw [e1] at hsl
              refine .inl ⟨hsl, (srtP ps).map fun p => [p.1, p.2], fun p hp => ?_, by rw [List.length_map]; exact hlen⟩
              obtain ⟨p', hp', e5, _, _⟩ := hk p hp
              rw [e5]
              exact List.mem_map.mpr ⟨p', mem_srtP.mpr hp', rfl⟩
          · obtain ⟨_, _, _, _, h5⟩ := hk p hp
            exact h5
          have e3 : Ext g (g.lay a (SetTO X.prog X.w a L)) := lay_ext R ha
          have R3 : Rel X.K X.mg (g.lay a (SetTO X.prog X.w a L)) := R.lay ha
          have sq3 : ∀ p ∈ ks, SqT X.K (upd g.H a (SetTO X.prog X.w a L)) p.1 (p.2.map V.int) := fun p hp => by
            obtain ⟨p', _, e5, r5, _⟩ := hk p hp
            obtain ⟨a', ws', ev, hs', hr'⟩ := (show Rep X.K X.mg _ (.tup [.int p'.1, .int p'.2]) _ from r5.mono e3).sqT
            have ew := rep_int2 hr'
            cases ev
            rw [ew] at hs'
            rw [e5]
            exact hs'
          have hbd : ∀ p ∈ ks, p.2.length = 2 ∧ TS.Bd 64 p.2 := fun p hp => by
            obtain ⟨p', hp', e5, _, _⟩ := hk p hp
            have hsm' := List.all_eq_true.mp hsm p' hp'
            unfold smallP at hsm'
            have hsm' := of_decide_eq_true hsm'
            rw [e5]
            refine ⟨rfl, fun m hm => ?_⟩
            rcases List.mem_cons.mp hm with z | z
            · omega
            · rw [List.mem_singleton] at z
              omega
          refine ⟨a, L, 2, 64, rfl, upd_same, fun p hp => sq3 p (hs p hp), by omega, fun p hp => hbd p (hs p hp), fun L' p pm nd hl' pw hp => ?_⟩
          have inL : ∀ q ∈ L', q ∈ ks := fun q hq => hs q (pm.mem_iff.mp hq)
          -- the keys of L' as pairs
          let un : List Int → Int × Int := fun l => (l.getD 0 0, l.getD 1 0)
          have e6 : L'.map (·.2) = ((L'.map fun q => un q.2)).map (fun p => [p.1, p.2]) := by
            rw [List.map_map]
            refine List.map_congr_left fun q hq => ?_
            obtain ⟨p', _, e5, _⟩ := hk q (inL q hq)
            show q.2 = [(un q.2).1, (un q.2).2]
            rw [e5]
            rfl
          have asc : AscP (L'.map fun q => un q.2) := by
            refine List.pairwise_map.mpr ?_
            have nd' := List.pairwise_map.mp nd
            refine (nd'.and pw).imp_of_mem fun {q r} hq hr hh => ?_
            obtain ⟨p1, m1, e7, _⟩ := hk q (inL q hq)
            obtain ⟨p2, m2, e8, _⟩ := hk r (inL r hr)
            obtain ⟨ne, le⟩ := hh
            have s1 := of_decide_eq_true (List.all_eq_true.mp hsm p1 m1)
            have s2 := of_decide_eq_true (List.all_eq_true.mp hsm p2 m2)
            rw [e7, e8] at ne le
            have z := pair_lt le ne ⟨s1.1, s1.2.1⟩ s1.2.2 ⟨s2.1, s2.2.1⟩ s2.2.2
            show ltPr (un q.2) (un r.2) = true
            rw [e7, e8]
            exact ltPr_iff.mpr z
          have eS : srtP ps = L'.map fun q => un q.2 := by
            refine ascP_uniq asc_srtP asc fun r => ?_
            rw [mem_srtP]
            constructor
            · intro hr'
              have : ([r.1, r.2] : List Int) ∈ ks.map (·.2) := by
                rw [e2]
                exact List.mem_map.mpr ⟨r, hr', rfl⟩
              obtain ⟨q, hq, eq⟩ := List.mem_map.mp this
              have h9 := hcov q hq
              rw [eq] at h9
              obtain ⟨q', hq', eq'⟩ := List.mem_map.mp h9
              refine List.mem_map.mpr ⟨q', pm.mem_iff.mpr hq', ?_⟩
              show un q'.2 = r
              rw [eq']
              rfl
            · intro hr'
              obtain ⟨q, hq, eq⟩ := List.mem_map.mp hr'
              obtain ⟨p', hp', e5, _⟩ := hk q (inL q hq)
              have : un q.2 = p' := by rw [e5]; rfl
              rw [← eq, this]
              exact hp'
          have rl : RepL X.K X.mg (g.lay a (SetTO X.prog X.w a L)) ((srtP ps).map pairT) (L'.map fun q => V.ref q.1) := by
            rw [eS]
            refine reps_of (ks := ks) e6 fun q hq => ?_
            obtain ⟨p', _, e5, r5, _⟩ := hk q (inL q hq)
            exact ⟨p', e5, r5.mono e3⟩
          exact wpR_lst (g := g.lay a (SetTO X.prog X.w a L)) (wpR.ext h e3) R3 rl hp
        · exact h.elim
      · exact h.elim
    · exact h.elim
  · exact h.elim
/-- sorted(set(e)) -/
theorem se_sortSetD {e : Expr} {me : MA} {p1 p2 q1 q2 : Pos} (hc : X.calm = true) (hu : X.A.units + 64 < cLine) (hs : X.mg "sorted" = none) (ht : X.mg "set" = none) (ha : SA X W [e] me) (hg : Gl X "sorted" := by rfl) (hg2 : Gl X "set" := by rfl)
    (he : starEach [e] X.env = (false, eval e X.env) :: starEach [] X.env := by rfl) (hpl : (backTo q2 (starEach [] X.env)).any (·.1) = false := by rfl)
    (he2 : starEach [.Call (.Name "set" p2) [e] [] q2] X.env = (false, eval (.Call (.Name "set" p2) [e] [] q2) X.env) :: starEach [] X.env := by rfl) (hpl2 : (backTo q1 (starEach [] X.env)).any (·.1) = false := by rfl) :
    SE X W (.Call (.Name "sorted" p1) [.Call (.Name "set" p2) [e] [] q2] [] q1) (mA fSortSetD me) := by
  have h1 := pe_callTy (x := "set") (p := p2) (pos := q2) (cr_setD hc hu) hg2 ht (by decide +kernel) ha (by decide) (by decide) he hpl
  have h2 := pe_callB (x := "sorted") (p := p1) (pos := q1) (cr_sortedT hc) hg hs (by decide +kernel) (pa_cons h1 pa_nil he2) (by decide) (by decide) he2 hpl2
  exact weakE h2 fun σ H Q h => useA mSortSetD h
end
end Mi
end part_Mi56
section part_Mi57
set_option maxRecDepth 100000
set_option maxHeartbeats 4000000
/-! Mi, part 57: a head that knows dicts of the module with text keys; text.index(text). -/
namespace Mi
open PySem PySem.Spec PyProof.Rows L2
/-- a dict of the module holds these values -/
def kdV (K : PySem.W.Frag) (x : Str) (tab : List (Str × T)) : Bool := tab.all fun q => match PySem.W.nsIn K (He.ga K x) q.1 with
  | some (some u) => kT K q.2 u
  | _ => false
def kdG (K : PySem.W.Frag) (x : Str) : Bool := match PySem.W.nsIn K mainGlobals x with
  | some (some (.ref _)) => true
  | _ => false
theorem kdAt_of {K : PySem.W.Frag} {w : World} {mg : Str → Option Value} {h : Heap} {x : Str} {tab : List (Str × T)} (X : K.In h) (G : h.Ns mainGlobals mg) (d : ∃ es n, KDict K w (He.ga K x) es n) (e : (kdG K x && kdV K x tab) = true) : KdAt K w mg x tab := by
  obtain ⟨e1, e2⟩ := bb e
  obtain ⟨es, n, D⟩ := d
  refine ⟨He.ga K x, ?_, ⟨es, n, D.1, D.2⟩, fun q hq => ?_⟩
  · unfold kdG at e1
    split at e1
    · rename_i a z
      have : He.ga K x = a := by unfold He.ga; rw [z]
      rw [this]
      exact PySem.W.mg_of X G z
    · cases e1
  · have h2 := List.all_eq_true.mp e2 q hq
    split at h2
    · rename_i u z
      obtain ⟨v, r, y⟩ := kT_of q.2 u h2
      exact ⟨u, v, z, r, y⟩
    · cases h2
/-! ### the hook -/
abbrev AlD2 : Type := AlZ × List (Option (List (Option (Str × Int))))
def obsZD (n : Nat) (fa : List He.Fa) (fn : List He.DefD) (sf : List Pth) (tf : List He.Defn) (ex : PySem.W.Frag → Bool) (ts : List He.Tab) (g : Addr → Option Obj) : AlD2 := (obsZ n fa fn sf tf ex g, ts.map fun t => He.dicW (frY g n) (t.1 (frY g n)))
def valZD (fn : List He.DefD) (sf : List Pth) (ts : List He.Tab) (w : World) : AlD2 := ((valY fn sf, true), ts.map fun t => some (He.keysIn w.params t.2))
def SaysKd (ts : List He.Tab) (w : World) (K : PySem.W.Frag) : Prop := ∀ (i : Nat) (t : He.Tab), ts[i]? = some t → ∃ es n, KDict K w (t.1 K) es n
theorem saysKd_of {ts : List He.Tab} {w : World} {K : PySem.W.Frag} (e : (ts.map fun t => He.dicW K (t.1 K)) = ts.map fun t => some (He.keysIn w.params t.2)) : SaysKd ts w K := by
  intro i t h
  have e2 : (ts.map fun t => He.dicW K (t.1 K))[i]? = (ts.map fun t => some (He.keysIn w.params t.2))[i]? := by rw [e]
  rw [List.getElem?_map, List.getElem?_map, h] at e2
  exact He.dicW_ok (Option.some.inj e2)
def hookZD (n : Nat) (fa : List He.Fa) (fn : List He.DefD) (sf : List Pth) (tf : List He.Defn) (ex : PySem.W.Frag → Bool) (ts : List He.Tab) : PySem.W.Hook where
  α := AlD2
  obs := fun s => obsZD n fa fn sf tf ex ts s.heap.get?
  val := fun w => valZD fn sf ts w
  says := fun w h => ∃ K : PySem.W.Frag, K.In h ∧ SaysZ fa fn sf tf ex h K ∧ SaysKd ts w K
  of := fun _ _ e => ⟨_, He.frT_in, saysZ_of (congrArg (fun z : AlD2 => z.1) e), saysKd_of (congrArg (fun z : AlD2 => z.2) e)⟩
  keeps := fun _ _ _ ⟨K, hK, c, d⟩ k => ⟨K, PySem.W.Frag.In.keeps hK k, ⟨c.y, c.hd, c.out, fun p hp => k _ _ (c.empty p hp)⟩, d⟩
theorem obsZD_eq {n : Nat} {fa : List He.Fa} {fn : List He.DefD} {sf : List Pth} {tf : List He.Defn} {ex : PySem.W.Frag → Bool} {ts : List He.Tab} {g : Addr → Option Obj} {s : Shared} (h : ∀ a, g a = s.heap.get? a) : obsZD n fa fn sf tf ex ts g = (hookZD n fa fn sf tf ex ts).obs s := by
  have e : g = s.heap.get? := funext h
  rw [e] <;> rfl
/-! ### text.index(text) -/
section
variable {X : Cx}
def fIndexS : T → List T → MH → R := fun t ts h => match t, ts with
  | .str a, [.str b] => match Txt.index0 a b with
    | some i => .ok (.int (i : Nat)) h
    | none => .stuck
  | _, _ => .stuck
theorem mt_indexS : MtR X "str.index" (fun x xs H Q => ∃ (a b : Str) (i : Nat), x = .str a ∧ xs = [.str b] ∧ Txt.index0 a b = some i ∧ Q (.int (i : Nat)) H) := by
  intro pins s σ H x xs v us Q I rx rs h
  obtain ⟨a, b, i, rfl, rfl, e, h⟩ := h
  obtain ⟨t, rfl⟩ := rx
  cases rs with
  | cons r1 rs =>
    cases rs
    obtain ⟨u, rfl⟩ := r1
    unfold Txt.index0 at e
    cases q : PySem.Builtin.Str.occurrences a b 0 a.length 1 with
    | nil => rw [q] at e; cases e
    | cons k rest =>
      rw [q] at e
      cases e
      exact PySem.SC.index q ⟨.int (i : Nat), H, I.tok _, ⟨_, rfl⟩, h⟩
theorem meIndexS : MeM X fIndexS (fun x xs H Q => ∃ (a b : Str) (i : Nat), x = .str a ∧ xs = [.str b] ∧ Txt.index0 a b = some i ∧ Q (.int (i : Nat)) H) := by
  intro W g σ t ts x vs Q R r rs h
  unfold fIndexS at h
  split at h
  · rename_i a b
    rw [rep_str r, rep_str1 rs]
    split at h
    · rename_i i q
      exact ⟨a, b, i, rfl, rfl, q, wpR_here h R rInt⟩
    · exact h.elim
  · exact h.elim
end
end Mi
end part_Mi57
section part_Bg
set_option maxRecDepth 100000
set_option maxHeartbeats 2000000
/-! Bg: the law's bag of draws, once for all laws. -/
namespace Mi
open PySem PySem.Spec PyProof.Rows L2
def mBagL : MF := mDef 4 ((mSq (mSet 1 (mA fList (aCons (mSl (mVar 0) (mC .non) (m1 fPart (mC (.int 63)))) aNil)))
    (mSq (mSet 2 (m2 fAdd (mC (.int 5608)) (m2 fMul (mC (.int 31)) (mA fLen (aCons (mVar 1) aNil)))))
    (mSq (mFor (mSrc (mVar 1)) (gN 3) (mSq (mSet 2 (m2 fMod (mA fInt (aCons (m2 fAdd (m2 fAdd (m2 fMul (mVar 2) (mC (.int 47093))) (m2 fMod (mA fInt (aCons (mVar 3) aNil)) (mC (.int 2147483389)))) (mC (.int 17))) aNil)) (mC (.int 2147483549))))
    mNx))
    (mSq (mRet (mA fLstN (aCons (mVar 1) (aCons (mC (.int 0)) (aCons (mC (.int 0)) (aCons (mVar 2) aNil))))))
    mNx)))))
def mDrawL : MF := mDef 5 ((mSq (mIfS (mAnd (m2 fEq (m2 fIx (mVar 0) (mC (.int 2))) (mC (.int 0))) (m2 fLt (m2 fIx (mVar 0) (mC (.int 1))) (mA fLen (aCons (m2 fIx (mVar 0) (mC (.int 0))) aNil)))) (mSq (mSet 2 (m2 fIx (m2 fIx (mVar 0) (mC (.int 0))) (m2 fIx (mVar 0) (mC (.int 1)))))
    (mSq (mAs (m2 fAdd (m2 fIx (mVar 0) (mC (.int 1))) (mC (.int 1))) (gSt (mVar 0) (mC (.int 1))))
    (mSq (mIfS (m2 fGe (mVar 2) (m2 fPow (mC (.int 10)) (mC (.int 18)))) (mSq (mAs (mVar 2) (gSt (mVar 0) (mC (.int 2))))
    mNx) (mSq (mSet 4 (m2 fAdd (m2 fMul (m2 fIx (mVar 0) (mC (.int 3))) (mC (.int 41381))) (m2 fMod (mA fInt (aCons (mVar 2) aNil)) (mC (.int 2000000033)))))
    (mSq (mAs (m2 fMod (mA fInt (aCons (m2 fAdd (mVar 4) (m2 fIx (mVar 0) (mC (.int 1)))) aNil)) (mC (.int 2147483549))) (gSt (mVar 0) (mC (.int 3))))
    mNx)))
    mNx))) mNx)
    (mSq (mIfS (m2 fGt (m2 fIx (mVar 0) (mC (.int 2))) (mC (.int 0))) (mSq (mSet 3 (m2 fMod (mA fInt (aCons (m2 fIx (mVar 0) (mC (.int 2))) aNil)) (mVar 1)))
    (mSq (mAs (m2 fFdiv (m2 fIx (mVar 0) (mC (.int 2))) (mVar 1)) (gSt (mVar 0) (mC (.int 2))))
    (mSq (mRetF (mVar 3))
    mNx))) mNx)
    (mSq (mAs (m2 fMod (mA fInt (aCons (m2 fAdd (m2 fMul (m2 fIx (mVar 0) (mC (.int 3))) (mC (.int 45137))) (mC (.int 1019))) aNil)) (mC (.int 2147483549))) (gSt (mVar 0) (mC (.int 3))))
    (mSq (mRetF (m2 fMod (mA fInt (aCons (m2 fFdiv (m2 fMod (mA fInt (aCons (m2 fMul (m2 fIx (mVar 0) (mC (.int 3))) (m2 fIx (mVar 0) (mC (.int 3)))) aNil)) (mC (.int 999999929))) (mC (.int 37))) aNil)) (mVar 1)))
    mNx)))))
def bagO (row : List Int) (p c m : Int) : MO := .lst [.lst (row.map .int), .int p, .int c, .int m]
structure Bag (h : MH) (i : Nat) : Prop where
  ex : ∃ (row : List Int) (p c m : Int), h[i]? = some (bagO row p c m) ∧ row.length ≤ 63 ∧ 0 ≤ p ∧ 0 ≤ c ∧ 0 ≤ m ∧ m < 2147483549
theorem bIx {i : Nat} {h : MH} {row : List Int} {p c m : Int} (e : h[i]? = some (bagO row p c m)) :
    fIx (.ref i) (.int 0) h = .ok (.lst (row.map .int)) h ∧ fIx (.ref i) (.int 1) h = .ok (.int p) h ∧ fIx (.ref i) (.int 2) h = .ok (.int c) h ∧ fIx (.ref i) (.int 3) h = .ok (.int m) h := by
  have z : seqOf (.ref i) h = some [.lst (row.map .int), .int p, .int c, .int m] := by simp only [seqOf, e, bagO]
  have q : ∀ k, fIx (.ref i) (.int k) h = match seqOf (.ref i) h with
      | some xs => match atI xs k with
        | some z => .ok z h
        | none => .stuck
      | none => .stuck := fun k => rfl
  refine ⟨?_, ?_, ?_, ?_⟩ <;> (rw [q, z]; rfl)
theorem bSt {i : Nat} {h : MH} {row : List Int} {p c m : Int} {s : SM} (e : h[i]? = some (bagO row p c m)) (hs : s[0]? = some (some (.ref i))) (x : Int) :
    gSt (mVar 0) (mC (.int 1)) (.int x) s h = .ok s (h.set i (bagO row x c m)) ∧ gSt (mVar 0) (mC (.int 2)) (.int x) s h = .ok s (h.set i (bagO row p x m)) ∧ gSt (mVar 0) (mC (.int 3)) (.int x) s h = .ok s (h.set i (bagO row p c x)) := by
  have e2 : liveL (.ref i) h = some (i, [.lst (row.map .int), .int p, .int c, .int m]) := by
    simp only [liveL, e, bagO]
  refine ⟨?_, ?_, ?_⟩ <;> (simp only [gSt, mVar, mC, hs, e2]; rfl)
theorem bGet {i : Nat} {h : MH} {o o' : MO} (e : h[i]? = some o) : (h.set i o')[i]? = some o' := List.getElem?_set_self (List.getElem?_eq_some_iff.mp e).1
theorem mulOk_l {a b : Int} (h1 : -18446744073709551616 < a) (h2 : a < 18446744073709551616) : mulOk a b = true := by
  unfold mulOk
  simp only [Bool.or_eq_true, Bool.and_eq_true, decide_eq_true_eq]
  exact .inl ⟨h1, h2⟩
theorem mulOk_r {a b : Int} (h1 : -18446744073709551616 < b) (h2 : b < 18446744073709551616) : mulOk a b = true := by
  unfold mulOk
  simp only [Bool.or_eq_true, Bool.and_eq_true, decide_eq_true_eq]
  exact .inr ⟨h1, h2⟩
theorem fMul_l {a b : Int} {h : MH} (h1 : -18446744073709551616 < a) (h2 : a < 18446744073709551616) : fMul (.int a) (.int b) h = .ok (.int (a * b)) h := by
  show (if mulOk a b then R.ok (.int (a * b)) h else .stuck) = _
  rw [mulOk_l h1 h2]; rfl
theorem fMul_r {a b : Int} {h : MH} (h1 : -18446744073709551616 < b) (h2 : b < 18446744073709551616) : fMul (.int a) (.int b) h = .ok (.int (a * b)) h := by
  show (if mulOk a b then R.ok (.int (a * b)) h else .stuck) = _
  rw [mulOk_r h1 h2]; rfl
theorem fMod_ok {a b : Int} {h : MH} (h1 : 0 < b) : fMod (.int a) (.int b) h = .ok (.int (a % b)) h := by
  show (if decide (0 < b) = true then R.ok (.int (a % b)) h else .stuck) = _
  rw [decide_eq_true h1]; rfl
theorem fFdiv_ok {a b : Int} {h : MH} (h1 : 0 < b) (h2 : b < 1073741824) : fFdiv (.int a) (.int b) h = .ok (.int (a / b)) h := by
  show (if (decide (0 < b) && decide (b < 1073741824)) = true then R.ok (.int (a / b)) h else .stuck) = _
  rw [decide_eq_true h1, decide_eq_true h2]; rfl
theorem fAdd_i {a b : Int} {h : MH} : fAdd (.int a) (.int b) h = .ok (.int (a + b)) h := rfl
theorem fInt_i {a : Int} {h : MH} : fInt [.int a] h = .ok (.int a) h := rfl
theorem fEq_i {a b : Int} {h : MH} : fEq (.int a) (.int b) h = .ok (.bl (decide (a = b))) h := by
  show R.ok (T.bl (PyData.eqv (.int a) (.int b))) h = _
  congr 2
  try (simp [PyData.eqv]) 
theorem fLt_i {a b : Int} {h : MH} : fLt (.int a) (.int b) h = .ok (.bl (decide (a < b))) h := rfl
theorem fGt_i {a b : Int} {h : MH} : fGt (.int a) (.int b) h = .ok (.bl (decide (b < a))) h := rfl
theorem fGe_i {a b : Int} {h : MH} : fGe (.int a) (.int b) h = .ok (.bl (decide (b ≤ a))) h := rfl
theorem fLen_l {xs : List T} {h : MH} : fLen [.lst xs] h = .ok (.int xs.length) h := rfl
/-- the second half of a draw -/
def mDraw2 : MS := mSq (mIfS (m2 fGt (m2 fIx (mVar 0) (mC (.int 2))) (mC (.int 0))) (mSq (mSet 3 (m2 fMod (mA fInt (aCons (m2 fIx (mVar 0) (mC (.int 2))) aNil)) (mVar 1)))
    (mSq (mAs (m2 fFdiv (m2 fIx (mVar 0) (mC (.int 2))) (mVar 1)) (gSt (mVar 0) (mC (.int 2))))
    (mSq (mRetF (mVar 3))
    mNx))) mNx)
    (mSq (mAs (m2 fMod (mA fInt (aCons (m2 fAdd (m2 fMul (m2 fIx (mVar 0) (mC (.int 3))) (mC (.int 45137))) (mC (.int 1019))) aNil)) (mC (.int 2147483549))) (gSt (mVar 0) (mC (.int 3))))
    (mSq (mRetF (m2 fMod (mA fInt (aCons (m2 fFdiv (m2 fMod (mA fInt (aCons (m2 fMul (m2 fIx (mVar 0) (mC (.int 3))) (m2 fIx (mVar 0) (mC (.int 3)))) aNil)) (mC (.int 999999929))) (mC (.int 37))) aNil)) (mVar 1)))
    mNx))
theorem draw2_ok {h : MH} {i : Nat} {many : Int} {s2 s3 s4 : Option T} {row : List Int} {p c m : Int} (e : h[i]? = some (bagO row p c m)) (h1 : 1 ≤ many) (h2 : many ≤ 1000000) (hc : 0 ≤ c) (hm0 : 0 ≤ m) (hm1 : m < 2147483549) :
    ∃ (r : Int) (c' m' : Int), mDraw2 [some (.ref i), some (.int many), s2, s3, s4] h = .rt (.int r) (h.set i (bagO row p c' m')) ∧ 0 ≤ r ∧ r < many ∧ 0 ≤ c' ∧ 0 ≤ m' ∧ m' < 2147483549 := by
  obtain ⟨e0, e1, e2, e3⟩ := bIx e
  unfold mDraw2
  by_cases q : 0 < c
  · refine ⟨c % many, c / many, m, ?_, Int.emod_nonneg _ (by omega), Int.emod_lt_of_pos _ (by omega), Int.ediv_nonneg hc (by omega), hm0, hm1⟩
    have st := (bSt (s := [some (.ref i), some (.int many), s2, some (.int (c % many)), s4]) e rfl (c / many)).2.1
    simp only [mSq, mIfS, m2, mVar, mC, R.bind, R.toS, e2, fGt_i, decide_eq_true q, fIfS, mSet, mA, aCons, aNil, RL.bind, fInt_i, fMod_ok (show (0 : Int) < many by omega), List.getElem?_cons_zero, List.getElem?_cons_succ, List.set_cons_succ, List.set_cons_zero,
      mAs, fFdiv_ok (show (0 : Int) < many by omega) (show many < 1073741824 by omega), st, mRetF, fzT]
  · refine ⟨((((m * 45137 + 1019) % 2147483549) * ((m * 45137 + 1019) % 2147483549)) % 999999929 / 37) % many, c, (m * 45137 + 1019) % 2147483549, ?_, Int.emod_nonneg _ (by omega), Int.emod_lt_of_pos _ (by omega), hc, Int.emod_nonneg _ (by omega), Int.emod_lt_of_pos _ (by omega)⟩
    have st := (bSt (s := [some (.ref i), some (.int many), s2, s3, s4]) e rfl ((m * 45137 + 1019) % 2147483549)).2.2
    obtain ⟨_, _, _, z3⟩ := bIx (bGet (o' := bagO row p c ((m * 45137 + 1019) % 2147483549)) e)
    have b0 := Int.emod_nonneg (m * 45137 + 1019) (show (2147483549 : Int) ≠ 0 by omega)
    have b1 := Int.emod_lt_of_pos (m * 45137 + 1019) (show (0 : Int) < 2147483549 by omega)
    simp only [mSq, mIfS, m2, mVar, mC, R.bind, R.toS, e2, e3, fGt_i, decide_eq_false q, fIfS, mSet, mA, aCons, aNil, RL.bind, fInt_i, fAdd_i, fMul_l (show -18446744073709551616 < m by omega) (show m < 18446744073709551616 by omega), fMod_ok (show (0 : Int) < many by omega), fMod_ok (show (0 : Int) < 2147483549 by omega), fMod_ok (show (0 : Int) < 999999929 by omega), List.getElem?_cons_zero, List.getElem?_cons_succ, List.set_cons_succ, List.set_cons_zero,
      mAs, fFdiv_ok (show (0 : Int) < 37 by omega) (show (37 : Int) < 1073741824 by omega), st, z3, mRetF, fzT, mNx, fMul_l (show -18446744073709551616 < (m * 45137 + 1019) % 2147483549 by omega) (show (m * 45137 + 1019) % 2147483549 < 18446744073709551616 by omega)]
def mDraw1 : MS := mIfS (mAnd (m2 fEq (m2 fIx (mVar 0) (mC (.int 2))) (mC (.int 0))) (m2 fLt (m2 fIx (mVar 0) (mC (.int 1))) (mA fLen (aCons (m2 fIx (mVar 0) (mC (.int 0))) aNil)))) (mSq (mSet 2 (m2 fIx (m2 fIx (mVar 0) (mC (.int 0))) (m2 fIx (mVar 0) (mC (.int 1)))))
    (mSq (mAs (m2 fAdd (m2 fIx (mVar 0) (mC (.int 1))) (mC (.int 1))) (gSt (mVar 0) (mC (.int 1))))
    (mSq (mIfS (m2 fGe (mVar 2) (m2 fPow (mC (.int 10)) (mC (.int 18)))) (mSq (mAs (mVar 2) (gSt (mVar 0) (mC (.int 2))))
    mNx) (mSq (mSet 4 (m2 fAdd (m2 fMul (m2 fIx (mVar 0) (mC (.int 3))) (mC (.int 41381))) (m2 fMod (mA fInt (aCons (mVar 2) aNil)) (mC (.int 2000000033)))))
    (mSq (mAs (m2 fMod (mA fInt (aCons (m2 fAdd (mVar 4) (m2 fIx (mVar 0) (mC (.int 1)))) aNil)) (mC (.int 2147483549))) (gSt (mVar 0) (mC (.int 3))))
    mNx)))
    mNx))) mNx
theorem fIx_l {xs : List T} {k : Int} {h : MH} {n : Nat} {t : T} (h1 : 0 ≤ k) (h2 : k < xs.length) (h3 : xs[k.toNat]? = some t) : fIx (.lst xs) (.int k) h = .ok t h := by
  have e : atI xs k = some t := by
    unfold atI ixN
    rw [if_pos h1, if_pos h2]
    exact h3
  show (match atI xs k with
    | some z => R.ok z h
    | none => .stuck) = _
  rw [e]
theorem fPow_18 {h : MH} : fPow (.int 10) (.int 18) h = .ok (.int 1000000000000000000) h := rfl
theorem draw1_ok {h : MH} {i : Nat} {many : Int} {row : List Int} {p c m : Int} (e : h[i]? = some (bagO row p c m)) (hp : 0 ≤ p) (hc : 0 ≤ c) (hm0 : 0 ≤ m) (hm1 : m < 2147483549) :
    ∃ (s2 s3 s4 : Option T) (p' c' m' : Int), mDraw1 [some (.ref i), some (.int many), none, none, none] h = .nx [some (.ref i), some (.int many), s2, s3, s4] (h.set i (bagO row p' c' m')) ∧ 0 ≤ p' ∧ 0 ≤ c' ∧ 0 ≤ m' ∧ m' < 2147483549 := by
  obtain ⟨e0, e1, e2, e3⟩ := bIx e
  have hself : h.set i (bagO row p c m) = h := by
    apply List.ext_getElem?
    intro k
    by_cases w : i = k
    · subst w
      rw [bGet e, e]
    · rw [List.getElem?_set_ne w]
  unfold mDraw1
  by_cases q : c = 0
  · by_cases q2 : p < row.length
    · have hx : (row.map T.int)[p.toNat]? = some (.int (row[p.toNat]'(by omega))) := by simp [List.getElem?_eq_getElem (show p.toNat < row.length by omega)]
      have hlen : ((row.map T.int).length : Int) = (row.length : Int) := by simp
      have hfx := fIx_l (n := 0) (h := h) hp (by rw [hlen]; exact q2) hx
      generalize row[p.toNat]'(by omega) = cell at hx hfx
      have st1 := (bSt (s := [some (.ref i), some (.int many), some (.int cell), none, none]) e rfl (p + 1)).1
      have g1 : (h.set i (bagO row (p + 1) c m))[i]? = some (bagO row (p + 1) c m) := bGet e
      obtain ⟨f0, f1, f2, f3⟩ := bIx g1
      by_cases q3 : 1000000000000000000 ≤ cell
      · refine ⟨some (.int cell), none, none, p + 1, cell, m, ?_, by omega, by omega, hm0, hm1⟩
        have st2 := (bSt (s := [some (.ref i), some (.int many), some (.int cell), none, none]) g1 rfl cell).2.1
        rw [List.set_set] at st2
        simp only [mSq, mIfS, mAnd, fAnd, m2, mVar, mC, R.bind, R.toS, e0, e1, e2, fEq_i, decide_eq_true q, fLen_l, hlen, fLt_i, decide_eq_true q2, fIfS, mSet, mA, aCons, aNil, RL.bind, fInt_i, List.getElem?_cons_zero, List.getElem?_cons_succ, List.set_cons_succ, List.set_cons_zero,
          hfx, mAs, fAdd_i, st1, fPow_18, fGe_i, decide_eq_true q3, st2, mNx]
      · refine ⟨some (.int cell), none, some (.int (m * 41381 + cell % 2000000033)), p + 1, c, (m * 41381 + cell % 2000000033 + (p + 1)) % 2147483549, ?_, by omega, hc, Int.emod_nonneg _ (by omega), Int.emod_lt_of_pos _ (by omega)⟩
        have st2 := (bSt (s := [some (.ref i), some (.int many), some (.int cell), none, some (.int (m * 41381 + cell % 2000000033))]) g1 rfl ((m * 41381 + cell % 2000000033 + (p + 1)) % 2147483549)).2.2
        rw [List.set_set] at st2
        simp only [mSq, mIfS, mAnd, fAnd, m2, mVar, mC, R.bind, R.toS, e0, e1, e2, fEq_i, decide_eq_true q, fLen_l, hlen, fLt_i, decide_eq_true q2, fIfS, mSet, mA, aCons, aNil, RL.bind, fInt_i, List.getElem?_cons_zero, List.getElem?_cons_succ, List.set_cons_succ, List.set_cons_zero,
          hfx, mAs, fAdd_i, st1, fPow_18, fGe_i, decide_eq_false q3, f3, f1, fMul_l (show -18446744073709551616 < m by omega) (show m < 18446744073709551616 by omega), fMod_ok (show (0 : Int) < 2147483549 by omega), fMod_ok (show (0 : Int) < 2000000033 by omega), st2, mNx]
    · refine ⟨none, none, none, p, c, m, ?_, hp, hc, hm0, hm1⟩
      have hlen : ((row.map T.int).length : Int) = (row.length : Int) := by simp
      rw [hself]
      simp only [mIfS, mAnd, fAnd, m2, mVar, mC, R.bind, R.toS, e0, e1, e2, fEq_i, decide_eq_true q, fLen_l, hlen, fLt_i, decide_eq_false q2, fIfS, mA, aCons, aNil, RL.bind, List.getElem?_cons_zero, List.getElem?_cons_succ, mNx]
  · refine ⟨none, none, none, p, c, m, ?_, hp, hc, hm0, hm1⟩
    rw [hself]
    simp only [mIfS, mAnd, fAnd, m2, mVar, mC, R.bind, R.toS, e2, fEq_i, decide_eq_false q, fIfS, List.getElem?_cons_zero, List.getElem?_cons_succ, mNx]
/-- what stays -/
structure Keeps (i : Nat) (h h' : MH) : Prop where
  len : h'.length = h.length
  get : ∀ j, j ≠ i → h'[j]? = h[j]?
theorem draw_ok {h : MH} {i : Nat} {many : Int} (B : Bag h i) (h1 : 1 ≤ many) (h2 : many ≤ 1000000) : ∃ (r : Int) (h' : MH), mDrawL [.ref i, .int many] h = .ok (.int r) h' ∧ 0 ≤ r ∧ r < many ∧ Bag h' i ∧ Keeps i h h' := by
  obtain ⟨row, p, c, m, e, hl, hp, hc, hm0, hm1⟩ := B.ex
  obtain ⟨s2, s3, s4, p', c', m', q1, hp', hc', hm0', hm1'⟩ := draw1_ok (many := many) e hp hc hm0 hm1
  have g1 : (h.set i (bagO row p' c' m'))[i]? = some (bagO row p' c' m') := bGet e
  obtain ⟨r, c2, m2, q2, r0, r1, hc2, hm2, hm3⟩ := draw2_ok (s2 := s2) (s3 := s3) (s4 := s4) g1 h1 h2 hc' hm0' hm1'
  rw [List.set_set] at q2
  refine ⟨r, h.set i (bagO row p' c2 m2), ?_, r0, r1, ⟨row, p', c2, m2, bGet e, hl, hp', hc2, hm2, hm3⟩, ⟨List.length_set, fun j hj => List.getElem?_set_ne (Ne.symm hj)⟩⟩
  show (match (match mDraw1 [some (.ref i), some (.int many), none, none, none] h with
    | .nx s1 h1 => mDraw2 s1 h1
    | r => r) with
    | .nx _ h1 => R.ok .non h1
    | .rt t h1 => .ok t h1
    | .ex x _ h1 => .ex x h1
    | _ => .stuck) = _
  rw [q1]
  dsimp only
  rw [q2]
end Mi
end part_Bg
section part_Bh
set_option maxRecDepth 100000
set_option maxHeartbeats 2000000
/-! Bh: walks of comprehensions and loops, the bag made, a draw from a list, alike. -/
namespace Mi
open PySem PySem.Spec PyProof.Rows L2
theorem lc_fm {mgt : MG} {mt me : ME} {s0 : SM} {h : MH} {p : T → Bool} {f : T → T} : ∀ (xs acc : List T), (∀ x ∈ xs, ∃ s1, mgt x s0 h = .ok s1 h ∧ mt s1 h = .ok (.bl (p x)) h ∧ (p x = true → me s1 h = .ok (f x) h)) → acc.length + xs.length ≤ big →
    lcFrom mgt mt me s0 xs acc h = .ok (.lst (acc ++ (xs.filter p).map f)) h
  | [], acc, _, _ => by simp [lcFrom]
  | x :: xs, acc, hx, hl => by
    obtain ⟨s1, e1, e2, e3⟩ := hx x List.mem_cons_self
    simp only [List.length_cons] at hl
    unfold lcFrom
    rw [e1]
    dsimp only
    rw [e2]
    cases q : p x with
    | true =>
      dsimp only
      rw [e3 q]
      dsimp only
      rw [if_pos (by omega), lc_fm xs (acc ++ [f x]) (fun y hy => hx y (List.mem_cons_of_mem _ hy)) (by rw [List.length_append]; simp; omega)]
      simp [List.filter_cons, q]
    | false =>
      dsimp only
      rw [lc_fm xs acc (fun y hy => hx y (List.mem_cons_of_mem _ hy)) (by omega)]
      simp [List.filter_cons, q]
theorem lc_map {mgt : MG} {mt me : ME} {s0 : SM} {h : MH} {f : T → T} (xs : List T) (hx : ∀ x ∈ xs, ∃ s1, mgt x s0 h = .ok s1 h ∧ mt s1 h = .ok (.bl true) h ∧ me s1 h = .ok (f x) h) (hl : xs.length ≤ big) :
    lcFrom mgt mt me s0 xs [] h = .ok (.lst (xs.map f)) h := by
  have := lc_fm (p := fun _ => true) xs [] (fun x hx' => let ⟨s1, a, b, c⟩ := hx x hx'; ⟨s1, a, b, fun _ => c⟩) (by simpa using hl)
  rw [this]
  have e : xs.filter (fun _ => true) = xs := List.filter_eq_self.mpr fun _ _ => rfl
  rw [e]
  rfl
theorem for_inv {mgt : MG} {mb : MS} {I : List T → SM → MH → Prop} : ∀ (xs pre : List T) (s : SM) (h : MH), I pre s h →
    (∀ pre x s h, I pre s h → x ∈ xs → ∃ s1 h1 s2 h2, mgt x s h = .ok s1 h1 ∧ (mb s1 h1 = .nx s2 h2 ∨ mb s1 h1 = .ct s2 h2) ∧ I (pre ++ [x]) s2 h2) →
    ∃ s' h', forFrom mgt mb xs s h = .nx s' h' ∧ I (pre ++ xs) s' h'
  | [], pre, s, h, hI, _ => ⟨s, h, rfl, by simpa using hI⟩
  | x :: xs, pre, s, h, hI, st => by
    obtain ⟨s1, h1, s2, h2, e1, e2, hI2⟩ := st pre x s h hI List.mem_cons_self
    obtain ⟨s', h', e3, hI3⟩ := for_inv xs (pre ++ [x]) s2 h2 hI2 fun pre y s h hI hy => st pre y s h hI (List.mem_cons_of_mem _ hy)
    refine ⟨s', h', ?_, by simpa using hI3⟩
    unfold forFrom
    rw [e1]
    dsimp only
    rcases e2 with e2 | e2 <;> (rw [e2]; dsimp only; exact e3)
theorem cut_to {xs : List T} {n : Nat} : cutT xs none (some (n : Int)) = xs.take n := by
  unfold cutT
  rw [HT.sIx_none, HT.sIx_nat, List.drop_zero, Nat.sub_zero]
  by_cases h : n ≤ xs.length
  · rw [Nat.min_eq_left h]
  · rw [Nat.min_eq_right (by omega), List.take_of_length_le (by omega), List.take_of_length_le (by omega)]
theorem bag_ok (ns : List Int) (h : MH) : ∃ o, mBagL [.frl (ns.map .int)] h = .ok (.ref h.length) (h ++ [o]) ∧ Bag (h ++ [o]) h.length := by
  have hcut : cutT (ns.map T.int) none (some (63 : Int)) = (ns.take 63).map T.int := by
    have := cut_to (xs := ns.map T.int) (n := 63)
    rw [List.map_take] <;> exact this
  have hl : ((ns.take 63).map T.int).length ≤ 63 := by simp; omega
  generalize (ns.take 63) = row at hcut hl
  let mb : MS := mSq (mSet 2 (m2 fMod (mA fInt (aCons (m2 fAdd (m2 fAdd (m2 fMul (mVar 2) (mC (.int 47093))) (m2 fMod (mA fInt (aCons (mVar 3) aNil)) (mC (.int 2147483389)))) (mC (.int 17))) aNil)) (mC (.int 2147483549)))) mNx
  have lp : ∀ (s : SM) (m : Int), s = [some (.frl (ns.map .int)), some (.lst (row.map .int)), some (.int (5608 + 31 * (row.length : Int))), none] → ∃ s' m', forFrom (gN 3) mb (row.map .int) s h = .nx s' h ∧ (∃ z, s' = [some (.frl (ns.map .int)), some (.lst (row.map .int)), some (.int m'), z]) ∧ 0 ≤ m' ∧ m' < 2147483549 := by
    intro s m hs
    have hl' : row.length ≤ 63 := by simpa using hl
    obtain ⟨s', h', e, ⟨z, m', e2, e3, b0, b1⟩⟩ := for_inv (mgt := gN 3) (mb := mb) (I := fun pre s h' => ∃ z m, h' = h ∧ s = [some (.frl (ns.map .int)), some (.lst (row.map .int)), some (.int m), z] ∧ 0 ≤ m ∧ m < 2147483549) (row.map .int) [] s h ⟨none, 5608 + 31 * (row.length : Int), rfl, hs, by omega, by omega⟩ (by
      rintro pre x s h1 ⟨z, m, rfl, rfl, b0, b1⟩ hx
      obtain ⟨c, _, rfl⟩ := List.mem_map.mp hx
      refine ⟨_, h1, _, h1, rfl, .inl ?_, some (.int c), (m * 47093 + c % 2147483389 + 17) % 2147483549, rfl, rfl, Int.emod_nonneg _ (by omega), Int.emod_lt_of_pos _ (by omega)⟩
      simp only [mb, mSq, mSet, m2, mA, aCons, aNil, RL.bind, R.bind, R.toS, mVar, mC, List.set_cons_succ, List.set_cons_zero, List.getElem?_cons_zero, List.getElem?_cons_succ, fMul_l (show -18446744073709551616 < m by omega) (show m < 18446744073709551616 by omega), fInt_i, fAdd_i,
        fMod_ok (show (0 : Int) < 2147483389 by omega), fMod_ok (show (0 : Int) < 2147483549 by omega), mNx])
    subst e2
    exact ⟨s', m', e, ⟨z, e3⟩, b0, b1⟩
  obtain ⟨s', m', e1, ⟨z, e2⟩, b0, b1⟩ := lp _ 0 rfl
  refine ⟨bagO row 0 0 m', ?_, ⟨row, 0, 0, m', by simp, by simpa using hl, by omega, by omega, b0, b1⟩⟩
  subst e2
  have ef : (mFor (mSrc (mVar 1)) (gN 3) mb) [some (.frl (ns.map .int)), some (.lst (row.map .int)), some (.int (5608 + 31 * (row.length : Int))), none] h = .nx [some (.frl (ns.map .int)), some (.lst (row.map .int)), some (.int m'), z] h := e1
  have e0 : mBagL [.frl (ns.map .int)] h = (match (mSq (mFor (mSrc (mVar 1)) (gN 3) mb) (mSq (mRet (mA fLstN (aCons (mVar 1) (aCons (mC (.int 0)) (aCons (mC (.int 0)) (aCons (mVar 2) aNil)))))) mNx)) [some (.frl (ns.map .int)), some (.lst (row.map .int)), some (.int (5608 + 31 * (row.length : Int))), none] h with
    | .nx _ h1 => R.ok .non h1
    | .rt t h1 => .ok t h1
    | .ex x _ h1 => .ex x h1
    | _ => .stuck) := by
    have e3 : fSl (.frl (ns.map .int)) .non (.int 63) h = .ok (.lst (row.map .int)) h := by rw [← hcut]; rfl
    have e4 : ((row.map T.int).length : Int) = row.length := by simp
    simp only [mBagL, mDef, mSq, mSet, mA, aCons, aNil, mSl, mVar, mC, m1, fPart, R.bind, R.toS, RL.bind, List.map_cons, List.map_nil, List.length_cons, List.length_nil, List.getElem?_cons_zero, List.getElem?_cons_succ, List.cons_append, List.nil_append, Nat.reduceAdd, Nat.reduceSub, List.replicate_succ, List.replicate_zero, e3, List.set_cons_succ, List.set_cons_zero, m2, fLen_l, e4, fList, seqOf, fMul_l (show (-18446744073709551616 : Int) < 31 by omega) (show (31 : Int) < 18446744073709551616 by omega), fAdd_i]
    rfl
  rw [e0]
  show (match (match (mFor (mSrc (mVar 1)) (gN 3) mb) [some (.frl (ns.map .int)), some (.lst (row.map .int)), some (.int (5608 + 31 * (row.length : Int))), none] h with
    | .nx s1 h1 => (mSq (mRet (mA fLstN (aCons (mVar 1) (aCons (mC (.int 0)) (aCons (mC (.int 0)) (aCons (mVar 2) aNil)))))) mNx) s1 h1
    | r => r) with
    | .nx _ h1 => R.ok .non h1
    | .rt t h1 => .ok t h1
    | .ex x _ h1 => .ex x h1
    | _ => .stuck) = _
  rw [ef]
  rfl
/-- a draw from a list or tuple -/
def mOfL : MF := mDef 2 ((mSq (mRetF (m2 fIx (mVar 1) (mA (fS 2 mDrawL) (aCons (mVar 0) (aCons (mA fLen (aCons (mVar 1) aNil)) aNil)))))
    mNx))
theorem fzT_closed {t : T} {h : MH} (c : closed t = true) : fzT t h = (t, h) := by
  cases t with
  | ref i => simp [closed] at c
  | _ => rfl
theorem atI_get {xs : List T} {k : Int} (h1 : 0 ≤ k) (h2 : k < xs.length) : atI xs k = some (xs[k.toNat]'(by omega)) := by
  unfold atI ixN
  rw [if_pos h1, if_pos h2]
  exact List.getElem?_eq_getElem (by omega)
theorem of_lst {h : MH} {i : Nat} {xs : List T} (B : Bag h i) (h1 : xs ≠ []) (h2 : xs.length ≤ 1000000) (hc : closedL xs = true) :
    ∃ (x : T) (h' : MH), mOfL [.ref i, .lst xs] h = .ok x h' ∧ x ∈ xs ∧ Bag h' i ∧ Keeps i h h' := by
  have hp : 0 < xs.length := List.length_pos_iff.mpr h1
  obtain ⟨r, h', e, r0, r1, B', k⟩ := draw_ok (many := (xs.length : Int)) B (by omega) (by omega)
  refine ⟨xs[r.toNat]'(by omega), h', ?_, List.getElem_mem _, B', k⟩
  have e2 : fIx (.lst xs) (.int r) h' = .ok (xs[r.toNat]'(by omega)) h' := by
    show (match atI xs r with
      | some z => R.ok z h'
      | none => .stuck) = _
    rw [atI_get r0 r1]
  have e3 := fzT_closed (h := h') (closedL_mem hc _ (List.getElem_mem (show r.toNat < xs.length by omega)))
  have e4 : (fS 2 mDrawL) [.ref i, .int xs.length] h = .ok (.int r) h' := e
  simp only [mOfL, mDef, mSq, mA, aCons, aNil, m2, mVar, R.bind, R.toS, RL.bind, List.map_cons, List.map_nil, List.length_cons, List.length_nil, List.getElem?_cons_zero, List.getElem?_cons_succ, List.cons_append, List.nil_append, Nat.reduceAdd, Nat.reduceSub, List.replicate_zero, fLen_l, e4, mRetF, e2, e3]
theorem of_str {h : MH} {i : Nat} {z : Str} (B : Bag h i) (h1 : 0 < z.cps.toList.length) (h2 : z.cps.toList.length ≤ 100000) :
    ∃ (c : Nat) (h' : MH), mOfL [.ref i, .str z] h = .ok (.str ⟨#[c]⟩) h' ∧ c ∈ z.cps.toList ∧ Bag h' i ∧ Keeps i h h' := by
  have hz : z.length = z.cps.toList.length := by simp [Str.length]
  obtain ⟨r, h', e, r0, r1, B', k⟩ := draw_ok (many := (z.length : Int)) B (by omega) (by omega)
  have hr : r.toNat < z.cps.toList.length := by omega
  refine ⟨z.cps.toList[r.toNat], h', ?_, List.getElem_mem _, B', k⟩
  have q : atI z.cps.toList r = some z.cps.toList[r.toNat] := by
    unfold atI ixN
    rw [if_pos r0, if_pos (by omega)]
    exact List.getElem?_eq_getElem hr
  have hb : z.length ≤ big := by unfold big; omega
  have e2 : fIx (.str z) (.int r) h' = .ok (.str ⟨#[z.cps.toList[r.toNat]]⟩) h' := by
    show (if z.length ≤ big then (match atI z.cps.toList r with
      | some c => R.ok (T.str ⟨#[c]⟩) h'
      | none => .stuck) else .stuck) = _
    rw [if_pos hb, q]
  have e4 : (fS 2 mDrawL) [.ref i, .int z.length] h = .ok (.int r) h' := e
  have e5 : fLen [.str z] h = .ok (.int z.length) h := by
    show (if z.length ≤ big then R.ok (.int z.length) h else .stuck) = _
    rw [if_pos hb]
  have e6 : ∀ c : Nat, fzT (.str ⟨#[c]⟩) h' = (.str ⟨#[c]⟩, h') := fun c => rfl
  simp only [mOfL, mDef, mSq, mA, aCons, aNil, m2, mVar, R.bind, R.toS, RL.bind, List.map_cons, List.map_nil, List.length_cons, List.length_nil, List.getElem?_cons_zero, List.getElem?_cons_succ, List.cons_append, List.nil_append, Nat.reduceAdd, Nat.reduceSub, List.replicate_zero, e5, e4, mRetF, e2, e6]
/-! ### alike -/
def mAlikeL : Nat → MF
  | 0 => fun _ _ => .stuck
  | n + 1 => mDef 5 ((mSq (mIfS (mOr (m2 (fIs false) (mVar 1) (mC .non)) (m2 (fIs false) (mVar 0) (mC .non))) (mSq (mRetF (mAndV (m2 (fIs false) (mVar 1) (mC .non)) (m2 (fIs false) (mVar 0) (mC .non))))
    mNx) mNx)
    (mSq (mFor (mSrc (mA fTup (aCons (mC (.int 1)) (aCons (mC (.int 2)) (aCons (mC (.int 3)) aNil))))) (gN 2) (mSq (mIfS (mAnd (m2 fEq (mVar 2) (mC (.int 1))) (mOr (mTru (m1 (fIsi .bl) (mVar 1))) (mTru (m1 (fIsi .bl) (mVar 0))))) (mSq (mRetF (mAndV (m1 (fIsi .bl) (mVar 1)) (mAndV (m1 (fIsi .bl) (mVar 0)) (m2 fEq (mVar 0) (mVar 1)))))
    mNx) mNx)
    (mSq (mIfS (mAnd (m2 fEq (mVar 2) (mC (.int 2))) (mOr (mTru (m1 (fIsi .str) (mVar 1))) (mTru (m1 (fIsi .str) (mVar 0))))) (mSq (mRetF (mAndV (m1 (fIsi .str) (mVar 1)) (mAndV (m1 (fIsi .str) (mVar 0)) (m2 fEq (mVar 0) (mVar 1)))))
    mNx) mNx)
    (mSq (mIfS (mAnd (m2 fEq (mVar 2) (mC (.int 3))) (mOr (mTru (m1 (fIsi .int) (mVar 1))) (mTru (m1 (fIsi .int) (mVar 0))))) (mSq (mRetF (mAndV (m1 (fIsi .int) (mVar 1)) (mAndV (m1 (fIsi .int) (mVar 0)) (m2 fEq (mVar 0) (mVar 1)))))
    mNx) mNx)
    mNx))))
    (mSq (mIfS (mOr (m2 fNe (m1 (fIsi .tup) (mVar 1)) (m1 (fIsi .tup) (mVar 0))) (m2 fNe (m1 (fIsi .lst) (mVar 1)) (m1 (fIsi .lst) (mVar 0)))) (mSq (mRetF (mC (.bl false)))
    mNx) mNx)
    (mSq (mRetF (mAndV (m2 fEq (mA fLen (aCons (mVar 0) aNil)) (mA fLen (aCons (mVar 1) aNil))) (mA fAll (aCons (mLc (mIA iZp (aCons (mVar 0) (aCons (mVar 1) aNil))) (gT 2 (gsCons (gN 3) (gsCons (gN 4) gsNil))) (mC (.bl true)) (mA (fP 2 (mAlikeL n)) (aCons (mVar 3) (aCons (mVar 4) aNil))) [3, 4]) aNil))))
    mNx)))))
theorem alike_non {n : Nat} {h : MH} : mAlikeL (n + 1) [.non, .non] h = .ok (.bl true) h := rfl
theorem alike_bl {n : Nat} {h : MH} {b : Bool} : mAlikeL (n + 1) [.bl b, .bl b] h = .ok (.bl true) h := by cases b <;> rfl
theorem alike_str0 {n : Nat} {h : MH} {b c : Str} : mAlikeL (n + 1) [.str b, .str c] h = .ok (.bl (decide (b = c))) h := rfl
theorem alike_int0 {n : Nat} {h : MH} {b c : Int} : mAlikeL (n + 1) [.int b, .int c] h = .ok (.bl (b == c)) h := rfl
def mAlZip (n : Nat) : ME := mLc (mIA iZp (aCons (mVar 0) (aCons (mVar 1) aNil))) (gT 2 (gsCons (gN 3) (gsCons (gN 4) gsNil))) (mC (.bl true)) (mA (fP 2 (mAlikeL n)) (aCons (mVar 3) (aCons (mVar 4) aNil))) [3, 4]
def mAlEnd (n : Nat) : ME := mAndV (m2 fEq (mA fLen (aCons (mVar 0) aNil)) (mA fLen (aCons (mVar 1) aNil))) (mA fAll (aCons (mAlZip n) aNil))
theorem alZip_ok {n : Nat} {h : MH} {t u : T} {xs ys : List T} {s2 : Option T} (ht : seqOf t h = some xs) (hu : seqOf u h = some ys) (ht' : srcOf t = some xs) (hu' : srcOf u = some ys) (hl : xs.length = ys.length) (hb : xs.length ≤ big)
    (hel : ∀ p ∈ xs.zip ys, closed p.1 = true ∧ closed p.2 = true ∧ ∃ h', mAlikeL n [p.1, p.2] [] = .ok (.bl true) h') :
    mAlZip n [some t, some u, s2, none, none] h = .ok (.lst ((xs.zip ys).map fun _ => .bl true)) h := by
  have e1 : (mIA iZp (aCons (mVar 0) (aCons (mVar 1) aNil))) [some t, some u, s2, none, none] h = .ok (zipT xs ys) h := by
    simp only [mIA, aCons, aNil, mVar, RL.bindL, List.getElem?_cons_zero, List.getElem?_cons_succ, iZp, ht', hu']
  have e2 : lcFrom (gT 2 (gsCons (gN 3) (gsCons (gN 4) gsNil))) (mC (.bl true)) (mA (fP 2 (mAlikeL n)) (aCons (mVar 3) (aCons (mVar 4) aNil))) [some t, some u, s2, none, none] (zipT xs ys) [] h = .ok (.lst ((zipT xs ys).map fun _ => .bl true)) h := by
    refine lc_map (f := fun _ => .bl true) _ (fun x hx => ?_) (by unfold zipT; rw [List.length_map, List.length_zip]; omega)
    obtain ⟨q, hq, rfl⟩ := List.mem_map.mp hx
    obtain ⟨c1, c2, h', e⟩ := hel q hq
    refine ⟨[some t, some u, s2, some q.1, some q.2], rfl, rfl, ?_⟩
    show (if [q.1, q.2].length = 2 ∧ closedL [q.1, q.2] = true then pureR (mAlikeL n [q.1, q.2] []) h else .stuck) = _
    rw [if_pos ⟨rfl, by simp [closedL, c1, c2]⟩, e]
    rfl
  show ((mIA iZp (aCons (mVar 0) (aCons (mVar 1) aNil))) [some t, some u, s2, none, none] h).bind _ = _
  rw [e1]
  show lcFrom _ _ _ (wipeM [some t, some u, s2, none, none] [3, 4]) (zipT xs ys) [] h = _
  have e3 : wipeM [some t, some u, s2, none, none] [3, 4] = [some t, some u, s2, none, none] := rfl
  rw [e3, e2]
  unfold zipT
  rw [List.map_map]
  rfl
theorem bls_true (xs : List (T × T)) : blsOf (xs.map fun _ => T.bl true) = some (xs.map fun _ => true) := by
  induction xs with
  | nil => rfl
  | cons x xs ih => simp only [List.map_cons, blsOf, ih, Option.map_some]
theorem all_true (xs : List (T × T)) : ((xs.map fun _ => true).all id) = true := by
  induction xs with
  | nil => rfl
  | cons x xs ih => simpa using ih
theorem alEnd_ok {n : Nat} {h : MH} {t u : T} {xs ys : List T} {s2 : Option T} (el : fLen [t] h = .ok (.int xs.length) h) (eu : fLen [u] h = .ok (.int ys.length) h) (ht : seqOf t h = some xs) (hu : seqOf u h = some ys) (ht' : srcOf t = some xs) (hu' : srcOf u = some ys) (hl : xs.length = ys.length) (hb : xs.length ≤ big)
    (hel : ∀ p ∈ xs.zip ys, closed p.1 = true ∧ closed p.2 = true ∧ ∃ h', mAlikeL n [p.1, p.2] [] = .ok (.bl true) h') :
    mAlEnd n [some t, some u, s2, none, none] h = .ok (.bl true) h := by
  have z := alZip_ok (s2 := s2) ht hu ht' hu' hl hb hel
  have e4 : fAll [.lst ((xs.zip ys).map fun _ => .bl true)] h = .ok (.bl true) h := by
    simp only [fAll, fBls, lstOf, bls_true, all_true]
  simp only [mAlEnd, mAndV, m2, mA, aCons, aNil, RL.bind, R.bind, mVar, List.getElem?_cons_zero, List.getElem?_cons_succ, el, eu, fEq_i, hl, decide_true, fTru, fAndV, z, e4]
theorem alike_tup {n : Nat} {h : MH} {xs ys : List T} (hl : xs.length = ys.length) (hb : xs.length ≤ big)
    (hel : ∀ p ∈ xs.zip ys, closed p.1 = true ∧ closed p.2 = true ∧ ∃ h', mAlikeL n [p.1, p.2] [] = .ok (.bl true) h') : mAlikeL (n + 1) [.tup xs, .tup ys] h = .ok (.bl true) h := by
  have e : mAlikeL (n + 1) [.tup xs, .tup ys] h = (match (mSq (mRetF (mAlEnd n)) mNx) [some (.tup xs), some (.tup ys), some (.int 3), none, none] h with
    | .nx _ h1 => R.ok .non h1
    | .rt t h1 => .ok t h1
    | .ex x _ h1 => .ex x h1
    | _ => .stuck) := rfl
  rw [e]
  have z := alEnd_ok (n := n) (h := h) (t := .tup xs) (u := .tup ys) (s2 := some (.int 3)) rfl rfl rfl rfl rfl rfl hl hb hel
  simp only [mSq, mRetF, R.toS, z, fzT]
theorem alike_lst {n : Nat} {h : MH} {xs ys : List T} (hl : xs.length = ys.length) (hb : xs.length ≤ big)
    (hel : ∀ p ∈ xs.zip ys, closed p.1 = true ∧ closed p.2 = true ∧ ∃ h', mAlikeL n [p.1, p.2] [] = .ok (.bl true) h') : mAlikeL (n + 1) [.lst xs, .lst ys] h = .ok (.bl true) h := by
  have e : mAlikeL (n + 1) [.lst xs, .lst ys] h = (match (mSq (mRetF (mAlEnd n)) mNx) [some (.lst xs), some (.lst ys), some (.int 3), none, none] h with
    | .nx _ h1 => R.ok .non h1
    | .rt t h1 => .ok t h1
    | .ex x _ h1 => .ex x h1
    | _ => .stuck) := rfl
  rw [e]
  have z := alEnd_ok (n := n) (h := h) (t := .lst xs) (u := .lst ys) (s2 := some (.int 3)) rfl rfl rfl rfl rfl rfl hl hb hel
  simp only [mSq, mRetF, R.toS, z, fzT]
/-- a plain tree of depth below n -/
inductive Pl : Nat → T → Prop where
  | non {n : Nat} : Pl (n + 1) .non
  | bl {n : Nat} (b : Bool) : Pl (n + 1) (.bl b)
  | int {n : Nat} (i : Int) : Pl (n + 1) (.int i)
  | str {n : Nat} (s : Str) : Pl (n + 1) (.str s)
  | tup {n : Nat} {xs : List T} (h : ∀ x ∈ xs, Pl n x) (hb : xs.length ≤ big) : Pl (n + 1) (.tup xs)
  | lst {n : Nat} {xs : List T} (h : ∀ x ∈ xs, Pl n x) (hb : xs.length ≤ big) : Pl (n + 1) (.lst xs)
theorem closedL_of : ∀ {xs : List T}, (∀ x ∈ xs, closed x = true) → closedL xs = true
  | [], _ => rfl
  | x :: xs, h => by
    simp only [closedL, Bool.and_eq_true]
    exact ⟨h x List.mem_cons_self, closedL_of fun y hy => h y (List.mem_cons_of_mem _ hy)⟩
theorem Pl.closed {n : Nat} {t : T} (p : Pl n t) : Mi.closed t = true := by
  induction p with
  | non => rfl
  | bl b => rfl
  | int i => rfl
  | str s => rfl
  | tup h hb ih => simp only [Mi.closed]; exact closedL_of ih
  | lst h hb ih => simp only [Mi.closed]; exact closedL_of ih
theorem zip_self {xs : List T} {p : T × T} (h : p ∈ xs.zip xs) : p.1 = p.2 ∧ p.1 ∈ xs := by
  induction xs with
  | nil => cases h
  | cons x xs ih =>
    rw [List.zip_cons_cons] at h
    rcases List.mem_cons.mp h with e | e
    · subst e; exact ⟨rfl, List.mem_cons_self⟩
    · exact ⟨(ih e).1, List.mem_cons_of_mem _ (ih e).2⟩
theorem alike_refl {n : Nat} {t : T} (p : Pl n t) (h : MH) : mAlikeL n [t, t] h = .ok (.bl true) h := by
  induction p generalizing h with
  | non => exact alike_non
  | bl b => exact alike_bl
  | int i => rw [alike_int0, beq_self_eq_true]
  | str s => rw [alike_str0, decide_eq_true rfl]
  | tup hp hb ih =>
    refine alike_tup rfl hb fun q hq => ?_
    obtain ⟨e, m⟩ := zip_self hq
    rw [← e]
    exact ⟨(hp _ m).closed, (hp _ m).closed, [], ih _ m []⟩
  | lst hp hb ih =>
    refine alike_lst rfl hb fun q hq => ?_
    obtain ⟨e, m⟩ := zip_self hq
    rw [← e]
    exact ⟨(hp _ m).closed, (hp _ m).closed, [], ih _ m []⟩
end Mi
end part_Bh
section part_Bs
set_option maxRecDepth 100000
set_option maxHeartbeats 2000000
/-! Bs: texts as lists of signs. -/
namespace Mi
open PySem PySem.Spec PyProof.Rows L2
def sS (l : List Nat) : Str := ⟨l.toArray⟩
theorem sS_len (l : List Nat) : (sS l).length = l.length := by simp [sS, Str.length]
theorem sS_list (l : List Nat) : (sS l).cps.toList = l := by simp [sS]
theorem sS_inj {l k : List Nat} : sS l = sS k ↔ l = k := by
  constructor
  · intro h
    have := congrArg (fun z : Str => z.cps.toList) h
    simpa [sS] using this
  · intro h; rw [h]
theorem sS_app (l k : List Nat) : sS l ++ sS k = sS (l ++ k) := by
  show (⟨l.toArray ++ k.toArray⟩ : Str) = _
  simp [sS]
theorem sS_of (z : Str) : sS z.cps.toList = z := by cases z; simp [sS]
theorem fAdd_s {l k : List Nat} {h : MH} (hb : l.length + k.length ≤ big) : fAdd (.str (sS l)) (.str (sS k)) h = .ok (.str (sS (l ++ k))) h := by
  show (if (sS l).length + (sS k).length ≤ big then R.ok (T.str (sS l ++ sS k)) h else .stuck) = _
  rw [sS_len, sS_len, if_pos hb, sS_app]
theorem fLen_s {l : List Nat} {h : MH} (hb : l.length ≤ big) : fLen [.str (sS l)] h = .ok (.int l.length) h := by
  show (if (sS l).length ≤ big then R.ok (.int (sS l).length) h else .stuck) = _
  rw [sS_len, if_pos hb]
theorem fIx_s {l : List Nat} {k : Int} {c : Nat} {h : MH} (hb : l.length ≤ big) (e : atI l k = some c) : fIx (.str (sS l)) (.int k) h = .ok (.str (sS [c])) h := by
  show (if (sS l).length ≤ big then (match atI (sS l).cps.toList k with
      | some c => R.ok (T.str ⟨#[c]⟩) h
      | none => .stuck) else .stuck) = _
  rw [sS_len, if_pos hb, sS_list, e]
  rfl
theorem atI_nat {α : Type} {l : List α} {k : Nat} (h : k < l.length) : atI l (k : Int) = some l[k] := by
  unfold atI ixN
  rw [if_pos (by omega), if_pos (by omega)]
  show l[((k : Int)).toNat]? = _
  rw [Int.toNat_natCast]
  exact List.getElem?_eq_getElem h
theorem atI_last {α : Type} {l : List α} {c : α} : atI (l ++ [c]) (-1) = some c := by
  unfold atI ixN
  rw [if_neg (by omega), if_pos (by simp; omega)]
  show (l ++ [c])[((-1 : Int) + ((l ++ [c]).length : Int)).toNat]? = _
  have e : ((-1 : Int) + ((l ++ [c]).length : Int)).toNat = l.length := by
    rw [List.length_append, List.length_singleton]; omega
  rw [e]
  simp
theorem cutS_to {l : List Nat} {k : Nat} : cutS (sS l) none (some (k : Int)) = sS (l.take k) := by
  unfold cutS
  rw [sS_list, sS_len, HT.sIx_none, HT.sIx_nat, List.drop_zero, Nat.sub_zero]
  show sS _ = _
  rw [sS_inj]
  by_cases h : k ≤ l.length
  · rw [Nat.min_eq_left h]
  · rw [Nat.min_eq_right (by omega), List.take_of_length_le (by omega), List.take_of_length_le (by omega)]
theorem sIx_neg1 (n d : Nat) : HT.sIx n d (some (-1)) = n - 1 := by
  show (if (-1 : Int) < 0 then ((-1 : Int) + (n : Int)).toNat else min (-1 : Int).toNat n) = n - 1
  rw [if_pos (by omega)]; omega
theorem cutS_butlast {l : List Nat} : cutS (sS l) none (some (-1)) = sS l.dropLast := by
  unfold cutS
  rw [sS_list, sS_len, HT.sIx_none, sIx_neg1, List.drop_zero, Nat.sub_zero]
  show sS _ = _
  rw [sS_inj, List.dropLast_eq_take]
theorem cutS_mid {l : List Nat} {k : Nat} (hk : k ≤ l.length) : cutS (sS l) (some (k : Int)) (some (-1)) = sS (l.drop k).dropLast := by
  unfold cutS
  rw [sS_list, sS_len, HT.sIx_nat, sIx_neg1, Nat.min_eq_left hk]
  show sS _ = _
  rw [sS_inj, List.dropLast_eq_take, List.length_drop]
  congr 1
  omega
theorem fold_rep (a : Array Nat) : ∀ (n : Nat) (acc : Array Nat), ((List.replicate n a).foldl (· ++ ·) acc).toList = acc.toList ++ (List.replicate n a.toList).flatten
  | 0, acc => by simp
  | n + 1, acc => by
    rw [List.replicate_succ, List.foldl_cons, fold_rep a n, List.replicate_succ]
    simp
theorem flat_one (c : Nat) : ∀ n : Nat, (List.replicate n [c]).flatten = List.replicate n c
  | 0 => rfl
  | n + 1 => by rw [List.replicate_succ, List.flatten_cons, flat_one c n, List.replicate_succ]; rfl
theorem mul_one (c n : Nat) : Txt.mul (sS [c]) (n : Int) = sS (List.replicate n c) := by
  unfold Txt.mul
  by_cases h : (n : Int) < 1
  · have : n = 0 := by omega
    subst this; rfl
  · rw [if_neg h]
    by_cases h2 : n = 1
    · subst h2; rfl
    · have e : ((((n : Int) == 1) || ((sS [c]).length == 0)) = true) = False := by
        rw [sS_len]
        simp
        omega
      rw [if_neg (by rw [e]; exact id)]
      have := fold_rep (sS [c]).cps n #[]
      rw [show (sS [c]).cps.toList = [c] from rfl, flat_one] at this
      have e2 : ((List.replicate ((n : Int)).toNat (sS [c]).cps).foldl (· ++ ·) #[]) = (List.replicate n c).toArray := by
        rw [Int.toNat_natCast]
        apply Array.toList_inj.mp
        rw [this]
        simp
      rw [e2]; rfl
theorem fMul_s {c : Nat} {n : Nat} {h : MH} (hb : n ≤ 1000) : fMul (.str (sS [c])) (.int (n : Int)) h = .ok (.str (sS (List.replicate n c))) h := by
  have e : strMulOk (sS [c]) (n : Int) = true := by
    unfold strMulOk
    simp only [Bool.and_eq_true, decide_eq_true_eq, sS_len, List.length_singleton]
    omega
  show (if strMulOk (sS [c]) (n : Int) then R.ok (T.str (Txt.mul (sS [c]) (n : Int))) h else .stuck) = _
  rw [e, mul_one]; rfl
theorem take_rep (x : Nat) : ∀ (k : Nat) (r : List Nat), (∀ y, r.head? = some y → y ≠ x) → ((List.replicate k x ++ r).takeWhile fun y => decide (y = x)).length = k
  | 0, r, h => by
    cases r with
    | nil => rfl
    | cons y r =>
      have := h y rfl
      simp [List.takeWhile_cons, this]
  | k + 1, r, h => by
    rw [List.replicate_succ, List.cons_append, List.takeWhile_cons, if_pos (by simp), List.length_cons, take_rep x k r h]
theorem rstrip_ok {l : List Nat} {k c : Nat} (h : ∀ y, l.getLast? = some y → y ≠ c) : Txt.rstripChars (sS (l ++ List.replicate k c)) (sS [c]) = sS l := by
  unfold Txt.rstripChars
  rw [stripBy_eq]
  have e1 : PySem.stripLo (sS [c]).cps.contains false (sS (l ++ List.replicate k c)) = 0 := rfl
  have hg : ∀ y, (sS [c]).cps.contains y = decide (y = c) := fun y => by simp [sS]
  have e2 : PySem.stripHi (sS [c]).cps.contains true (sS (l ++ List.replicate k c)) 0 = l.length := by
    show (sS (l ++ List.replicate k c)).length - (((sS (l ++ List.replicate k c)).cps.toList.drop 0).reverse.takeWhile (sS [c]).cps.contains).length = _
    rw [sS_len, sS_list, List.drop_zero, List.reverse_append, List.reverse_replicate, funext hg, take_rep c k l.reverse (fun y hy => h y (by rw [List.head?_reverse] at hy; exact hy)), List.length_append, List.length_replicate]
    omega
  rw [e1, e2]
  show (⟨(l ++ List.replicate k c).toArray.extract 0 l.length⟩ : Str) = _
  unfold sS
  congr 1
  simp
end Mi
end part_Bs
section part_Bt
set_option maxRecDepth 100000
set_option maxHeartbeats 2000000
/-! Bt: the mirrors' equations in one bundle, for simp. -/
namespace Mi
open PySem PySem.Spec PyProof.Rows L2
theorem mi :
    (∀ (N : Nat) (mb : MS) (ts : List T) (h : MH), mDef N mb ts h = (match mb (ts.map some ++ List.replicate (N - ts.length) none) h with
      | .nx _ h1 => R.ok .non h1
      | .rt t h1 => .ok t h1
      | .ex x _ h1 => .ex x h1
      | _ => .stuck)) ∧
    (∀ (m m' : MS) (s : SM) (h : MH), mSq m m' s h = (match m s h with
      | .nx s1 h1 => m' s1 h1
      | r => r)) ∧
    (∀ (s : SM) (h : MH), mNx s h = .nx s h) ∧ (∀ (s : SM) (h : MH), mPass s h = .nx s h) ∧ (∀ (s : SM) (h : MH), mBk s h = .bk s h) ∧ (∀ (s : SM) (h : MH), mCt s h = .ct s h) ∧
    (∀ (me : ME) (s : SM) (h : MH), mEx me s h = (me s h).toS s fun _ h1 => .nx s h1) ∧
    (∀ (me : ME) (s : SM) (h : MH), mRet me s h = (me s h).toS s fun t h1 => .rt t h1) ∧
    (∀ (me : ME) (s : SM) (h : MH), mRetF me s h = (me s h).toS s fun t h1 => .rt (fzT t h1).1 (fzT t h1).2) ∧
    (∀ (s : SM) (h : MH), mRetN s h = .rt .non h) ∧
    (∀ (mc : ME) (m m' : MS) (s : SM) (h : MH), mIfS mc m m' s h = (mc s h).toS s (fIfS m m' s)) ∧
    (∀ (m m' : MS) (s : SM) (h : MH), fIfS m m' s (.bl true) h = m s h) ∧ (∀ (m m' : MS) (s : SM) (h : MH), fIfS m m' s (.bl false) h = m' s h) ∧
    (∀ (i : Nat) (me : ME) (s : SM) (h : MH), mSet i me s h = (me s h).toS s fun t h1 => .nx (s.set i (some t)) h1) ∧
    (∀ (t : T) (h : MH) (s : SM) (f : T → MH → SR), (R.ok t h).toS s f = f t h) ∧ (∀ (x : Exc) (h : MH) (s : SM) (f : T → MH → SR), (R.ex x h).toS s f = .ex x s h) ∧
    (∀ (t : T) (h : MH) (f : T → MH → R), (R.ok t h).bind f = f t h) ∧ (∀ (x : Exc) (h : MH) (f : T → MH → R), (R.ex x h).bind f = .ex x h) ∧
    (∀ (ts : List T) (h : MH) (f : List T → MH → R), (RL.ok ts h).bind f = f ts h) ∧
    (∀ (i : Nat) (s : SM) (h : MH), mVar i s h = (match s[i]? with
      | some (some t) => R.ok t h
      | _ => .stuck)) ∧ (∀ (t : T) (s : SM) (h : MH), mC t s h = .ok t h) ∧
    (∀ (f : T → T → MH → R) (ma mb : ME) (s : SM) (h : MH), m2 f ma mb s h = (ma s h).bind fun t h1 => (mb s h1).bind fun u h2 => f t u h2) ∧
    (∀ (f : T → MH → R) (ma : ME) (s : SM) (h : MH), m1 f ma s h = (ma s h).bind f) ∧
    (∀ (s : SM) (h : MH), aNil s h = .ok [] h) ∧ (∀ (ma : ME) (mr : MA) (s : SM) (h : MH), aCons ma mr s h = (match ma s h with
      | .ok t h1 => match mr s h1 with
        | .ok ts h2 => RL.ok (t :: ts) h2
        | .ex x h2 => .ex x h2
        | .stuck => .stuck
      | .ex x h1 => .ex x h1
      | .stuck => .stuck)) ∧
    (∀ (f : List T → MH → R) (mr : MA) (s : SM) (h : MH), mA f mr s h = (mr s h).bind f) ∧
    (∀ (ma mb : ME) (s : SM) (h : MH), mAnd ma mb s h = (ma s h).bind (fAnd mb s)) ∧ (∀ (mb : ME) (s : SM) (h : MH), fAnd mb s (.bl true) h = mb s h) ∧ (∀ (mb : ME) (s : SM) (h : MH), fAnd mb s (.bl false) h = .ok (.bl false) h) ∧
    (∀ (ma mb : ME) (s : SM) (h : MH), mOr ma mb s h = (ma s h).bind (fOr mb s)) ∧ (∀ (mb : ME) (s : SM) (h : MH), fOr mb s (.bl true) h = .ok (.bl true) h) ∧ (∀ (mb : ME) (s : SM) (h : MH), fOr mb s (.bl false) h = mb s h) ∧
    (∀ (ma : ME) (s : SM) (h : MH), mNot ma s h = (ma s h).bind fNot) ∧ (∀ (b : Bool) (h : MH), fNot (.bl b) h = .ok (.bl (!b)) h) ∧
    (∀ (mc ma mb : ME) (s : SM) (h : MH), mIf mc ma mb s h = (mc s h).bind (fIf ma mb s)) ∧ (∀ (ma mb : ME) (s : SM) (h : MH), fIf ma mb s (.bl true) h = ma s h) ∧ (∀ (ma mb : ME) (s : SM) (h : MH), fIf ma mb s (.bl false) h = mb s h) ∧
    (∀ (ma mb : ME) (s : SM) (h : MH), mOrV ma mb s h = (ma s h).bind (fOrV mb s)) ∧ (∀ (ma mb : ME) (s : SM) (h : MH), mAndV ma mb s h = (ma s h).bind (fAndV mb s)) ∧ (∀ (ma : ME) (s : SM) (h : MH), mNotV ma s h = (ma s h).bind fNotV) ∧
    (∀ (mb : ME) (s : SM) (h : MH), fAndV mb s (.bl true) h = mb s h) ∧ (∀ (mb : ME) (s : SM) (h : MH), fAndV mb s (.bl false) h = .ok (.bl false) h) ∧
    (∀ (mb : ME) (s : SM) (h : MH), fOrV mb s (.bl true) h = .ok (.bl true) h) ∧ (∀ (mb : ME) (s : SM) (h : MH), fOrV mb s (.bl false) h = mb s h) ∧ (∀ (b : Bool) (h : MH), fNotV (.bl b) h = .ok (.bl (!b)) h) ∧
    (∀ (ma : ME) (s : SM) (h : MH), mTru ma s h = (ma s h).bind fTru) ∧ (∀ (b : Bool) (h : MH), fTru (.bl b) h = .ok (.bl b) h) ∧
    (∀ (mi : MI) (mgt : MG) (mb : MS) (s : SM) (h : MH), mFor mi mgt mb s h = (match mi s h with
      | .ok xs h1 => forFrom mgt mb xs s h1
      | .ex x h1 => .ex x s h1
      | .stuck => .stuck)) ∧
    (∀ (me : ME) (mgt : MG) (s : SM) (h : MH), mAs me mgt s h = (me s h).toS s fun t h1 => match mgt t s h1 with
      | .ok s1 h2 => .nx s1 h2
      | .stuck => .stuck) ∧
    (∀ (i : Nat) (t : T) (s : SM) (h : MH), gN i t s h = .ok (s.set i (some t)) h) ∧
    (∀ (f : List T → MH → RL) (mr : MA) (s : SM) (h : MH), mIA f mr s h = (mr s h).bindL f) ∧ (∀ (ts : List T) (h : MH) (f : List T → MH → RL), (RL.ok ts h).bindL f = f ts h) ∧
    (∀ (ma : ME) (s : SM) (h : MH), mSrc ma s h = (ma s h).bindL iS) ∧ (∀ (t : T) (h : MH) (f : T → MH → RL), (R.ok t h).bindL f = f t h) ∧
    (∀ (mt ml mu : ME) (s : SM) (h : MH), mSl mt ml mu s h = (mt s h).bind fun t h1 => (ml s h1).bind fun l h2 => (mu s h2).bind fun u h3 => fSl t l u h3) ∧
    (∀ (i : Int) (h : MH), fPart (.int i) h = .ok (.int i) h) ∧ (∀ (i : Int) (h : MH), fNeg (.int i) h = .ok (.int (-i)) h) ∧
    (∀ (T' : String) (f : T → List T → MH → R) (mo : ME) (mr : MA) (s : SM) (h : MH), mMe T' f mo mr s h = (mo s h).bind fun t h1 => if tyOK T' t h1 then (mr s h1).bind fun ts h2 => f t ts h2 else .stuck) ∧
    (∀ (n nk : Nat) (is : List Nat) (fm : List T → MH → R) (mr mk : MA) (s : SM) (h : MH), mKw n nk is fm mr mk s h = (mr s h).bind fun ts h1 => (mk s h1).bind fun us h2 => if ts.length = n ∧ us.length = nk then fm (pick is (ts ++ us)) h2 else .stuck) ∧
    (∀ (c : Ty5) (t : T) (h : MH), fIsi c t h = (match tyOfT t h with
      | some a => R.ok (.bl (isi5 a c)) h
      | none => .stuck)) ∧
    (∀ (i j : Nat) (mr : MA) (s : SM) (h : MH), mPar i j mr s h = (match mr s h with
      | .ok [t, u] h1 => SR.nx ((s.set i (some t)).set j (some u)) h1
      | .ok _ _ => .stuck
      | .ex x h1 => .ex x s h1
      | .stuck => .stuck)) := by
  repeat' apply And.intro
  all_goals (intros; rfl)
theorem mz : (∀ h : MH, fzT .non h = (.non, h)) ∧ (∀ (b : Bool) (h : MH), fzT (.bl b) h = (.bl b, h)) ∧ (∀ (b : Int) (h : MH), fzT (.int b) h = (.int b, h)) ∧ (∀ (b : Str) (h : MH), fzT (.str b) h = (.str b, h)) ∧
    (∀ (b : List T) (h : MH), fzT (.tup b) h = (.tup b, h)) ∧ (∀ (b : List T) (h : MH), fzT (.lst b) h = (.lst b, h)) ∧ (∀ (b : List T) (h : MH), fzT (.frl b) h = (.frl b, h)) := by
  repeat' apply And.intro
  all_goals (intros; rfl)
theorem mty : (∀ h : MH, tyOfT .non h = some .non) ∧ (∀ (b : Bool) (h : MH), tyOfT (.bl b) h = some .bl) ∧ (∀ (b : Int) (h : MH), tyOfT (.int b) h = some .int) ∧ (∀ (b : Str) (h : MH), tyOfT (.str b) h = some .str) ∧
    (∀ (b : List T) (h : MH), tyOfT (.tup b) h = some .tup) ∧ (∀ (b : List T) (h : MH), tyOfT (.lst b) h = some .lst) ∧ (∀ (b : List T) (h : MH), tyOfT (.frl b) h = some .lst) ∧
    (isi5 .bl .bl = true ∧ isi5 .bl .int = true ∧ isi5 .int .int = true ∧ isi5 .int .bl = false ∧ isi5 .str .str = true ∧ isi5 .tup .tup = true ∧ isi5 .lst .lst = true ∧ isi5 .str .bl = false ∧ isi5 .str .int = false ∧ isi5 .tup .lst = false ∧ isi5 .lst .tup = false) := by
  repeat' apply And.intro
  all_goals (intros; rfl)
/-- slots -/
theorem ms : (∀ (x : T) (xs : List T), (x :: xs).map some = some x :: xs.map some) ∧ (([] : List T).map some = []) ∧ (∀ (x : T) (xs : List T), (x :: xs).length = xs.length + 1) ∧ (([] : List T).length = 0) ∧
    (∀ (x : Option T) (xs ys : List (Option T)), (x :: xs) ++ ys = x :: (xs ++ ys)) ∧ (∀ ys : List (Option T), [] ++ ys = ys) ∧
    (∀ (x : Option T) (xs : List (Option T)), (x :: xs)[0]? = some x) ∧ (∀ (x : Option T) (xs : List (Option T)) (i : Nat), (x :: xs)[i + 1]? = xs[i]?) ∧
    (∀ (x y : Option T) (xs : List (Option T)), (x :: xs).set 0 y = y :: xs) ∧ (∀ (x y : Option T) (xs : List (Option T)) (i : Nat), (x :: xs).set (i + 1) y = x :: xs.set i y) ∧
    (∀ (n : Nat) (x : Option T), List.replicate (n + 1) x = x :: List.replicate n x) ∧ (∀ (x : Option T), List.replicate 0 x = []) := by
  repeat' apply And.intro
  all_goals (intros; rfl)
end Mi
end part_Bt
section part_Bl
set_option maxRecDepth 100000
set_option maxHeartbeats 2000000
/-! Bl: plain laws of defs that make lambdas: the bag, a lambda called, _law_why, _law_whys. -/
namespace Mi
open PySem PySem.Spec PyProof.Rows L2
theorem bag_t {ns : List Int} {t0 : T} (h0 : t0 = .frl (ns.map .int) ∨ t0 = .lst (ns.map .int)) (h : MH) : ∃ o, mBagL [t0] h = .ok (.ref h.length) (h ++ [o]) ∧ Bag (h ++ [o]) h.length := by
  have hcut : cutT (ns.map T.int) none (some (63 : Int)) = (ns.take 63).map T.int := by
    have := cut_to (xs := ns.map T.int) (n := 63)
    rw [List.map_take] <;> exact this
  have hl : ((ns.take 63).map T.int).length ≤ 63 := by simp; omega
  generalize (ns.take 63) = row at hcut hl
  let mb : MS := mSq (mSet 2 (m2 fMod (mA fInt (aCons (m2 fAdd (m2 fAdd (m2 fMul (mVar 2) (mC (.int 47093))) (m2 fMod (mA fInt (aCons (mVar 3) aNil)) (mC (.int 2147483389)))) (mC (.int 17))) aNil)) (mC (.int 2147483549)))) mNx
  have lp : ∀ (s : SM) (m : Int), s = [some t0, some (.lst (row.map .int)), some (.int (5608 + 31 * (row.length : Int))), none] → ∃ s' m', forFrom (gN 3) mb (row.map .int) s h = .nx s' h ∧ (∃ z, s' = [some t0, some (.lst (row.map .int)), some (.int m'), z]) ∧ 0 ≤ m' ∧ m' < 2147483549 := by
    intro s m hs
    have hl' : row.length ≤ 63 := by simpa using hl
    obtain ⟨s', h', e, ⟨z, m', e2, e3, b0, b1⟩⟩ := for_inv (mgt := gN 3) (mb := mb) (I := fun pre s h' => ∃ z m, h' = h ∧ s = [some t0, some (.lst (row.map .int)), some (.int m), z] ∧ 0 ≤ m ∧ m < 2147483549) (row.map .int) [] s h ⟨none, 5608 + 31 * (row.length : Int), rfl, hs, by omega, by omega⟩ (by
      rintro pre x s h1 ⟨z, m, rfl, rfl, b0, b1⟩ hx
      obtain ⟨c, _, rfl⟩ := List.mem_map.mp hx
      refine ⟨_, h1, _, h1, rfl, .inl ?_, some (.int c), (m * 47093 + c % 2147483389 + 17) % 2147483549, rfl, rfl, Int.emod_nonneg _ (by omega), Int.emod_lt_of_pos _ (by omega)⟩
      simp only [mb, mSq, mSet, m2, mA, aCons, aNil, RL.bind, R.bind, R.toS, mVar, mC, List.set_cons_succ, List.set_cons_zero, List.getElem?_cons_zero, List.getElem?_cons_succ, fMul_l (show -18446744073709551616 < m by omega) (show m < 18446744073709551616 by omega), fInt_i, fAdd_i,
        fMod_ok (show (0 : Int) < 2147483389 by omega), fMod_ok (show (0 : Int) < 2147483549 by omega), mNx])
    subst e2
    exact ⟨s', m', e, ⟨z, e3⟩, b0, b1⟩
  obtain ⟨s', m', e1, ⟨z, e2⟩, b0, b1⟩ := lp _ 0 rfl
  refine ⟨bagO row 0 0 m', ?_, ⟨row, 0, 0, m', by simp, by simpa using hl, by omega, by omega, b0, b1⟩⟩
  subst e2
  have ef : (mFor (mSrc (mVar 1)) (gN 3) mb) [some t0, some (.lst (row.map .int)), some (.int (5608 + 31 * (row.length : Int))), none] h = .nx [some t0, some (.lst (row.map .int)), some (.int m'), z] h := e1
  have e0 : mBagL [t0] h = (match (mSq (mFor (mSrc (mVar 1)) (gN 3) mb) (mSq (mRet (mA fLstN (aCons (mVar 1) (aCons (mC (.int 0)) (aCons (mC (.int 0)) (aCons (mVar 2) aNil)))))) mNx)) [some t0, some (.lst (row.map .int)), some (.int (5608 + 31 * (row.length : Int))), none] h with
    | .nx _ h1 => R.ok .non h1
    | .rt t h1 => .ok t h1
    | .ex x _ h1 => .ex x h1
    | _ => .stuck) := by
    have e3 : fSl t0 .non (.int 63) h = .ok (.lst (row.map .int)) h := by rcases h0 with rfl | rfl <;> (rw [← hcut]; rfl)
    have e4 : ((row.map T.int).length : Int) = row.length := by simp
    simp only [mBagL, mDef, mSq, mSet, mA, aCons, aNil, mSl, mVar, mC, m1, fPart, R.bind, R.toS, RL.bind, List.map_cons, List.map_nil, List.length_cons, List.length_nil, List.getElem?_cons_zero, List.getElem?_cons_succ, List.cons_append, List.nil_append, Nat.reduceAdd, Nat.reduceSub, List.replicate_succ, List.replicate_zero, e3, List.set_cons_succ, List.set_cons_zero, m2, fLen_l, e4, fList, seqOf, fMul_l (show (-18446744073709551616 : Int) < 31 by omega) (show (31 : Int) < 18446744073709551616 by omega), fAdd_i]
    rfl
  rw [e0]
  show (match (match (mFor (mSrc (mVar 1)) (gN 3) mb) [some t0, some (.lst (row.map .int)), some (.int (5608 + 31 * (row.length : Int))), none] h with
    | .nx s1 h1 => (mSq (mRet (mA fLstN (aCons (mVar 1) (aCons (mC (.int 0)) (aCons (mC (.int 0)) (aCons (mVar 2) aNil)))))) mNx) s1 h1
    | r => r) with
    | .nx _ h1 => R.ok .non h1
    | .rt t h1 => .ok t h1
    | .ex x _ h1 => .ex x h1
    | _ => .stuck) = _
  rw [ef]
  rfl
/-! ### small steps -/
theorem var_ok {s : SM} {k : Nat} {t : T} (h : MH) (e : s[k]? = some (some t)) : mVar k s h = .ok t h := by simp only [mi, e]
theorem set_ok {me : ME} {i : Nat} {s : SM} {t : T} {h h1 : MH} (e : me s h = .ok t h1) : mSet i me s h = .nx (s.set i (some t)) h1 := by simp only [mi, e]
theorem seq_nx {m m' : MS} {s s1 : SM} {h h1 : MH} (e : m s h = .nx s1 h1) : mSq m m' s h = m' s1 h1 := by simp only [mi, e]
theorem seq_rt {m m' : MS} {s : SM} {h h1 : MH} {t : T} (e : m s h = .rt t h1) : mSq m m' s h = .rt t h1 := by simp only [mi, e]
theorem cons_ok {me : ME} {mr : MA} {s : SM} {h h1 h2 : MH} {t : T} {ts : List T} (e : me s h = .ok t h1) (e' : mr s h1 = .ok ts h2) : aCons me mr s h = .ok (t :: ts) h2 := by simp only [mi, e, e']
theorem nil_ok {s : SM} {h : MH} : aNil s h = .ok [] h := rfl
theorem m2_ok {f : T → T → MH → R} {ma mb : ME} {s : SM} {h h1 h2 h3 : MH} {t u x : T} (e : ma s h = .ok t h1) (e' : mb s h1 = .ok u h2) (q : f t u h2 = .ok x h3) : m2 f ma mb s h = .ok x h3 := by simp only [mi, e, e', q]
theorem m1_ok {f : T → MH → R} {ma : ME} {s : SM} {h h1 h2 : MH} {t x : T} (e : ma s h = .ok t h1) (q : f t h1 = .ok x h2) : m1 f ma s h = .ok x h2 := by simp only [mi, e, q]
theorem mA_ok {f : List T → MH → R} {mr : MA} {s : SM} {h h1 h2 : MH} {ts : List T} {x : T} (e : mr s h = .ok ts h1) (q : f ts h1 = .ok x h2) : mA f mr s h = .ok x h2 := by simp only [mi, e, q]
theorem mA_ex {f : List T → MH → R} {mr : MA} {s : SM} {h h1 h2 : MH} {ts : List T} {x : Exc} (e : mr s h = .ok ts h1) (q : f ts h1 = .ex x h2) : mA f mr s h = .ex x h2 := by simp only [mi, e, q]
theorem as_ok {me : ME} {mgt : MG} {s s1 : SM} {h h1 h2 : MH} {t : T} (e : me s h = .ok t h1) (g : mgt t s h1 = .ok s1 h2) : mAs me mgt s h = .nx s1 h2 := by simp only [mi, e, g]
theorem tru_ok {me : ME} {s : SM} {h h1 : MH} {b : Bool} (e : me s h = .ok (.bl b) h1) : mTru me s h = .ok (.bl b) h1 := by simp only [mi, e]
theorem not_ok {me : ME} {s : SM} {h h1 : MH} {b : Bool} (e : me s h = .ok (.bl b) h1) : mNot me s h = .ok (.bl (!b)) h1 := by simp only [mi, e]
theorem or_f {ma mb : ME} {s : SM} {h h1 : MH} (e : ma s h = .ok (.bl false) h1) : mOr ma mb s h = mb s h1 := by simp only [mi, e]
theorem or_t {ma mb : ME} {s : SM} {h h1 : MH} (e : ma s h = .ok (.bl true) h1) : mOr ma mb s h = .ok (.bl true) h1 := by simp only [mi, e]
theorem and_t {ma mb : ME} {s : SM} {h h1 : MH} (e : ma s h = .ok (.bl true) h1) : mAnd ma mb s h = mb s h1 := by simp only [mi, e]
theorem and_f {ma mb : ME} {s : SM} {h h1 : MH} (e : ma s h = .ok (.bl false) h1) : mAnd ma mb s h = .ok (.bl false) h1 := by simp only [mi, e]
theorem ifs_f {mc : ME} {m m' : MS} {s : SM} {h h1 : MH} (e : mc s h = .ok (.bl false) h1) : mIfS mc m m' s h = m' s h1 := by simp only [mi, e]
theorem ifs_t {mc : ME} {m m' : MS} {s : SM} {h h1 : MH} (e : mc s h = .ok (.bl true) h1) : mIfS mc m m' s h = m s h1 := by simp only [mi, e]
theorem if_f {mc ma mb : ME} {s : SM} {h h1 : MH} (e : mc s h = .ok (.bl false) h1) : mIf mc ma mb s h = mb s h1 := by simp only [mi, e]
theorem if_t {mc ma mb : ME} {s : SM} {h h1 : MH} (e : mc s h = .ok (.bl true) h1) : mIf mc ma mb s h = ma s h1 := by simp only [mi, e]
theorem retF_ok {me : ME} {s : SM} {h h1 : MH} {t : T} (c : closed t = true) (e : me s h = .ok t h1) : mRetF me s h = .rt t h1 := by simp only [mi, e, fzT_closed c]
theorem big_of {n : Nat} (h : n ≤ 100000) : n ≤ big := by unfold big; omega
theorem fP1 {m : MF} {t u : T} {h : MH} (c : closed t = true) (e : m [t] [] = .ok u []) (cu : closed u = true) : fP 1 m [t] h = .ok u h := by
  unfold fP
  rw [if_pos ⟨rfl, by simp [closedL, c]⟩, e]
  show (if closed u = true then R.ok u h else .stuck) = _
  rw [if_pos cu]
theorem fP2 {m : MF} {t1 t2 u : T} {h : MH} (c1 : closed t1 = true) (c2 : closed t2 = true) (e : m [t1, t2] [] = .ok u []) (cu : closed u = true) : fP 2 m [t1, t2] h = .ok u h := by
  unfold fP
  rw [if_pos ⟨rfl, by simp [closedL, c1, c2]⟩, e]
  show (if closed u = true then R.ok u h else .stuck) = _
  rw [if_pos cu]
theorem fP3 {m : MF} {t1 t2 t3 u : T} {h : MH} (c1 : closed t1 = true) (c2 : closed t2 = true) (c3 : closed t3 = true) (e : m [t1, t2, t3] [] = .ok u []) (cu : closed u = true) : fP 3 m [t1, t2, t3] h = .ok u h := by
  unfold fP
  rw [if_pos ⟨rfl, by simp [closedL, c1, c2, c3]⟩, e]
  show (if closed u = true then R.ok u h else .stuck) = _
  rw [if_pos cu]
theorem Keeps.trans {i : Nat} {h h1 h2 : MH} (a : Keeps i h h1) (b : Keeps i h1 h2) : Keeps i h h2 := ⟨b.len.trans a.len, fun j hj => (b.get j hj).trans (a.get j hj)⟩
theorem Keeps.refl {i : Nat} {h : MH} : Keeps i h h := ⟨rfl, fun _ _ => rfl⟩
theorem Bag.app {h t : MH} {i : Nat} (B : Bag h i) : Bag (h ++ t) i := by
  obtain ⟨row, p, c, m, e, z⟩ := B.ex
  exact ⟨row, p, c, m, by rw [List.getElem?_append_left (List.getElem?_eq_some_iff.mp e).1]; exact e, z⟩
def plB : Nat → T → Bool
  | 0, _ => false
  | _ + 1, .non => true
  | _ + 1, .bl _ => true
  | _ + 1, .int _ => true
  | _ + 1, .str _ => true
  | n + 1, .tup xs => xs.all (fun x => plB n x) && decide (xs.length ≤ 1000)
  | n + 1, .lst xs => xs.all (fun x => plB n x) && decide (xs.length ≤ 1000)
  | _ + 1, _ => false
theorem plB_ok : ∀ {n : Nat} {t : T}, plB n t = true → Pl n t
  | 0, t, h => by simp [plB] at h
  | n + 1, t, h => by
    cases t with
    | non => exact .non
    | bl b => exact .bl b
    | int i => exact .int i
    | str s => exact .str s
    | tup xs =>
      simp only [plB, Bool.and_eq_true, List.all_eq_true, decide_eq_true_eq] at h
      exact .tup (fun x hx => plB_ok (h.1 x hx)) (big_of (Nat.le_trans h.2 (by decide)))
    | lst xs =>
      simp only [plB, Bool.and_eq_true, List.all_eq_true, decide_eq_true_eq] at h
      exact .lst (fun x hx => plB_ok (h.1 x hx)) (big_of (Nat.le_trans h.2 (by decide)))
    | _ => simp [plB] at h
theorem Pl.ans {n : Nat} {z : Str} {t : T} (p : Pl (n + 1) t) : Pl (n + 2) (.tup [.str z, t]) := .tup (fun x hx => by
  simp only [List.mem_cons, List.not_mem_nil, or_false] at hx
  rcases hx with rfl | rfl
  · exact .str _
  · exact p) (big_of (by simp))
theorem Pl.l0 {n : Nat} : ∀ x ∈ ([] : List T), Pl n x := fun _ h => by cases h
theorem Pl.lc {n : Nat} {t : T} {ts : List T} (a : Pl n t) (b : ∀ x ∈ ts, Pl n x) : ∀ x ∈ t :: ts, Pl n x := List.forall_mem_cons.2 ⟨a, b⟩
/-! ### cells -/
theorem putAt_app : ∀ (hb cs ds : List MO), ds.length = cs.length → putAt (hb ++ cs) hb.length ds = hb ++ ds
  | hb, cs, ds, l => by
    apply List.ext_getElem?
    intro j
    by_cases l1 : j < hb.length
    · rw [putAt_lt _ _ l1, List.getElem?_append_left l1, List.getElem?_append_left l1]
    · by_cases l2 : j < hb.length + ds.length
      · have h1 : j - hb.length < ds.length := by omega
        have := putAt_mid ds (hb ++ cs) (n := hb.length) (i := j - hb.length) (c := ds[j - hb.length]) (by simp; omega) (List.getElem?_eq_getElem h1)
        rw [show hb.length + (j - hb.length) = j by omega] at this
        rw [this, List.getElem?_append_right (by omega), List.getElem?_eq_getElem h1]
      · rw [putAt_ge _ _ (by omega), List.getElem?_eq_none (by simp; omega), List.getElem?_eq_none (by simp; omega)]
theorem celVal_app (hb cs : MH) (j : Nat) : celVal (hb ++ cs) hb.length j = celVal cs 0 j := by
  unfold celVal
  rw [List.getElem?_append_right (by omega), show hb.length + j - hb.length = 0 + j by omega]
theorem celVals_app (hb cs : MH) : ∀ js : List Nat, celVals (hb ++ cs) hb.length js = celVals cs 0 js
  | [] => rfl
  | j :: js => by
    unfold celVals
    rw [celVal_app, celVals_app hb cs js]
theorem allCel_app (hb cs : MH) (m : Nat) : allCel (hb ++ cs) hb.length m = allCel cs 0 m := by
  unfold allCel
  congr 1
  funext i
  unfold isCel
  rw [List.getElem?_append_right (by omega), show hb.length + i - hb.length = 0 + i by omega]
section
variable {tab : List LamE} {k : Nat} {e : LamE} {C : List (Str × Addr)} {hb cs : MH} {ts : List T}
theorem actM_eq (ok : okC C e.fr e.js = true) (al : allCel cs 0 C.length = true) (cv : celVals cs 0 e.js = some ts) (lc : cs.length = C.length) :
    actM e C hb.length (hb ++ cs) = (match e.m ts (hb ++ deads C) with
      | .ok t h2 => .ok t (putAt h2 hb.length cs)
      | .ex x h2 => .ex x (putAt h2 hb.length cs)
      | .stuck => .stuck) := by
  unfold actM
  rw [allCel_app, ok, al, Bool.and_self, if_pos rfl, celVals_app, cv]
  dsimp only
  rw [putAt_app _ _ _ (by simp [lc]), show ((hb ++ cs).drop hb.length).take C.length = cs by rw [List.drop_left, ← lc, List.take_length]]
  first | done | (cases e.m ts (hb ++ deads C) <;> rfl)
theorem actR_ok (ht : tab[k]? = some e) {t : T} (ok : okC C e.fr e.js = true) (al : allCel cs 0 C.length = true) (lc : cs.length = C.length) (cv : celVals cs 0 e.js = some ts) (he : ∀ h, e.m ts h = .ok t h) :
    actR tab k e.I C hb.length (hb ++ cs) = .ok t (hb ++ cs) := by
  unfold actR
  rw [ht]
  dsimp only
  rw [if_pos rfl, actM_eq ok al cv lc, he]
  dsimp only
  rw [putAt_app _ _ _ (by simp [lc])]
theorem actR_ex (ht : tab[k]? = some e) {x : Exc} (ok : okC C e.fr e.js = true) (al : allCel cs 0 C.length = true) (lc : cs.length = C.length) (cv : celVals cs 0 e.js = some ts) (he : ∀ h, e.m ts h = .ex x h) :
    actR tab k e.I C hb.length (hb ++ cs) = .ex x (hb ++ cs) := by
  unfold actR
  rw [ht]
  dsimp only
  rw [if_pos rfl, actM_eq ok al cv lc, he]
  dsimp only
  rw [putAt_app _ _ _ (by simp [lc])]
end
/-! ### _law_why, _law_whys -/
inductive All2 (p : T → T → Prop) : List T → List T → Prop where
  | nil : All2 p [] []
  | cons {t u : T} {ts us : List T} (a : p t u) (b : All2 p ts us) : All2 p (t :: ts) (u :: us)
noncomputable def mWhyL (tab : List LamE) (ct : List (Str × Bool)) (su : MS) : MF := mDef 2 (mSq (mTry3 ct 1 (mSq (mRetF (mA fTup (aCons (mC (.str "")) (aCons (mAct tab 0) aNil)))) mNx) su) mNx)
noncomputable def mWhysL (why : MF) : MF := mDef 2 (mSq (mRetF (mLc (mSrc (mVar 0)) (gN 1) (mC (.bl true)) (mA (fS 1 why) (aCons (mVar 1) aNil)) [1])) mNx)
section
variable {tab : List LamE} {ct : List (Str × Bool)} {su : MS} {k n : Nat} {I : LamI} {C : List (Str × Addr)} {h h' : MH}
theorem why_ok {t : T} (e : actR tab k I C n h = .ok t h') : mWhyL tab ct su [.fnc k I C n] h = .ok (.tup [.str "", t]) h' := by
  have e1 : mAct tab 0 [some (.fnc k I C n), none] h = .ok t h' := e
  have e2 : fTup [.str "", t] h' = .ok (.tup [.str "", t]) h' := rfl
  simp only [mWhyL, mTry3, mi, ms, mz, Nat.reduceAdd, Nat.reduceSub, e1, e2]
theorem why_ex {x : Exc} {u : T} (e : actR tab k I C n h = .ex x h') (hc : ct.lookup x.c = some true) (hs : su [some (.fnc k I C n), some (.exn x.c x.ns x.vs)] h' = .rt u h') : mWhyL tab ct su [.fnc k I C n] h = .ok u h' := by
  have e1 : mAct tab 0 [some (.fnc k I C n), none] h = .ex x h' := e
  simp only [mWhyL, mTry3, handM, mi, ms, mz, Nat.reduceAdd, Nat.reduceSub, e1, hc, hs, goneS, RL.bind, R.toS]
theorem whys_ok {why : MF} {ts rs : List T} (hl : ts.length ≤ big) (hr : All2 (fun t r => why [t] h = .ok r h) ts rs) : mWhysL why [.lst ts] h = .ok (.lst rs) h := by
  let f : T → T := fun t => match why [t] h with
    | .ok r _ => r
    | _ => .non
  have e : ts.map f = rs := by
    clear hl
    induction hr with
    | nil => rfl
    | cons a _ ih => simp only [List.map_cons, ih, f, a]
  have hm : ∀ t ∈ ts, why [t] h = .ok (f t) h := by
    clear hl e
    induction hr with
    | nil => intro t ht; cases ht
    | cons a _ ih =>
      intro t ht
      rcases List.mem_cons.mp ht with rfl | q
      · simp only [f, a]
      · exact ih t q
  have e1 : mLc (mSrc (mVar 0)) (gN 1) (mC (.bl true)) (mA (fS 1 why) (aCons (mVar 1) aNil)) [1] [some (.lst ts), none] h = .ok (.lst rs) h := by
    show lcFrom _ _ _ [some (.lst ts), none] ts [] h = _
    rw [lc_map (f := f) ts (fun x hx => ⟨[some (.lst ts), some x], rfl, rfl, ?_⟩) hl, e]
    show (if 1 = 1 then why [x] h else .stuck) = _
    rw [if_pos rfl, hm x hx]
  simp only [mWhysL, mi, ms, mz, Nat.reduceAdd, Nat.reduceSub, e1]
/-- the lambdas lent, the answers in a list -/
theorem lend_ok' {m : MF} {ix : List Nat} {mr : MA} {s : SM} {ts rs : List T} {hb : MH} (e : mr s hb = .ok [.lst ts] hb) (hc : allCel (celsOf ix s) 0 C.length = true) (hl : (celsOf ix s).length = C.length)
    (hm : m [.lst (ts.map (closeV C hb.length))] (hb ++ celsOf ix s) = .ok (.lst rs) (hb ++ celsOf ix s)) : mLend m 1 C ix mr s hb = .ok (.lst rs) (hb ++ deads C) := by
  unfold mLend
  rw [e]
  show fLend m 1 C ix s [.lst ts] hb = _
  unfold fLend
  rw [if_pos (show [T.lst ts].length = 1 from rfl), show List.map (closeT C hb.length) [T.lst ts] = [.lst (ts.map (closeV C hb.length))] from rfl, hm]
  dsimp only
  rw [allCel_app, hc, if_pos rfl, putAt_app _ _ _ (by simp [hl])]
theorem lam_ok {q : Str} {P : Addr} {s : SM} (e : h[0]? = some (.tab q P)) (hq : q = I.q := by rfl) : mLam k I C P s h = .ok (.fn k I C) h := by
  unfold mLam
  rw [e]
  dsimp only
  rw [if_pos ⟨hq, rfl⟩]
/-- what a lambda answers, asked by _law_why -/
def AskOk (ct : List (Str × Bool)) (su : MS) (e : LamE) (ts : List T) (r : T) : Prop := (∃ t, (∀ h, e.m ts h = .ok t h) ∧ r = .tup [.str "", t]) ∨ (∃ x : Exc, (∀ h, e.m ts h = .ex x h) ∧ ct.lookup x.c = some true ∧ ∀ t0 h, su [t0, some (.exn x.c x.ns x.vs)] h = .rt r h)
theorem why_of {e : LamE} {hb cs : MH} {ts : List T} {r : T} {n : Nat} (hn : n = hb.length) (a : AskOk ct su e ts r) (ht : tab[k]? = some e) (ok : okC C e.fr e.js = true) (al : allCel cs 0 C.length = true) (lc : cs.length = C.length) (cv : celVals cs 0 e.js = some ts) :
    mWhyL tab ct su [.fnc k e.I C n] (hb ++ cs) = .ok r (hb ++ cs) := by
  subst hn
  rcases a with ⟨t, h1, rfl⟩ | ⟨x, h1, h2, h3⟩
  · exact why_ok (actR_ok ht ok al lc cv h1)
  · exact why_ex (actR_ex ht ok al lc cv h1) h2 (h3 _ _)
theorem closeV_fn (n : Nat) : closeV C n (.fn k I C) = .fnc k I C n := if_pos rfl
end
end Mi
end part_Bl
section part_Bm
set_option maxRecDepth 100000
set_option maxHeartbeats 2000000
/-! Bm: more small steps of plain laws: appends to a live list, loops that append. -/
namespace Mi
open PySem PySem.Spec PyProof.Rows L2
theorem seq_live {k : Nat} {h : MH} {ys : List T} (e : h[k]? = some (.lst ys)) : seqOf (.ref k) h = some ys := by unfold seqOf; dsimp only; rw [e]
theorem live_at {k : Nat} {h : MH} {ys : List T} (e : h[k]? = some (.lst ys)) : liveL (.ref k) h = some (k, ys) := by unfold liveL; dsimp only; rw [e]
theorem ty_live {k : Nat} {h : MH} {ys : List T} (e : h[k]? = some (.lst ys)) : tyOK "list" (.ref k) h = true := by unfold tyOK; dsimp only; rw [e]; rfl
theorem set_self {k : Nat} {h : MH} {o : MO} (e : h[k]? = some o) : h.set k o = h := by
  refine List.ext_getElem? fun j => ?_
  by_cases c : k = j
  · subst c
    rw [List.getElem?_set_self (List.getElem?_eq_some_iff.mp e).1, e]
  · rw [List.getElem?_set_ne c]
theorem set_at {k : Nat} {h : MH} {o o' : MO} (e : h[k]? = some o) : (h.set k o')[k]? = some o' := List.getElem?_set_self (List.getElem?_eq_some_iff.mp e).1
theorem fz_at {i k : Nat} {m : MS} {s : SM} {h : MH} {ys : List T} (e : s[i]? = some (some (.ref k))) (eh : h[k]? = some (.lst ys)) : mFz i m s h = m (s.set i (some (.lst ys))) (h.set k .dead) := by
  have z : fzT (.ref k) h = (.lst ys, h.set k .dead) := by
    unfold fzT
    dsimp only
    rw [eh]
  show (match s[i]? with
    | some (some t) => m (s.set i (some (fzT t h).1)) (fzT t h).2
    | _ => m s h) = _
  rw [e]
  dsimp only
  rw [z]
theorem fz_none {i : Nat} {m : MS} {s : SM} {h : MH} {t : T} (e : s[i]? = some (some t)) (c : closed t = true) : mFz i m s h = m (s.set i (some t)) h := by
  show (match s[i]? with
    | some (some t) => m (s.set i (some (fzT t h).1)) (fzT t h).2
    | _ => m s h) = _
  rw [e]
  dsimp only
  rw [fzT_closed c]
/-- xs.append(e) -/
theorem app_ok {a k : Nat} {me : ME} {s : SM} {h : MH} {t : T} {ys : List T} (ha : s[a]? = some (some (.ref k))) (e : h[k]? = some (.lst ys)) (hy : ys.length ≤ 10000) (em : me s h = .ok t h) : mEx (mMe "list" fAppend (mVar a) (aCons me aNil)) s h = .nx s (h.set k (.lst (ys ++ [t]))) := by
  have e3 : fAppend (.ref k) [t] h = .ok .non (h.set k (.lst (ys ++ [t]))) := by
    show (match liveL (.ref k) h with
      | some (i', xs) => if xs.length < big then R.ok .non (h.set i' (.lst (xs ++ [t]))) else .stuck
      | none => .stuck) = _
    rw [live_at e]
    dsimp only
    rw [if_pos (Nat.lt_of_lt_of_le (show ys.length < 10001 by omega) (big_of (by omega)))]
  have z : mMe "list" fAppend (mVar a) (aCons me aNil) s h = .ok .non (h.set k (.lst (ys ++ [t]))) := by
    unfold mMe
    rw [var_ok h ha]
    simp only [mi, ty_live e, if_true, em, e3]
  show (mMe _ _ _ _ _ h).toS _ _ = _
  rw [z]
  rfl
/-- a loop that appends one item a turn -/
theorem for_app {mgt : MG} {mb : MS} {k : Nat} {P : SM → Prop} {f : T → T} (N : Nat) : ∀ (xs ys : List T) (s : SM) (h : MH), P s → h[k]? = some (.lst ys) → ys.length + xs.length ≤ N → N ≤ 10000 →
    (∀ x ∈ xs, ∀ s h ys, P s → h[k]? = some (.lst ys) → ys.length ≤ 10000 → ∃ s1 s2, mgt x s h = .ok s1 h ∧ mb s1 h = .nx s2 (h.set k (.lst (ys ++ [f x]))) ∧ P s2) →
    ∃ s2, forFrom mgt mb xs s h = .nx s2 (h.set k (.lst (ys ++ xs.map f))) ∧ P s2
  | [], ys, s, h, p, e, _, _, _ => by
    refine ⟨s, ?_, p⟩
    rw [List.map_nil, List.append_nil, set_self e]
    rfl
  | x :: xs, ys, s, h, p, e, hl, hN, st => by
    rw [List.length_cons] at hl
    obtain ⟨s1, s2, e1, e2, p2⟩ := st x List.mem_cons_self s h ys p e (by omega)
    obtain ⟨s3, e3, p3⟩ := for_app N xs (ys ++ [f x]) s2 (h.set k (.lst (ys ++ [f x]))) p2 (set_at e) (by rw [List.length_append, List.length_singleton]; omega) hN (fun y hy => st y (List.mem_cons_of_mem _ hy))
    refine ⟨s3, ?_, p3⟩
    unfold forFrom
    rw [e1]
    dsimp only
    rw [e2]
    dsimp only
    rw [e3, List.set_set, List.append_assoc]
    rfl
/-- .. over a list of things α that the items g tell of -/
theorem for_appG {α : Type} {mgt : MG} {mb : MS} {k : Nat} {P : SM → Prop} {g f : α → T} (N : Nat) : ∀ (xs : List α) (ys : List T) (s : SM) (h : MH), P s → h[k]? = some (.lst ys) → ys.length + xs.length ≤ N → N ≤ 10000 →
    (∀ x ∈ xs, ∀ s h ys, P s → h[k]? = some (.lst ys) → ys.length ≤ 10000 → ∃ s1 s2, mgt (g x) s h = .ok s1 h ∧ mb s1 h = .nx s2 (h.set k (.lst (ys ++ [f x]))) ∧ P s2) →
    ∃ s2, forFrom mgt mb (xs.map g) s h = .nx s2 (h.set k (.lst (ys ++ xs.map f))) ∧ P s2
  | [], ys, s, h, p, e, _, _, _ => by
    refine ⟨s, ?_, p⟩
    rw [List.map_nil, List.map_nil, List.append_nil, set_self e]
    rfl
  | x :: xs, ys, s, h, p, e, hl, hN, st => by
    rw [List.length_cons] at hl
    obtain ⟨s1, s2, e1, e2, p2⟩ := st x List.mem_cons_self s h ys p e (by omega)
    obtain ⟨s3, e3, p3⟩ := for_appG N xs (ys ++ [f x]) s2 (h.set k (.lst (ys ++ [f x]))) p2 (set_at e) (by rw [List.length_append, List.length_singleton]; omega) hN (fun y hy => st y (List.mem_cons_of_mem _ hy))
    refine ⟨s3, ?_, p3⟩
    rw [List.map_cons]
    unfold forFrom
    rw [e1]
    dsimp only
    rw [e2]
    dsimp only
    rw [e3, List.set_set, List.append_assoc]
    rfl
theorem for_ok {mi' : MI} {mgt : MG} {mb : MS} {s s2 : SM} {h h1 h2 : MH} {xs : List T} (e : mi' s h = .ok xs h1) (e2 : forFrom mgt mb xs s h1 = .nx s2 h2) : mFor mi' mgt mb s h = .nx s2 h2 := by
  show (match mi' s h with
    | .ok xs h1 => forFrom mgt mb xs s h1
    | .ex x h1 => .ex x s h1
    | .stuck => .stuck) = _
  rw [e]
  exact e2
theorem par_ok {i j : Nat} {mr : MA} {s : SM} {h h1 : MH} {t u : T} (e : mr s h = .ok [t, u] h1) : mPar i j mr s h = .nx ((s.set i (some t)).set j (some u)) h1 := by
  show (match mr s h with
    | .ok [t, u] h1 => SR.nx ((s.set i (some t)).set j (some u)) h1
    | .ok _ _ => .stuck
    | .ex x h1 => .ex x s h1
    | .stuck => .stuck) = _
  rw [e]
theorem drawC {h : MH} {i : Nat} {many : Int} (B : Bag h i) (h1 : 1 ≤ many) (h2 : many ≤ 1000000) : ∃ (r : Int) (h' : MH), (fS 2 mDrawL) [.ref i, .int many] h = .ok (.int r) h' ∧ 0 ≤ r ∧ r < many ∧ Bag h' i ∧ Keeps i h h' := by
  obtain ⟨r, h', e, z⟩ := draw_ok B h1 h2
  exact ⟨r, h', e, z⟩
theorem ofC {h : MH} {i : Nat} {xs : List T} (B : Bag h i) (h1 : xs ≠ []) (h2 : xs.length ≤ 1000000) (hc : closedL xs = true) :
    ∃ (x : T) (h' : MH), (fS 2 mOfL) [.ref i, .lst xs] h = .ok x h' ∧ x ∈ xs ∧ Bag h' i ∧ Keeps i h h' := by
  obtain ⟨x, h', e, z⟩ := of_lst B h1 h2 hc
  exact ⟨x, h', e, z⟩
theorem Keeps.tab {h h' : MH} {o : MO} (k : Keeps 1 h h') (t : h[0]? = some o) : h'[0]? = some o := (k.get 0 (by decide)).trans t
theorem Bag.put {h : MH} {i k : Nat} {o : MO} (B : Bag h i) (hk : k ≠ i) : Bag (h.set k o) i := by
  obtain ⟨row, p, c, m, e, z⟩ := B.ex
  exact ⟨row, p, c, m, by rw [List.getElem?_set_ne hk]; exact e, z⟩
theorem Bag.lt {h : MH} {i : Nat} (B : Bag h i) : i < h.length := by
  obtain ⟨row, p, c, m, e, z⟩ := B.ex
  exact (List.getElem?_eq_some_iff.mp e).1
theorem fPx {n : Nat} {m : MF} {ts : List T} {u : T} {h h' : MH} (hl : ts.length = n) (c : closedL ts = true) (e : m ts [] = .ok u h') (cu : closed u = true) : fP n m ts h = .ok u h := by
  unfold fP
  rw [if_pos ⟨hl, c⟩, e]
  show (if closed u = true then R.ok u h else .stuck) = _
  rw [if_pos cu]
theorem seq_end {m : MS} {s s1 : SM} {h h1 : MH} (e : m s h = .nx s1 h1) : mSq m mNx s h = .nx s1 h1 := (seq_nx e).trans rfl
theorem alt_r {ma mb : ME} {s : SM} {h : MH} (e : ma s h = .stuck) : mAlt ma mb s h = mb s h := by
  unfold mAlt
  rw [e]
  rfl
theorem alt_l {ma mb : ME} {s : SM} {h h1 : MH} {t : T} (e : ma s h = .ok t h1) : mAlt ma mb s h = .ok t h1 := by
  unfold mAlt
  rw [e]
  rfl
theorem mMeth0 {c x : Str} {ds : List T} {fm : List T → MH → R} {mo : ME} {s : SM} {h h1 : MH} {t : T} (e : mo s h = .ok t h1) (i : isOf c x t h1 = true) : mMeth c x ds fm mo aNil s h = fm (t :: ds) h1 := by
  unfold mMeth
  simp only [mi, e, i, if_true, List.nil_append]
theorem mMeth0_no {c x : Str} {ds : List T} {fm : List T → MH → R} {mo : ME} {s : SM} {h h1 : MH} {t : T} (e : mo s h = .ok t h1) (i : isOf c x t h1 = false) : mMeth c x ds fm mo aNil s h = .stuck := by
  unfold mMeth
  simp only [mi, e, i]
  rfl
/-- the turns of the law's main loop -/
theorem turns {mgt : MG} {mb : MS} {Inv : SM → MH → Prop} : ∀ (xs : List T) (s : SM) (h : MH), Inv s h → (∀ x ∈ xs, ∀ s h, Inv s h → ∃ s1 h1 s2 h2, mgt x s h = .ok s1 h1 ∧ mb s1 h1 = .nx s2 h2 ∧ Inv s2 h2) → ∃ s2 h2, forFrom mgt mb xs s h = .nx s2 h2 ∧ Inv s2 h2
  | [], s, h, p, _ => ⟨s, h, rfl, p⟩
  | x :: xs, s, h, p, st => by
    obtain ⟨s1, h1, s2, h2, e1, e2, p2⟩ := st x List.mem_cons_self s h p
    obtain ⟨s3, h3, e3, p3⟩ := turns xs s2 h2 p2 (fun y hy => st y (List.mem_cons_of_mem _ hy))
    refine ⟨s3, h3, ?_, p3⟩
    unfold forFrom
    rw [e1]
    dsimp only
    rw [e2]
    exact e3
end Mi
end part_Bm
section part_W01
set_option maxRecDepth 100000
set_option maxHeartbeats 4000000
namespace L_k01
open PySem PySem.Spec PyProof.Rows L2 Mi
def top (i : Nat) : Stmt := PySem.Challenge.pw_hushaccord_k01_rows_and_signs.main.body.getD i (.Pass ⟨0, 0, 0, 0⟩)
def t_HEARD : T := .tup [.str "bl", .str "br"]
def t_SIGNS : T := .str "blnr"
def kt_LOST : List (Str × T) := [("b", .int 0), ("l", .int 1), ("n", .int 2), ("r", .int 1)]
def kt_TURNED : List (Str × T) := [("b", .str "b"), ("l", .str "r"), ("n", .str "n"), ("r", .str "l")]
def xs_given : List Str := ["InvalidRow", "InvalidHand"]
def xs_tag : List Str := ["InvalidRow", "InvalidHand", "NothingLeft"]
def ct_why : List (Str × Bool) := [("InvalidHand", true), ("InvalidRow", true)]
abbrev si_InvalidHand : Stmt := (clsBody (top 7)).getD 0 (.Pass ⟨0, 0, 0, 0⟩)
abbrev si_InvalidRow : Stmt := (clsBody (top 6)).getD 0 (.Pass ⟨0, 0, 0, 0⟩)
def ocs : List Str := []
abbrev s_law : Stmt := top 32
abbrev N_law : List Str := ["_law_script", "_law_bag_here", "_law_turn", "_law_due", "_law_gone", "_law_sign", "_law_asks", "_law_my_row", "_law_my_hand", "_law_odd", "_law_bad", "_law_at"]
def lms : List Expr := lamsOf (defBody s_law)
def C_law (L : Nat) : List (Str × Addr) := cellsFrom (L + 1) (defScope s_law).names []
def cn_law : List Str := cnOf (defScope s_law).names []
def ix_law : List Nat := cn_law.map fun y => N_law.idxOf y
def lam_0 : Expr := lms.getD 0 noLam
def LI_0 : LamI := lamI "law.<locals>.<lambda>" false lam_0
def lam_1 : Expr := lms.getD 1 noLam
def LI_1 : LamI := lamI "law.<locals>.<lambda>" true lam_1
def lam_2 : Expr := lms.getD 2 noLam
def LI_2 : LamI := lamI "law.<locals>.<lambda>" true lam_2
def lam_3 : Expr := lms.getD 3 noLam
def LI_3 : LamI := lamI "law.<locals>.<lambda>" true lam_3
abbrev s__law_alike : Stmt := top 27
abbrev N__law_alike : List Str := ["_law_found", "_law_due", "_law_sort", "_law_one", "_law_two"]
theorem sc__law_alike : FnScope N__law_alike ["_law_found", "_law_due"] (defScope s__law_alike) := ⟨rfl, rfl, rfl, by decide +kernel, rfl, by decide +kernel, by decide +kernel⟩
theorem b__law_alike : PosB s__law_alike "_law_alike" "_law_alike" ["_law_found", "_law_due"] := fun _ _ _ _ _ _ us hl => match us, hl with | [_, _], _ => rfl
def m_law_alike : Nat → MF
  | 0 => fun _ _ => .stuck
  | n + 1 => mDef 5 ((mSq (mIfS (mOr (m2 (fIs false) (mVar 1) (mC .non)) (m2 (fIs false) (mVar 0) (mC .non))) (mSq (mRetF (mAndV (m2 (fIs false) (mVar 1) (mC .non)) (m2 (fIs false) (mVar 0) (mC .non))))
    mNx) mNx)
    (mSq (mFor (mSrc (mA fTup (aCons (mC (.int 1)) (aCons (mC (.int 2)) (aCons (mC (.int 3)) aNil))))) (gN 2) (mSq (mIfS (mAnd (m2 fEq (mVar 2) (mC (.int 1))) (mOr (mTru (m1 (fIsi .bl) (mVar 1))) (mTru (m1 (fIsi .bl) (mVar 0))))) (mSq (mRetF (mAndV (m1 (fIsi .bl) (mVar 1)) (mAndV (m1 (fIsi .bl) (mVar 0)) (m2 fEq (mVar 0) (mVar 1)))))
    mNx) mNx)
    (mSq (mIfS (mAnd (m2 fEq (mVar 2) (mC (.int 2))) (mOr (mTru (m1 (fIsi .str) (mVar 1))) (mTru (m1 (fIsi .str) (mVar 0))))) (mSq (mRetF (mAndV (m1 (fIsi .str) (mVar 1)) (mAndV (m1 (fIsi .str) (mVar 0)) (m2 fEq (mVar 0) (mVar 1)))))
    mNx) mNx)
    (mSq (mIfS (mAnd (m2 fEq (mVar 2) (mC (.int 3))) (mOr (mTru (m1 (fIsi .int) (mVar 1))) (mTru (m1 (fIsi .int) (mVar 0))))) (mSq (mRetF (mAndV (m1 (fIsi .int) (mVar 1)) (mAndV (m1 (fIsi .int) (mVar 0)) (m2 fEq (mVar 0) (mVar 1)))))
    mNx) mNx)
    mNx))))
    (mSq (mIfS (mOr (m2 fNe (m1 (fIsi .tup) (mVar 1)) (m1 (fIsi .tup) (mVar 0))) (m2 fNe (m1 (fIsi .lst) (mVar 1)) (m1 (fIsi .lst) (mVar 0)))) (mSq (mRetF (mC (.bl false)))
    mNx) mNx)
    (mSq (mRetF (mAndV (m2 fEq (mA fLen (aCons (mVar 0) aNil)) (mA fLen (aCons (mVar 1) aNil))) (mA fAll (aCons (mLc (mIA iZp (aCons (mVar 0) (aCons (mVar 1) aNil))) (gT 2 (gsCons (gN 3) (gsCons (gN 4) gsNil))) (mC (.bl true)) (mA (fP 2 (m_law_alike n)) (aCons (mVar 3) (aCons (mVar 4) aNil))) [3, 4]) aNil))))
    mNx)))))
abbrev s__law_bag : Stmt := top 22
abbrev N__law_bag : List Str := ["_law_script", "_law_my_row", "_law_mark", "_law_cell"]
theorem sc__law_bag : FnScope N__law_bag ["_law_script"] (defScope s__law_bag) := ⟨rfl, rfl, rfl, by decide +kernel, rfl, by decide +kernel, by decide +kernel⟩
theorem b__law_bag : PosB s__law_bag "_law_bag" "_law_bag" ["_law_script"] := fun _ _ _ _ _ _ us hl => match us, hl with | [_], _ => rfl
def m_law_bag : MF := mDef 4 ((mSq (mSet 1 (mA fList (aCons (mSl (mVar 0) (mC .non) (m1 fPart (mC (.int 63)))) aNil)))
    (mSq (mSet 2 (m2 fAdd (mC (.int 5608)) (m2 fMul (mC (.int 31)) (mA fLen (aCons (mVar 1) aNil)))))
    (mSq (mFor (mSrc (mVar 1)) (gN 3) (mSq (mSet 2 (m2 fMod (mA fInt (aCons (m2 fAdd (m2 fAdd (m2 fMul (mVar 2) (mC (.int 47093))) (m2 fMod (mA fInt (aCons (mVar 3) aNil)) (mC (.int 2147483389)))) (mC (.int 17))) aNil)) (mC (.int 2147483549))))
    mNx))
    (mSq (mRet (mA fLstN (aCons (mVar 1) (aCons (mC (.int 0)) (aCons (mC (.int 0)) (aCons (mVar 2) aNil))))))
    mNx)))))
abbrev s__law_draw : Stmt := top 23
abbrev N__law_draw : List Str := ["_law_bag_here", "_law_many", "_law_cell", "_law_found", "_law_mixed"]
theorem sc__law_draw : FnScope N__law_draw ["_law_bag_here", "_law_many"] (defScope s__law_draw) := ⟨rfl, rfl, rfl, by decide +kernel, rfl, by decide +kernel, by decide +kernel⟩
theorem b__law_draw : PosB s__law_draw "_law_draw" "_law_draw" ["_law_bag_here", "_law_many"] := fun _ _ _ _ _ _ us hl => match us, hl with | [_, _], _ => rfl
def m_law_draw : MF := mDef 5 ((mSq (mIfS (mAnd (m2 fEq (m2 fIx (mVar 0) (mC (.int 2))) (mC (.int 0))) (m2 fLt (m2 fIx (mVar 0) (mC (.int 1))) (mA fLen (aCons (m2 fIx (mVar 0) (mC (.int 0))) aNil)))) (mSq (mSet 2 (m2 fIx (m2 fIx (mVar 0) (mC (.int 0))) (m2 fIx (mVar 0) (mC (.int 1)))))
    (mSq (mAs (m2 fAdd (m2 fIx (mVar 0) (mC (.int 1))) (mC (.int 1))) (gSt (mVar 0) (mC (.int 1))))
    (mSq (mIfS (m2 fGe (mVar 2) (m2 fPow (mC (.int 10)) (mC (.int 18)))) (mSq (mAs (mVar 2) (gSt (mVar 0) (mC (.int 2))))
    mNx) (mSq (mSet 4 (m2 fAdd (m2 fMul (m2 fIx (mVar 0) (mC (.int 3))) (mC (.int 41381))) (m2 fMod (mA fInt (aCons (mVar 2) aNil)) (mC (.int 2000000033)))))
    (mSq (mAs (m2 fMod (mA fInt (aCons (m2 fAdd (mVar 4) (m2 fIx (mVar 0) (mC (.int 1)))) aNil)) (mC (.int 2147483549))) (gSt (mVar 0) (mC (.int 3))))
    mNx)))
    mNx))) mNx)
    (mSq (mIfS (m2 fGt (m2 fIx (mVar 0) (mC (.int 2))) (mC (.int 0))) (mSq (mSet 3 (m2 fMod (mA fInt (aCons (m2 fIx (mVar 0) (mC (.int 2))) aNil)) (mVar 1)))
    (mSq (mAs (m2 fFdiv (m2 fIx (mVar 0) (mC (.int 2))) (mVar 1)) (gSt (mVar 0) (mC (.int 2))))
    (mSq (mRetF (mVar 3))
    mNx))) mNx)
    (mSq (mAs (m2 fMod (mA fInt (aCons (m2 fAdd (m2 fMul (m2 fIx (mVar 0) (mC (.int 3))) (mC (.int 45137))) (mC (.int 1019))) aNil)) (mC (.int 2147483549))) (gSt (mVar 0) (mC (.int 3))))
    (mSq (mRetF (m2 fMod (mA fInt (aCons (m2 fFdiv (m2 fMod (mA fInt (aCons (m2 fMul (m2 fIx (mVar 0) (mC (.int 3))) (m2 fIx (mVar 0) (mC (.int 3)))) aNil)) (mC (.int 999999929))) (mC (.int 37))) aNil)) (mVar 1)))
    mNx)))))
abbrev s__law_hears : Stmt := top 26
abbrev N__law_hears : List Str := ["_law_my_hand", "_law_sign"]
theorem sc__law_hears : FnScope N__law_hears ["_law_my_hand", "_law_sign"] (defScope s__law_hears) := ⟨rfl, rfl, rfl, by decide +kernel, rfl, by decide +kernel, by decide +kernel⟩
theorem b__law_hears : PosB s__law_hears "_law_hears" "_law_hears" ["_law_my_hand", "_law_sign"] := fun _ _ _ _ _ _ us hl => match us, hl with | [_, _], _ => rfl
def m_law_hears : MF := mDef 2 ((mSq (mRetF (m2 (fIn false) (mVar 1) (m2 fIx (mA fLst (aCons (mC (.str "bl")) (aCons (mC (.str "br")) aNil))) (mVar 0))))
    mNx))
abbrev s__law_of : Stmt := top 24
abbrev N__law_of : List Str := ["_law_bag_here", "_law_things"]
theorem sc__law_of : FnScope N__law_of ["_law_bag_here", "_law_things"] (defScope s__law_of) := ⟨rfl, rfl, rfl, by decide +kernel, rfl, by decide +kernel, by decide +kernel⟩
theorem b__law_of : PosB s__law_of "_law_of" "_law_of" ["_law_bag_here", "_law_things"] := fun _ _ _ _ _ _ us hl => match us, hl with | [_, _], _ => rfl
def m_law_of : MF := mDef 2 ((mSq (mRetF (m2 fIx (mVar 1) (mA (fS 2 m_law_draw) (aCons (mVar 0) (aCons (mA fLen (aCons (mVar 1) aNil)) aNil)))))
    mNx))
abbrev s__law_row : Stmt := top 25
abbrev N__law_row : List Str := ["_law_bag_here", "_law_most", "_law_signs", "_law_place"]
theorem sc__law_row : FnScope N__law_row ["_law_bag_here", "_law_most", "_law_signs"] (defScope s__law_row) := ⟨rfl, rfl, rfl, by decide +kernel, rfl, by decide +kernel, by decide +kernel⟩
theorem b__law_row : PosB s__law_row "_law_row" "_law_row" ["_law_bag_here", "_law_most", "_law_signs"] := fun _ _ _ _ _ _ us hl => match us, hl with | [_, _, _], _ => rfl
def m_law_row : MF := mDef 4 ((mSq (mRetF (mMe "str" fJoin (mC (.str "")) (aCons (mLc (mIA iRg1 (aCons (mA (fS 2 m_law_draw) (aCons (mVar 0) (aCons (m2 fAdd (mVar 1) (mC (.int 1))) aNil))) aNil)) (gN 3) (mC (.bl true)) (mA (fS 2 m_law_of) (aCons (mVar 0) (aCons (mVar 2) aNil))) [3]) aNil)))
    mNx))
abbrev s__law_turned : Stmt := top 28
abbrev N__law_turned : List Str := ["_law_my_row", "_law_sign"]
theorem sc__law_turned : FnScope N__law_turned ["_law_my_row"] (defScope s__law_turned) := ⟨rfl, rfl, rfl, by decide +kernel, rfl, by decide +kernel, by decide +kernel⟩
theorem b__law_turned : PosB s__law_turned "_law_turned" "_law_turned" ["_law_my_row"] := fun _ _ _ _ _ _ us hl => match us, hl with | [_], _ => rfl
def m_law_turned : MF := mDef 2 ((mSq (mRetF (mMe "str" fJoin (mC (.str "")) (aCons (mLc (mSrc (mVar 0)) (gN 1) (mC (.bl true)) (m2 fIx (mC (.str "brnl")) (mMe "str" fIndexS (mC (.str "blnr")) (aCons (mVar 1) aNil))) [1]) aNil)))
    mNx))
abbrev s__law_field : Stmt := top 29
abbrev N__law_field : List Str := ["_law_e", "_law_bare"]
theorem sc__law_field : FnScope N__law_field ["_law_e"] (defScope s__law_field) := ⟨rfl, rfl, rfl, by decide +kernel, rfl, by decide +kernel, by decide +kernel⟩
theorem b__law_field : PosB s__law_field "_law_field" "_law_field" ["_law_e"] := fun _ _ _ _ _ _ us hl => match us, hl with | [_], _ => rfl
def m_law_field : MF := mDef 2 ((mSq (mIfS (m2 (fIn false) (m1 (fFldX xs_tag "tag") (mVar 0)) (mA fLst (aCons (mC (.str "InvalidStates")) (aCons (mC (.str "InvalidCase")) aNil)))) (mSq (mRetF mStk)
    mNx) mNx)
    (mSq (mIfS (m2 (fIn false) (m1 (fFldX xs_tag "tag") (mVar 0)) (mA fLst (aCons (mC (.str "TooMany")) (aCons (mC (.str "Finished")) aNil)))) (mSq (mRetF mStk)
    mNx) mNx)
    (mSq (mIfS (m2 fEq (m1 (fFldX xs_tag "tag") (mVar 0)) (mC (.str "TakenMove"))) (mSq (mRetF mStk)
    mNx) mNx)
    (mSq (mIfS (m2 (fIn false) (m1 (fFldX xs_tag "tag") (mVar 0)) (mA fLst (aCons (mC (.str "InvalidName")) (aCons (mC (.str "WrongKind")) (aCons (mC (.str "DuplicateName")) (aCons (mC (.str "UnknownName")) aNil)))))) (mSq (mRetF mStk)
    mNx) mNx)
    (mSq (mIfS (m2 fEq (m1 (fFldX xs_tag "tag") (mVar 0)) (mC (.str "Full"))) (mSq (mRetF mStk)
    mNx) mNx)
    (mSq (mIfS (m2 fEq (m1 (fFldX xs_tag "tag") (mVar 0)) (mC (.str "InvalidCommand"))) (mSq (mRetF mStk)
    mNx) mNx)
    (mSq (mIfS (m2 fEq (m1 (fFldX xs_tag "tag") (mVar 0)) (mC (.str "InvalidPage"))) (mSq (mRetF mStk)
    mNx) mNx)
    (mSq (mSet 1 (mA fLst (aCons (mC (.str "InvalidTask")) (aCons (mC (.str "InvalidTable")) (aCons (mC (.str "TablesDiffer")) (aCons (mC (.str "NoRows")) (aCons (mC (.str "DeadDiffer")) (aCons (mC (.str "LastMove")) (aCons (mC (.str "InvalidText")) (aCons (mC (.str "NothingLeft")) aNil))))))))))
    (mSq (mRetF (mIf (m2 (fIn false) (m1 (fFldX xs_tag "tag") (mVar 0)) (mVar 1)) (mC .non) (m1 (fFldX xs_given "given") (mVar 0))))
    mNx))))))))))
abbrev s_is_number : Stmt := top 1
abbrev N_is_number : List Str := ["value"]
theorem sc_is_number : FnScope N_is_number ["value"] (defScope s_is_number) := ⟨rfl, rfl, rfl, by decide +kernel, rfl, by decide +kernel, by decide +kernel⟩
theorem b_is_number : PosB s_is_number "is_number" "is_number" ["value"] := fun _ _ _ _ _ _ us hl => match us, hl with | [_], _ => rfl
def m_is_number : MF := mDef 1 ((mSq (mRetF (mAndV (m1 (fIsi .int) (mVar 0)) (mNotV (m1 (fIsi .bl) (mVar 0)))))
    mNx))
abbrev s_is_within : Stmt := top 2
abbrev N_is_within : List Str := ["value", "least", "most"]
theorem sc_is_within : FnScope N_is_within ["value", "least", "most"] (defScope s_is_within) := ⟨rfl, rfl, rfl, by decide +kernel, rfl, by decide +kernel, by decide +kernel⟩
theorem b_is_within : PosB s_is_within "is_within" "is_within" ["value", "least", "most"] := fun _ _ _ _ _ _ us hl => match us, hl with | [_, _, _], _ => rfl
def m_is_within : MF := mDef 3 ((mSq (mRetF (mAndV (mA (fP 1 m_is_number) (aCons (mVar 0) aNil)) (mChain fLe fLe (mVar 1) (mVar 0) (mVar 2))))
    mNx))
abbrev s_need_hand : Stmt := top 16
abbrev N_need_hand : List Str := ["hand"]
theorem sc_need_hand : FnScope N_need_hand ["hand"] (defScope s_need_hand) := ⟨rfl, rfl, rfl, by decide +kernel, rfl, by decide +kernel, by decide +kernel⟩
theorem b_need_hand : PosB s_need_hand "need_hand" "need_hand" ["hand"] := fun _ _ _ _ _ _ us hl => match us, hl with | [_], _ => rfl
def m_need_hand : MF := mDef 1 ((mSq (mIfS (mNot (mTru (mA (fP 3 m_is_within) (aCons (mVar 0) (aCons (mC (.int 0)) (aCons (mC (.int 1)) aNil)))))) (mSq (mRaise (fExn1 "InvalidHand" "InvalidHand" "given") (aCons (mVar 0) aNil))
    mNx) mNx)
    mNx))
abbrev s_is_row : Stmt := top 14
abbrev N_is_row : List Str := ["value", "sign"]
theorem sc_is_row : FnScope N_is_row ["value"] (defScope s_is_row) := ⟨rfl, rfl, rfl, by decide +kernel, rfl, by decide +kernel, by decide +kernel⟩
theorem b_is_row : PosB s_is_row "is_row" "is_row" ["value"] := fun _ _ _ _ _ _ us hl => match us, hl with | [_], _ => rfl
def m_is_row : MF := mDef 2 ((mSq (mRetF (mAndV (m1 (fIsi .str) (mVar 0)) (mA fAll (aCons (mLc (mSrc (mVar 0)) (gN 1) (mC (.bl true)) (m2 (fIn false) (mVar 1) (mC t_SIGNS)) [1]) aNil))))
    mNx))
abbrev s_need_row : Stmt := top 15
abbrev N_need_row : List Str := ["row"]
theorem sc_need_row : FnScope N_need_row ["row"] (defScope s_need_row) := ⟨rfl, rfl, rfl, by decide +kernel, rfl, by decide +kernel, by decide +kernel⟩
theorem b_need_row : PosB s_need_row "need_row" "need_row" ["row"] := fun _ _ _ _ _ _ us hl => match us, hl with | [_], _ => rfl
def m_need_row : MF := mDef 1 ((mSq (mIfS (mNot (mTru (mA (fP 1 m_is_row) (aCons (mVar 0) aNil)))) (mSq (mRaise (fExn1 "InvalidRow" "InvalidRow" "given") (aCons (mVar 0) aNil))
    mNx) mNx)
    mNx))
abbrev s_heard : Stmt := top 17
abbrev N_heard : List Str := ["hand", "row", "at", "sign"]
theorem sc_heard : FnScope N_heard ["hand", "row"] (defScope s_heard) := ⟨rfl, rfl, rfl, by decide +kernel, rfl, by decide +kernel, by decide +kernel⟩
theorem b_heard : PosB s_heard "heard" "heard" ["hand", "row"] := fun _ _ _ _ _ _ us hl => match us, hl with | [_, _], _ => rfl
def m_heard : MF := mDef 4 ((mSq (mEx (mA (fP 1 m_need_hand) (aCons (mVar 0) aNil)))
    (mSq (mEx (mA (fP 1 m_need_row) (aCons (mVar 1) aNil)))
    (mSq (mRetF (mLc (mIA iEn (aCons (mVar 1) aNil)) (gT 2 (gsCons (gN 2) (gsCons (gN 3) gsNil))) (m2 (fIn false) (mVar 3) (m2 fIx (mC t_HEARD) (mVar 0))) (mVar 2) [2, 3]))
    mNx))))
abbrev N_lam_0 : List Str := ["_law_bad", "_law_odd"]
def ml_0 : ME := (mA (fP 2 m_heard) (aCons (mVar 0) (aCons (mVar 1) aNil)))
def LE_0 : LamE := ⟨LI_0, ["_law_bad", "_law_odd"], (["_law_bad", "_law_odd"] : List Str).map (fun y => cn_law.idxOf y), mLamF 0 2 ml_0⟩
abbrev N_lam_1 : List Str := ["_law_a", "_law_odd"]
def ml_1 : ME := (mA (fP 2 m_heard) (aCons (mC (.int 0)) (aCons (mVar 1) aNil)))
def LE_1 : LamE := ⟨LI_1, ["_law_odd"], (["_law_odd"] : List Str).map (fun y => cn_law.idxOf y), mLamF 1 2 ml_1⟩
abbrev s_lost : Stmt := top 18
abbrev N_lost : List Str := ["row", "sign"]
theorem sc_lost : FnScope N_lost ["row"] (defScope s_lost) := ⟨rfl, rfl, rfl, by decide +kernel, rfl, by decide +kernel, by decide +kernel⟩
theorem b_lost : PosB s_lost "lost" "lost" ["row"] := fun _ _ _ _ _ _ us hl => match us, hl with | [_], _ => rfl
def m_lost : MF := mDef 2 ((mSq (mEx (mA (fP 1 m_need_row) (aCons (mVar 0) aNil)))
    (mSq (mRetF (mA fSum (aCons (mLc (mSrc (mVar 0)) (gN 1) (mC (.bl true)) (m1 (fKd kt_LOST) (mVar 1)) [1]) aNil)))
    mNx)))
abbrev N_lam_2 : List Str := ["_law_b", "_law_odd"]
def ml_2 : ME := (mA (fP 1 m_lost) (aCons (mVar 1) aNil))
def LE_2 : LamE := ⟨LI_2, ["_law_odd"], (["_law_odd"] : List Str).map (fun y => cn_law.idxOf y), mLamF 1 2 ml_2⟩
abbrev s_turned_signs : Stmt := top 19
abbrev N_turned_signs : List Str := ["row", "sign"]
theorem sc_turned_signs : FnScope N_turned_signs ["row"] (defScope s_turned_signs) := ⟨rfl, rfl, rfl, by decide +kernel, rfl, by decide +kernel, by decide +kernel⟩
theorem b_turned_signs : PosB s_turned_signs "turned_signs" "turned_signs" ["row"] := fun _ _ _ _ _ _ us hl => match us, hl with | [_], _ => rfl
def m_turned_signs : MF := mDef 2 ((mSq (mRetF (mMe "str" fJoin (mC (.str "")) (aCons (mLc (mSrc (mVar 0)) (gN 1) (mC (.bl true)) (m1 (fKd kt_TURNED) (mVar 1)) [1]) aNil)))
    mNx))
abbrev s_turned_row : Stmt := top 20
abbrev N_turned_row : List Str := ["row"]
theorem sc_turned_row : FnScope N_turned_row ["row"] (defScope s_turned_row) := ⟨rfl, rfl, rfl, by decide +kernel, rfl, by decide +kernel, by decide +kernel⟩
theorem b_turned_row : PosB s_turned_row "turned_row" "turned_row" ["row"] := fun _ _ _ _ _ _ us hl => match us, hl with | [_], _ => rfl
def m_turned_row : MF := mDef 1 ((mSq (mEx (mA (fP 1 m_need_row) (aCons (mVar 0) aNil)))
    (mSq (mRetF (mA (fP 1 m_turned_signs) (aCons (mVar 0) aNil)))
    mNx)))
abbrev N_lam_3 : List Str := ["_law_c", "_law_odd"]
def ml_3 : ME := (mA (fP 1 m_turned_row) (aCons (mVar 1) aNil))
def LE_3 : LamE := ⟨LI_3, ["_law_odd"], (["_law_odd"] : List Str).map (fun y => cn_law.idxOf y), mLamF 1 2 ml_3⟩
def tabL : List LamE := [LE_0, LE_1, LE_2, LE_3]
abbrev s__law_why : Stmt := top 30
abbrev N__law_why : List Str := ["_law_ask", "_law_e"]
theorem sc__law_why : FnScope N__law_why ["_law_ask"] (defScope s__law_why) := ⟨rfl, rfl, rfl, by decide +kernel, rfl, by decide +kernel, by decide +kernel⟩
theorem b__law_why : PosB s__law_why "_law_why" "_law_why" ["_law_ask"] := fun _ _ _ _ _ _ us hl => match us, hl with | [_], _ => rfl
noncomputable def m_law_why : MF := mDef 2 ((mSq (mTry3 ct_why 1 (mSq (mRetF (mA fTup (aCons (mC (.str "")) (aCons (mAct tabL 0) aNil))))
    mNx) (mSq (mRetF (mA fTup (aCons (m1 (fFldX xs_tag "tag") (mVar 1)) (aCons (mA (fP 1 m_law_field) (aCons (mVar 1) aNil)) aNil))))
    mNx))
    mNx))
abbrev s__law_whys : Stmt := top 31
abbrev N__law_whys : List Str := ["_law_asks", "_law_ask"]
theorem sc__law_whys : FnScope N__law_whys ["_law_asks"] (defScope s__law_whys) := ⟨rfl, rfl, rfl, by decide +kernel, rfl, by decide +kernel, by decide +kernel⟩
theorem b__law_whys : PosB s__law_whys "_law_whys" "_law_whys" ["_law_asks"] := fun _ _ _ _ _ _ us hl => match us, hl with | [_], _ => rfl
noncomputable def m_law_whys : MF := mDef 2 ((mSq (mRetF (mLc (mSrc (mVar 0)) (gN 1) (mC (.bl true)) (mA (fS 1 m_law_why) (aCons (mVar 1) aNil)) [1]))
    mNx))
theorem sc_law : FnScope N_law ["_law_script"] (defScope s_law) := ⟨rfl, rfl, rfl, by decide +kernel, rfl, by decide +kernel, by decide +kernel⟩
theorem b_law : PosB s_law "law" "law" ["_law_script"] := fun _ _ _ _ _ _ us hl => match us, hl with | [_], _ => rfl
noncomputable def m_law (P L : Nat) : MF := mDef 12 ((mSq (mSet 1 (mA (fS 1 m_law_bag) (aCons (mVar 0) aNil)))
    (mSq (mFor (mIA iRg1 (aCons (mC (.int 8)) aNil)) (gN 2) (mSq (mAs (mA fTup (aCons (mA (fS 3 m_law_row) (aCons (mVar 1) (aCons (mC (.int 8)) (aCons (mC (.str "blnr")) aNil)))) (aCons (mA (fS 2 m_law_draw) (aCons (mVar 1) (aCons (mC (.int 2)) aNil))) aNil))) (gT 2 (gsCons (gN 7) (gsCons (gN 8) gsNil))))
    (mSq (mSet 3 (mLc (mIA iRg1 (aCons (mA fLen (aCons (mVar 7) aNil)) aNil)) (gN 11) (mTru (mA (fP 2 m_law_hears) (aCons (mVar 8) (aCons (m2 fIx (mVar 7) (mVar 11)) aNil)))) (mVar 11) [11]))
    (mSq (mSet 4 (mC (.int 0)))
    (mSq (mFor (mSrc (mVar 7)) (gN 5) (mSq (mSet 4 (m2 fAdd (m2 fAdd (mVar 4) (mA fInt (aCons (mNotV (mA (fP 2 m_law_hears) (aCons (mC (.int 0)) (aCons (mVar 5) aNil)))) aNil))) (mA fInt (aCons (mNotV (mA (fP 2 m_law_hears) (aCons (mC (.int 1)) (aCons (mVar 5) aNil)))) aNil))))
    mNx))
    (mSq (mIfS (mNot (mTru (mA (fP 2 (m_law_alike 8)) (aCons (mA fLst (aCons (mA (fP 2 m_heard) (aCons (mVar 8) (aCons (mVar 7) aNil))) (aCons (mKw 0 2 [1, 0] (fP 2 m_heard) aNil (aCons (mVar 7) (aCons (mVar 8) aNil))) (aCons (mA (fP 1 m_lost) (aCons (mVar 7) aNil)) (aCons (mA (fP 1 m_turned_row) (aCons (mVar 7) aNil)) (aCons (mA (fP 1 m_is_row) (aCons (mVar 7) aNil)) aNil)))))) (aCons (mA fLst (aCons (mVar 3) (aCons (mVar 3) (aCons (mVar 4) (aCons (mA (fP 1 m_law_turned) (aCons (mVar 7) aNil)) (aCons (mC (.bl true)) aNil)))))) aNil))))) (mSq (mRetF (mC (.bl false)))
    mNx) mNx)
    (mSq (mIfS (mOr (m2 fNe (mA (fP 1 m_turned_row) (aCons (mKw 0 1 [0] (fP 1 m_turned_row) aNil (aCons (mVar 7) aNil)) aNil)) (mVar 7)) (m2 fNe (mA (fP 2 m_heard) (aCons (m2 fSub (mC (.int 1)) (mVar 8)) (aCons (mA (fP 1 m_turned_row) (aCons (mVar 7) aNil)) aNil))) (mVar 3))) (mSq (mRetF (mC (.bl false)))
    mNx) mNx)
    (mSq (mAs (mA fTup (aCons (mA (fS 2 m_law_of) (aCons (mVar 1) (aCons (mA fLst (aCons (mC (.str "a")) (aCons (m2 fAdd (mVar 7) (mC (.str "B"))) (aCons (mC .non) (aCons (mC (.int 3)) (aCons (mA fLst (aCons (mC (.str "b")) aNil)) (aCons (mC (.str "b l")) (aCons (mA fTup (aCons (mC (.str "b")) aNil)) aNil)))))))) aNil))) (aCons (mA (fS 2 m_law_of) (aCons (mVar 1) (aCons (mA fLst (aCons (mC (.int 2)) (aCons (m1 fNeg (mC (.int 1))) (aCons (mC .non) (aCons (mC (.bl true)) (aCons (mC (.str "0")) aNil)))))) aNil))) aNil))) (gT 2 (gsCons (gN 9) (gsCons (gN 10) gsNil))))
    (mSq (mSet 6 (mA fLst (aCons (mLam 0 LI_0 (C_law L) P) (aCons (mLam 1 LI_1 (C_law L) P) (aCons (mLam 2 LI_2 (C_law L) P) (aCons (mLam 3 LI_3 (C_law L) P) aNil))))))
    (mSq (mSet 3 (mA fLst (aCons (mA fTup (aCons (mC (.str "InvalidHand")) (aCons (mVar 10) aNil))) (aCons (mA fTup (aCons (mC (.str "InvalidRow")) (aCons (mVar 9) aNil))) (aCons (mA fTup (aCons (mC (.str "InvalidRow")) (aCons (mVar 9) aNil))) (aCons (mA fTup (aCons (mC (.str "InvalidRow")) (aCons (mVar 9) aNil))) aNil))))))
    (mSq (mIfS (mOr (mNot (mTru (mA (fP 2 (m_law_alike 8)) (aCons (mLend m_law_whys 1 (C_law L) ix_law (aCons (mVar 6) aNil)) (aCons (mVar 3) aNil))))) (m2 (fIs true) (mKw 0 1 [0] (fP 1 m_is_row) aNil (aCons (mVar 9) aNil)) (mC (.bl false)))) (mSq (mRetF (mC (.bl false)))
    mNx) mNx)
    mNx)))))))))))
    (mFz 1 (mSq (mRetF (mAndV (m2 fEq (mC t_SIGNS) (mC (.str "blnr"))) (mAndV (m2 fEq (mA (fP 2 m_heard) (aCons (mC (.int 0)) (aCons (mC (.str "")) aNil))) (mA fLst aNil)) (m2 fEq (mA (fP 1 m_lost) (aCons (mC (.str "nnn")) aNil)) (mC (.int 6))))))
    mNx)))))
abbrev FunAt (K : PySem.W.Frag) (mg : Str → Option Value) (x : Str) (st : Stmt) : Prop := ∃ (f : Addr) (fd : FuncData), FunD K x x (defArgs st) (defBody st) (defScope st) [] [] f fd ∧ mg x = some (.ref f)
structure Env (P : Program) (w : World) (base : Heap) (K : PySem.W.Frag) (mg : Str → Option Value) : Prop where
  f_all : mg "all" = none
  f_bool : mg "bool" = none
  f_enumerate : mg "enumerate" = none
  f_int : mg "int" = none
  f_isinstance : mg "isinstance" = none
  f_len : mg "len" = none
  f_list : mg "list" = none
  f_range : mg "range" = none
  f_str : mg "str" = none
  f_sum : mg "sum" = none
  f_tuple : mg "tuple" = none
  f_zip : mg "zip" = none
  d__law_alike : FunAt K mg "_law_alike" s__law_alike
  d__law_bag : FunAt K mg "_law_bag" s__law_bag
  d__law_draw : FunAt K mg "_law_draw" s__law_draw
  d__law_hears : FunAt K mg "_law_hears" s__law_hears
  d__law_of : FunAt K mg "_law_of" s__law_of
  d__law_row : FunAt K mg "_law_row" s__law_row
  d__law_turned : FunAt K mg "_law_turned" s__law_turned
  d__law_field : FunAt K mg "_law_field" s__law_field
  d_is_number : FunAt K mg "is_number" s_is_number
  d_is_within : FunAt K mg "is_within" s_is_within
  d_need_hand : FunAt K mg "need_hand" s_need_hand
  d_is_row : FunAt K mg "is_row" s_is_row
  d_need_row : FunAt K mg "need_row" s_need_row
  d_heard : FunAt K mg "heard" s_heard
  d_lost : FunAt K mg "lost" s_lost
  d_turned_signs : FunAt K mg "turned_signs" s_turned_signs
  d_turned_row : FunAt K mg "turned_row" s_turned_row
  d__law_why : FunAt K mg "_law_why" s__law_why
  d__law_whys : FunAt K mg "_law_whys" s__law_whys
  d_law : FunAt K mg "law" s_law
  g_HEARD : ∃ (v : V) (u : Value), mg "HEARD" = some u ∧ RelV v u ∧ ∀ g, Rep K mg g t_HEARD v
  g_SIGNS : ∃ (v : V) (u : Value), mg "SIGNS" = some u ∧ RelV v u ∧ ∀ g, Rep K mg g t_SIGNS v
  x_InvalidHand : HasE1 P w K mg base 1 "InvalidHand" "InvalidHand" "given"
  x_InvalidRow : HasE1 P w K mg base 1 "InvalidRow" "InvalidRow" "given"
  xf_given : FldX K mg xs_given "given"
  xf_tag : FldX K mg xs_tag "tag"
  c_PostError : mg "PostError" = some (.ref (He.ga K "PostError"))
  c_Missing : mg "Missing" = some (.ref (He.ga K "Missing"))
  c_NothingLeft : mg "NothingLeft" = some (.ref (He.ga K "NothingLeft"))
  ex3 : Exm3 K mg "PostError" "Missing" "NothingLeft" ct_why
  cl : ∀ f, mg "law" = some (.ref f) → CodeAt K f (He.cT K ("law", none)).1
  kd_LOST : KdAt K w mg "LOST" kt_LOST
  kd_TURNED : KdAt K w mg "TURNED" kt_TURNED
section
variable {P : Program} {w : World} {K : PySem.W.Frag} {mg : Str → Option Value} {base : Heap}
theorem ok__law_alike (Y : Env P w base K mg) (n : Nat) : Has P w K mg base (1 + n) "_law_alike" "_law_alike" s__law_alike ["_law_found", "_law_due"] (m_law_alike n) := by
  induction n with
  | zero =>
    obtain ⟨f, fd, F, hm⟩ := Y.d__law_alike
    exact ⟨f, fd, F, hm, fnOk_stuck F sc__law_alike⟩
  | succ n ih =>
    obtain ⟨f, fd, F, hm⟩ := Y.d__law_alike
    refine ⟨f, fd, F, hm, def_ok2 F sc__law_alike rfl fun cdv A outer s H E hr tk po => ?_⟩
    have nd := sc__law_alike.nd
    exact (sss_cons (ss_if (sw_st (sw_or (st_cmp op_isV mIsV blIs (se_var (i := 1)) se_non (nomark _)) (sw_or1 (st_cmp op_isV mIsV blIs (se_var (i := 0)) se_non (nomark _))))) (sss_cons (ss_retF (se_and (se_cmp op_isV mIsV (se_var (i := 1)) se_non (nomark _)) (se_one (se_cmp op_isV mIsV (se_var (i := 0)) se_non (nomark _)))))
      sss_nil) sss_nil)
      (sss_cons (ss_for po rfl (si_src (se_tup (sa_cons se_int (sa_cons se_int (sa_cons se_int sa_nil))))) (sg_name (i := 2) nd) (sss_cons (ss_if (sw_st (sw_and (st_cmp (op_eqA hr.units) mEqV blEq (se_var (i := 2)) se_int (nomark _)) (sw_and1 (sw_st (sw_or (st_val (se_isi .bl Y.f_isinstance Y.f_bool (se_var (i := 1)))) (sw_or1 (st_val (se_isi .bl Y.f_isinstance Y.f_bool (se_var (i := 0)))))))))) (sss_cons (ss_retF (se_and (se_isi .bl Y.f_isinstance Y.f_bool (se_var (i := 1))) (se_and (se_isi .bl Y.f_isinstance Y.f_bool (se_var (i := 0))) (se_one (se_cmp (op_eqA hr.units) mEqV (se_var (i := 0)) (se_var (i := 1)) (nomark _))))))
      sss_nil) sss_nil)
      (sss_cons (ss_if (sw_st (sw_and (st_cmp (op_eqA hr.units) mEqV blEq (se_var (i := 2)) se_int (nomark _)) (sw_and1 (sw_st (sw_or (st_val (se_isi .str Y.f_isinstance Y.f_str (se_var (i := 1)))) (sw_or1 (st_val (se_isi .str Y.f_isinstance Y.f_str (se_var (i := 0)))))))))) (sss_cons (ss_retF (se_and (se_isi .str Y.f_isinstance Y.f_str (se_var (i := 1))) (se_and (se_isi .str Y.f_isinstance Y.f_str (se_var (i := 0))) (se_one (se_cmp (op_eqA hr.units) mEqV (se_var (i := 0)) (se_var (i := 1)) (nomark _))))))
      sss_nil) sss_nil)
      (sss_cons (ss_if (sw_st (sw_and (st_cmp (op_eqA hr.units) mEqV blEq (se_var (i := 2)) se_int (nomark _)) (sw_and1 (sw_st (sw_or (st_val (se_isi .int Y.f_isinstance Y.f_int (se_var (i := 1)))) (sw_or1 (st_val (se_isi .int Y.f_isinstance Y.f_int (se_var (i := 0)))))))))) (sss_cons (ss_retF (se_and (se_isi .int Y.f_isinstance Y.f_int (se_var (i := 1))) (se_and (se_isi .int Y.f_isinstance Y.f_int (se_var (i := 0))) (se_one (se_cmp (op_eqA hr.units) mEqV (se_var (i := 0)) (se_var (i := 1)) (nomark _))))))
      sss_nil) sss_nil)
      sss_nil))))
      (sss_cons (ss_if (sw_st (sw_or (st_cmp (op_neA hr.units) mNeV blNe (se_isi .tup Y.f_isinstance Y.f_tuple (se_var (i := 1))) (se_isi .tup Y.f_isinstance Y.f_tuple (se_var (i := 0))) (nomark _)) (sw_or1 (st_cmp (op_neA hr.units) mNeV blNe (se_isi .lst Y.f_isinstance Y.f_list (se_var (i := 1))) (se_isi .lst Y.f_isinstance Y.f_list (se_var (i := 0))) (nomark _))))) (sss_cons (ss_retF se_bl)
      sss_nil) sss_nil)
      (sss_cons (ss_retF (se_and (se_cmp (op_eqA hr.units) mEqV (se_callB call_lenAll mLen Y.f_len (sa_cons (se_var (i := 0)) sa_nil)) (se_callB call_lenAll mLen Y.f_len (sa_cons (se_var (i := 1)) sa_nil)) (nomark _)) (se_one (se_callB (cr_all rfl) mAll Y.f_all (sa_cons (se_lc (own := [("_law_one", 3), ("_law_two", 4)]) rfl nd (si_zip Y.f_zip (sa_cons (se_var (i := 0)) (sa_cons (se_var (i := 1)) sa_nil))) (blkOk_at (N := N__law_alike) (sc := (defScope s__law_alike)) rfl rfl (by decide +kernel)) rfl (fun _ _ _ _ _ => (sg_tup rfl (sgs_cons (sg_name (i := 3) nd) (sgs_cons (sg_name (i := 4) nd) sgs_nil)))) (fun _ _ _ _ _ => sts_nil) (fun _ _ _ _ _ => (se_hcall ih hr takes0 calls_pu b__law_alike (sa_cons (se_var (i := 3)) (sa_cons (se_var (i := 4)) sa_nil))))) sa_nil)))))
      sss_nil))))
theorem ok__law_bag (Y : Env P w base K mg) : Has P w K mg base 1 "_law_bag" "_law_bag" s__law_bag ["_law_script"] m_law_bag := by
  obtain ⟨f, fd, F, hm⟩ := Y.d__law_bag
  refine ⟨f, fd, F, hm, def_ok2 (k := 0) F sc__law_bag rfl fun cdv A outer s H E hr tk po => ?_⟩
  have nd := sc__law_bag.nd
  exact (sss_cons (ss_set (i := 1) nd (se_callTy call_list_of mList Y.f_list (sa_cons (se_slice (se_var (i := 0)) so_none (so_some se_int) part_none part_some) sa_nil)))
    (sss_cons (ss_set (i := 2) nd (se_op op_addV mAddV se_int (se_op op_mulV mMulV se_int (se_callB call_lenAll mLen Y.f_len (sa_cons (se_var (i := 1)) sa_nil)))))
    (sss_cons (ss_for po rfl (si_src (se_var (i := 1))) (sg_name (i := 3) nd) (sss_cons (ss_set (i := 2) nd (se_op op_mod mModV (se_callTy call_intAll mInt Y.f_int (sa_cons (se_op op_addV mAddV (se_op op_addV mAddV (se_op op_mulV mMulV (se_var (i := 2)) se_int) (se_op op_mod mModV (se_callTy call_intAll mInt Y.f_int (sa_cons (se_var (i := 3)) sa_nil)) se_int)) se_int) sa_nil)) se_int))
    sss_nil))
    (sss_cons (ss_ret (se_lstN (sa_cons (se_var (i := 1)) (sa_cons se_int (sa_cons se_int (sa_cons (se_var (i := 2)) sa_nil))))))
    sss_nil))))
theorem ok__law_draw (Y : Env P w base K mg) : Has P w K mg base 1 "_law_draw" "_law_draw" s__law_draw ["_law_bag_here", "_law_many"] m_law_draw := by
  obtain ⟨f, fd, F, hm⟩ := Y.d__law_draw
  refine ⟨f, fd, F, hm, def_ok2 (k := 0) F sc__law_draw rfl fun cdv A outer s H E hr tk po => ?_⟩
  have nd := sc__law_draw.nd
  exact (sss_cons (ss_if (sw_st (sw_and (st_cmp (op_eqA hr.units) mEqV blEq (se_ix (se_var (i := 0)) se_int) se_int (nomark _)) (sw_and1 (st_cmp op_ltV mLtV blLt (se_ix (se_var (i := 0)) se_int) (se_callB call_lenAll mLen Y.f_len (sa_cons (se_ix (se_var (i := 0)) se_int) sa_nil)) (nomark _))))) (sss_cons (ss_set (i := 2) nd (se_ix (se_ix (se_var (i := 0)) se_int) (se_ix (se_var (i := 0)) se_int)))
    (sss_cons (ss_asg (se_op op_addV mAddV (se_ix (se_var (i := 0)) se_int) se_int) (sg_sub (se_var (i := 0)) se_int))
    (sss_cons (ss_if (st_cmp op_geV mGeV blGe (se_var (i := 2)) (se_op op_pow mPowV se_int se_int) (nomark _)) (sss_cons (ss_asg (se_var (i := 2)) (sg_sub (se_var (i := 0)) se_int))
    sss_nil) (sss_cons (ss_set (i := 4) nd (se_op op_addV mAddV (se_op op_mulV mMulV (se_ix (se_var (i := 0)) se_int) se_int) (se_op op_mod mModV (se_callTy call_intAll mInt Y.f_int (sa_cons (se_var (i := 2)) sa_nil)) se_int)))
    (sss_cons (ss_asg (se_op op_mod mModV (se_callTy call_intAll mInt Y.f_int (sa_cons (se_op op_addV mAddV (se_var (i := 4)) (se_ix (se_var (i := 0)) se_int)) sa_nil)) se_int) (sg_sub (se_var (i := 0)) se_int))
    sss_nil)))
    sss_nil))) sss_nil)
    (sss_cons (ss_if (st_cmp op_gtV mGtV blGt (se_ix (se_var (i := 0)) se_int) se_int (nomark _)) (sss_cons (ss_set (i := 3) nd (se_op op_mod mModV (se_callTy call_intAll mInt Y.f_int (sa_cons (se_ix (se_var (i := 0)) se_int) sa_nil)) (se_var (i := 1))))
    (sss_cons (ss_asg (se_op op_fdiv mFdivV (se_ix (se_var (i := 0)) se_int) (se_var (i := 1))) (sg_sub (se_var (i := 0)) se_int))
    (sss_cons (ss_retF (se_var (i := 3)))
    sss_nil))) sss_nil)
    (sss_cons (ss_asg (se_op op_mod mModV (se_callTy call_intAll mInt Y.f_int (sa_cons (se_op op_addV mAddV (se_op op_mulV mMulV (se_ix (se_var (i := 0)) se_int) se_int) se_int) sa_nil)) se_int) (sg_sub (se_var (i := 0)) se_int))
    (sss_cons (ss_retF (se_op op_mod mModV (se_callTy call_intAll mInt Y.f_int (sa_cons (se_op op_fdiv mFdivV (se_op op_mod mModV (se_callTy call_intAll mInt Y.f_int (sa_cons (se_op op_mulV mMulV (se_ix (se_var (i := 0)) se_int) (se_ix (se_var (i := 0)) se_int)) sa_nil)) se_int) se_int) sa_nil)) (se_var (i := 1))))
    sss_nil))))
theorem ok__law_hears (Y : Env P w base K mg) : Has P w K mg base 1 "_law_hears" "_law_hears" s__law_hears ["_law_my_hand", "_law_sign"] m_law_hears := by
  obtain ⟨f, fd, F, hm⟩ := Y.d__law_hears
  refine ⟨f, fd, F, hm, def_ok2 (k := 0) F sc__law_hears rfl fun cdv A outer s H E hr tk po => ?_⟩
  have nd := sc__law_hears.nd
  exact (sss_cons (ss_retF (se_cmp (op_inV (hu65 hr)) mInV (se_var (i := 1)) (se_ix (se_lst (sa_cons se_str (sa_cons se_str sa_nil))) (se_var (i := 0))) (by with_unfolding_all rfl)))
    sss_nil)
theorem ok__law_of (Y : Env P w base K mg) : Has P w K mg base 2 "_law_of" "_law_of" s__law_of ["_law_bag_here", "_law_things"] m_law_of := by
  have H__law_draw := (ok__law_draw (P := P) (w := w) (base := base) Y).up (k := 1) (by omega)
  obtain ⟨f, fd, F, hm⟩ := Y.d__law_of
  refine ⟨f, fd, F, hm, def_ok2 (k := 1) F sc__law_of rfl fun cdv A outer s H E hr tk po => ?_⟩
  have nd := sc__law_of.nd
  exact (sss_cons (ss_retF (se_ix (se_var (i := 1)) (se_hcall H__law_draw hr tk calls_st b__law_draw (sa_cons (se_var (i := 0)) (sa_cons (se_callB call_lenAll mLen Y.f_len (sa_cons (se_var (i := 1)) sa_nil)) sa_nil)))))
    sss_nil)
theorem ok__law_row (Y : Env P w base K mg) : Has P w K mg base 3 "_law_row" "_law_row" s__law_row ["_law_bag_here", "_law_most", "_law_signs"] m_law_row := by
  have H__law_draw := (ok__law_draw (P := P) (w := w) (base := base) Y).up (k := 2) (by omega)
  have H__law_of := (ok__law_of (P := P) (w := w) (base := base) Y).up (k := 2) (by omega)
  obtain ⟨f, fd, F, hm⟩ := Y.d__law_row
  refine ⟨f, fd, F, hm, def_ok2 (k := 2) F sc__law_row rfl fun cdv A outer s H E hr tk po => ?_⟩
  have nd := sc__law_row.nd
  exact (sss_cons (ss_retF (se_bm PySem.F.plainAttrs_str PySem.F.slot_str_join PySem.F.type_str_join mt_join meJoin se_str (sa_cons (se_lc (own := [("_law_place", 3)]) rfl nd (si_range1 Y.f_range (sa_cons (se_hcall H__law_draw hr tk calls_st b__law_draw (sa_cons (se_var (i := 0)) (sa_cons (se_op op_addV mAddV (se_var (i := 1)) se_int) sa_nil))) sa_nil)) (blkOk_at (N := N__law_row) (sc := (defScope s__law_row)) rfl rfl (by decide +kernel)) rfl (fun _ _ _ _ _ => (sg_name (i := 3) nd)) (fun _ _ _ _ _ => sts_nil) (fun _ _ _ _ _ => (se_hcall H__law_of hr takes0 calls_st b__law_of (sa_cons (se_var (i := 0)) (sa_cons (se_var (i := 2)) sa_nil))))) sa_nil)))
    sss_nil)
theorem ok__law_turned (Y : Env P w base K mg) : Has P w K mg base 1 "_law_turned" "_law_turned" s__law_turned ["_law_my_row"] m_law_turned := by
  obtain ⟨f, fd, F, hm⟩ := Y.d__law_turned
  refine ⟨f, fd, F, hm, def_ok2 (k := 0) F sc__law_turned rfl fun cdv A outer s H E hr tk po => ?_⟩
  have nd := sc__law_turned.nd
  exact (sss_cons (ss_retF (se_bm PySem.F.plainAttrs_str PySem.F.slot_str_join PySem.F.type_str_join mt_join meJoin se_str (sa_cons (se_lc (own := [("_law_sign", 1)]) rfl nd (si_src (se_var (i := 0))) (blkOk_at (N := N__law_turned) (sc := (defScope s__law_turned)) rfl rfl (by decide +kernel)) rfl (fun _ _ _ _ _ => (sg_name (i := 1) nd)) (fun _ _ _ _ _ => sts_nil) (fun _ _ _ _ _ => (se_ix se_str (se_bm PySem.F.plainAttrs_str PySem.F.slot_str_index PySem.F.type_str_index mt_indexS meIndexS se_str (sa_cons (se_var (i := 1)) sa_nil))))) sa_nil)))
    sss_nil)
theorem okN__law_field (Y : Env P w base K mg) : HasN P w K mg base 1 "_law_field" "_law_field" s__law_field ["_law_e"] m_law_field := by
  obtain ⟨f, fd, F, hm⟩ := Y.d__law_field
  refine ⟨f, fd, F, hm, def_okN (k := 0) F sc__law_field rfl fun cdv A outer s H E hr => ?_⟩
  have nd := sc__law_field.nd
  exact (sss_cons (ss_if (st_cmp (op_inV (hu65N hr)) mInV blIn (se_fldX Y.xf_tag (se_var (i := 0))) (se_lst (sa_cons se_str (sa_cons se_str sa_nil))) (by with_unfolding_all rfl)) (sss_cons (ss_retF se_stk)
    sss_nil) sss_nil)
    (sss_cons (ss_if (st_cmp (op_inV (hu65N hr)) mInV blIn (se_fldX Y.xf_tag (se_var (i := 0))) (se_lst (sa_cons se_str (sa_cons se_str sa_nil))) (by with_unfolding_all rfl)) (sss_cons (ss_retF se_stk)
    sss_nil) sss_nil)
    (sss_cons (ss_if (st_cmp (op_eqA (unN hr)) mEqV blEq (se_fldX Y.xf_tag (se_var (i := 0))) se_str (nomark _)) (sss_cons (ss_retF se_stk)
    sss_nil) sss_nil)
    (sss_cons (ss_if (st_cmp (op_inV (hu65N hr)) mInV blIn (se_fldX Y.xf_tag (se_var (i := 0))) (se_lst (sa_cons se_str (sa_cons se_str (sa_cons se_str (sa_cons se_str sa_nil))))) (by with_unfolding_all rfl)) (sss_cons (ss_retF se_stk)
    sss_nil) sss_nil)
    (sss_cons (ss_if (st_cmp (op_eqA (unN hr)) mEqV blEq (se_fldX Y.xf_tag (se_var (i := 0))) se_str (nomark _)) (sss_cons (ss_retF se_stk)
    sss_nil) sss_nil)
    (sss_cons (ss_if (st_cmp (op_eqA (unN hr)) mEqV blEq (se_fldX Y.xf_tag (se_var (i := 0))) se_str (nomark _)) (sss_cons (ss_retF se_stk)
    sss_nil) sss_nil)
    (sss_cons (ss_if (st_cmp (op_eqA (unN hr)) mEqV blEq (se_fldX Y.xf_tag (se_var (i := 0))) se_str (nomark _)) (sss_cons (ss_retF se_stk)
    sss_nil) sss_nil)
    (sss_cons (ss_set (i := 1) nd (se_lst (sa_cons se_str (sa_cons se_str (sa_cons se_str (sa_cons se_str (sa_cons se_str (sa_cons se_str (sa_cons se_str (sa_cons se_str sa_nil))))))))))
    (sss_cons (ss_retF (se_if (st_cmp (op_inV (hu65N hr)) mInV blIn (se_fldX Y.xf_tag (se_var (i := 0))) (se_var (i := 1)) (by with_unfolding_all rfl)) se_non (se_fldX Y.xf_given (se_var (i := 0)))))
    sss_nil)))))))))
theorem ok_is_number (Y : Env P w base K mg) : Has P w K mg base 1 "is_number" "is_number" s_is_number ["value"] m_is_number := by
  obtain ⟨f, fd, F, hm⟩ := Y.d_is_number
  refine ⟨f, fd, F, hm, def_ok2 (k := 0) F sc_is_number rfl fun cdv A outer s H E hr tk po => ?_⟩
  have nd := sc_is_number.nd
  exact (sss_cons (ss_retF (se_and (se_isi .int Y.f_isinstance Y.f_int (se_var (i := 0))) (se_one (se_not (se_isi .bl Y.f_isinstance Y.f_bool (se_var (i := 0)))))))
    sss_nil)
theorem ok_is_within (Y : Env P w base K mg) : Has P w K mg base 2 "is_within" "is_within" s_is_within ["value", "least", "most"] m_is_within := by
  have H_is_number := (ok_is_number (P := P) (w := w) (base := base) Y).up (k := 1) (by omega)
  obtain ⟨f, fd, F, hm⟩ := Y.d_is_within
  refine ⟨f, fd, F, hm, def_ok2 (k := 1) F sc_is_within rfl fun cdv A outer s H E hr tk po => ?_⟩
  have nd := sc_is_within.nd
  exact (sss_cons (ss_retF (se_and (se_hcall H_is_number hr tk calls_pu b_is_number (sa_cons (se_var (i := 0)) sa_nil)) (se_one (se_chain op_leV mLeV blLe op_leV mLeV (se_var (i := 1)) (se_var (i := 0)) (se_var (i := 2))))))
    sss_nil)
theorem ok_need_hand (Y : Env P w base K mg) : Has P w K mg base 3 "need_hand" "need_hand" s_need_hand ["hand"] m_need_hand := by
  have X_InvalidHand := Y.x_InvalidHand.up (k := 2 - 1) (by omega)
  have H_is_within := (ok_is_within (P := P) (w := w) (base := base) Y).up (k := 2) (by omega)
  obtain ⟨f, fd, F, hm⟩ := Y.d_need_hand
  refine ⟨f, fd, F, hm, def_ok2 (k := 2) F sc_need_hand rfl fun cdv A outer s H E hr tk po => ?_⟩
  have nd := sc_need_hand.nd
  exact (sss_cons (ss_if (st_not (st_val (se_hcall H_is_within hr tk calls_pu b_is_within (sa_cons (se_var (i := 0)) (sa_cons se_int (sa_cons se_int sa_nil)))))) (sss_cons (ss_raise1 X_InvalidHand hr rfl tk (se_var (i := 0)))
    sss_nil) sss_nil)
    sss_nil)
theorem ok_is_row (Y : Env P w base K mg) : Has P w K mg base 1 "is_row" "is_row" s_is_row ["value"] m_is_row := by
  obtain ⟨v_SIGNS, u_SIGNS, h_SIGNS⟩ := Y.g_SIGNS
  obtain ⟨f, fd, F, hm⟩ := Y.d_is_row
  refine ⟨f, fd, F, hm, def_ok2 (k := 0) F sc_is_row rfl fun cdv A outer s H E hr tk po => ?_⟩
  have nd := sc_is_row.nd
  exact (sss_cons (ss_retF (se_and (se_isi .str Y.f_isinstance Y.f_str (se_var (i := 0))) (se_one (se_callB (cr_all rfl) mAll Y.f_all (sa_cons (se_lc (own := [("sign", 1)]) rfl nd (si_src (se_var (i := 0))) (blkOk_at (N := N_is_row) (sc := (defScope s_is_row)) rfl rfl (by decide +kernel)) rfl (fun _ _ _ _ _ => (sg_name (i := 1) nd)) (fun _ _ _ _ _ => sts_nil) (fun _ _ _ _ _ => (se_cmp (op_inV (hu65 hr)) mInV (se_var (i := 1)) (se_glob h_SIGNS.1 h_SIGNS.2.1 h_SIGNS.2.2) (by with_unfolding_all rfl)))) sa_nil)))))
    sss_nil)
theorem ok_need_row (Y : Env P w base K mg) : Has P w K mg base 3 "need_row" "need_row" s_need_row ["row"] m_need_row := by
  have X_InvalidRow := Y.x_InvalidRow.up (k := 2 - 1) (by omega)
  have H_is_row := (ok_is_row (P := P) (w := w) (base := base) Y).up (k := 2) (by omega)
  obtain ⟨f, fd, F, hm⟩ := Y.d_need_row
  refine ⟨f, fd, F, hm, def_ok2 (k := 2) F sc_need_row rfl fun cdv A outer s H E hr tk po => ?_⟩
  have nd := sc_need_row.nd
  exact (sss_cons (ss_if (st_not (st_val (se_hcall H_is_row hr tk calls_pu b_is_row (sa_cons (se_var (i := 0)) sa_nil)))) (sss_cons (ss_raise1 X_InvalidRow hr rfl tk (se_var (i := 0)))
    sss_nil) sss_nil)
    sss_nil)
theorem ok_heard (Y : Env P w base K mg) : Has P w K mg base 4 "heard" "heard" s_heard ["hand", "row"] m_heard := by
  obtain ⟨v_HEARD, u_HEARD, h_HEARD⟩ := Y.g_HEARD
  have H_need_hand := (ok_need_hand (P := P) (w := w) (base := base) Y).up (k := 3) (by omega)
  have H_need_row := (ok_need_row (P := P) (w := w) (base := base) Y).up (k := 3) (by omega)
  obtain ⟨f, fd, F, hm⟩ := Y.d_heard
  refine ⟨f, fd, F, hm, def_ok2 (k := 3) F sc_heard rfl fun cdv A outer s H E hr tk po => ?_⟩
  have nd := sc_heard.nd
  exact (sss_cons (ss_expr (se_hcall H_need_hand hr tk calls_pu b_need_hand (sa_cons (se_var (i := 0)) sa_nil)))
    (sss_cons (ss_expr (se_hcall H_need_row hr tk calls_pu b_need_row (sa_cons (se_var (i := 1)) sa_nil)))
    (sss_cons (ss_retF (se_lc (own := [("at", 2), ("sign", 3)]) rfl nd (si_enum Y.f_enumerate (sa_cons (se_var (i := 1)) sa_nil)) (blkOk_at (N := N_heard) (sc := (defScope s_heard)) rfl rfl (by decide +kernel)) rfl (fun _ _ _ _ _ => (sg_tup rfl (sgs_cons (sg_name (i := 2) nd) (sgs_cons (sg_name (i := 3) nd) sgs_nil)))) (fun _ _ _ _ _ => (sts_one (st_cmp (op_inV (hu65 hr)) mInV blIn (se_var (i := 3)) (se_ix (se_glob h_HEARD.1 h_HEARD.2.1 h_HEARD.2.2) (se_var (i := 0))) (by with_unfolding_all rfl)))) (fun _ _ _ _ _ => (se_var (i := 2)))))
    sss_nil)))
theorem ok_lam_0 (Y : Env P w base K mg) : LOk P w K mg base 5 LE_0 := by
  have H_heard := (ok_heard (P := P) (w := w) (base := base) Y).up (k := 4) (by omega)
  refine lok_of (k := 4) (N := N_lam_0) (ps := []) (np := 0) (me := ml_0) (NdefX.nscope_by (by decide +kernel)) rfl (.inl ⟨rfl, rfl, fun _ _ _ _ => rfl⟩) rfl fun f c1 C A outer s H E hr tk => ?_
  have nd : (N_lam_0).Nodup := by decide +kernel
  exact (se_hcall H_heard hr tk calls_pu b_heard (sa_cons (se_var (i := 0)) (sa_cons (se_var (i := 1)) sa_nil)))
theorem ok_lam_1 (Y : Env P w base K mg) : LOk P w K mg base 5 LE_1 := by
  have H_heard := (ok_heard (P := P) (w := w) (base := base) Y).up (k := 4) (by omega)
  refine lok_of (k := 4) (N := N_lam_1) (ps := ["_law_a"]) (np := 1) (me := ml_1) (NdefX.nscope_by (by decide +kernel)) rfl (.inr ⟨rfl, "_law_a", rfl, fun _ _ _ _ _ _ => ⟨_, rfl, rfl⟩⟩) rfl fun f c1 C A outer s H E hr tk => ?_
  have nd : (N_lam_1).Nodup := by decide +kernel
  exact (se_hcall H_heard hr tk calls_pu b_heard (sa_cons se_int (sa_cons (se_var (i := 1)) sa_nil)))
theorem ok_lost (Y : Env P w base K mg) : Has P w K mg base 4 "lost" "lost" s_lost ["row"] m_lost := by
  have H_need_row := (ok_need_row (P := P) (w := w) (base := base) Y).up (k := 3) (by omega)
  obtain ⟨f, fd, F, hm⟩ := Y.d_lost
  refine ⟨f, fd, F, hm, def_ok2 (k := 3) F sc_lost rfl fun cdv A outer s H E hr tk po => ?_⟩
  have nd := sc_lost.nd
  exact (sss_cons (ss_expr (se_hcall H_need_row hr tk calls_pu b_need_row (sa_cons (se_var (i := 0)) sa_nil)))
    (sss_cons (ss_retF (se_callB (cr_sum rfl) mSum Y.f_sum (sa_cons (se_lc (own := [("sign", 1)]) rfl nd (si_src (se_var (i := 0))) (blkOk_at (N := N_lost) (sc := (defScope s_lost)) rfl rfl (by decide +kernel)) rfl (fun _ _ _ _ _ => (sg_name (i := 1) nd)) (fun _ _ _ _ _ => sts_nil) (fun _ _ _ _ _ => (se_kd Y.kd_LOST (se_var (i := 1))))) sa_nil)))
    sss_nil))
theorem ok_lam_2 (Y : Env P w base K mg) : LOk P w K mg base 5 LE_2 := by
  have H_lost := (ok_lost (P := P) (w := w) (base := base) Y).up (k := 4) (by omega)
  refine lok_of (k := 4) (N := N_lam_2) (ps := ["_law_b"]) (np := 1) (me := ml_2) (NdefX.nscope_by (by decide +kernel)) rfl (.inr ⟨rfl, "_law_b", rfl, fun _ _ _ _ _ _ => ⟨_, rfl, rfl⟩⟩) rfl fun f c1 C A outer s H E hr tk => ?_
  have nd : (N_lam_2).Nodup := by decide +kernel
  exact (se_hcall H_lost hr tk calls_pu b_lost (sa_cons (se_var (i := 1)) sa_nil))
theorem ok_turned_signs (Y : Env P w base K mg) : Has P w K mg base 1 "turned_signs" "turned_signs" s_turned_signs ["row"] m_turned_signs := by
  obtain ⟨f, fd, F, hm⟩ := Y.d_turned_signs
  refine ⟨f, fd, F, hm, def_ok2 (k := 0) F sc_turned_signs rfl fun cdv A outer s H E hr tk po => ?_⟩
  have nd := sc_turned_signs.nd
  exact (sss_cons (ss_retF (se_bm PySem.F.plainAttrs_str PySem.F.slot_str_join PySem.F.type_str_join mt_join meJoin se_str (sa_cons (se_lc (own := [("sign", 1)]) rfl nd (si_src (se_var (i := 0))) (blkOk_at (N := N_turned_signs) (sc := (defScope s_turned_signs)) rfl rfl (by decide +kernel)) rfl (fun _ _ _ _ _ => (sg_name (i := 1) nd)) (fun _ _ _ _ _ => sts_nil) (fun _ _ _ _ _ => (se_kd Y.kd_TURNED (se_var (i := 1))))) sa_nil)))
    sss_nil)
theorem ok_turned_row (Y : Env P w base K mg) : Has P w K mg base 4 "turned_row" "turned_row" s_turned_row ["row"] m_turned_row := by
  have H_need_row := (ok_need_row (P := P) (w := w) (base := base) Y).up (k := 3) (by omega)
  have H_turned_signs := (ok_turned_signs (P := P) (w := w) (base := base) Y).up (k := 3) (by omega)
  obtain ⟨f, fd, F, hm⟩ := Y.d_turned_row
  refine ⟨f, fd, F, hm, def_ok2 (k := 3) F sc_turned_row rfl fun cdv A outer s H E hr tk po => ?_⟩
  have nd := sc_turned_row.nd
  exact (sss_cons (ss_expr (se_hcall H_need_row hr tk calls_pu b_need_row (sa_cons (se_var (i := 0)) sa_nil)))
    (sss_cons (ss_retF (se_hcall H_turned_signs hr tk calls_pu b_turned_signs (sa_cons (se_var (i := 0)) sa_nil)))
    sss_nil))
theorem ok_lam_3 (Y : Env P w base K mg) : LOk P w K mg base 5 LE_3 := by
  have H_turned_row := (ok_turned_row (P := P) (w := w) (base := base) Y).up (k := 4) (by omega)
  refine lok_of (k := 4) (N := N_lam_3) (ps := ["_law_c"]) (np := 1) (me := ml_3) (NdefX.nscope_by (by decide +kernel)) rfl (.inr ⟨rfl, "_law_c", rfl, fun _ _ _ _ _ _ => ⟨_, rfl, rfl⟩⟩) rfl fun f c1 C A outer s H E hr tk => ?_
  have nd : (N_lam_3).Nodup := by decide +kernel
  exact (se_hcall H_turned_row hr tk calls_pu b_turned_row (sa_cons (se_var (i := 1)) sa_nil))
theorem ok__law_why (Y : Env P w base K mg) : Has P w K mg base 6 "_law_why" "_law_why" s__law_why ["_law_ask"] m_law_why := by
  have N__law_field_ok := (okN__law_field (P := P) (w := w) (base := base) Y).up (k := 5) (by omega)
  have T_lam : ∀ e ∈ tabL, LOk P w K mg base 5 e := by
    unfold tabL
    simp only [List.forall_mem_cons]
    exact ⟨(ok_lam_0 (P := P) (w := w) (base := base) Y).up (by omega), (ok_lam_1 (P := P) (w := w) (base := base) Y).up (by omega), (ok_lam_2 (P := P) (w := w) (base := base) Y).up (by omega), (ok_lam_3 (P := P) (w := w) (base := base) Y).up (by omega), fun _ h => absurd h (by simp)⟩
  obtain ⟨f, fd, F, hm⟩ := Y.d__law_why
  refine ⟨f, fd, F, hm, def_ok2 (k := 5) F sc__law_why rfl fun cdv A outer s H E hr tk po => ?_⟩
  have nd := sc__law_why.nd
  exact (sss_cons (ss_try3 (i := 1) rfl rfl rfl nd rfl rfl Y.c_PostError Y.c_Missing Y.c_NothingLeft Y.ex3 tk (fun W pn xe tk => (sss_cons (ss_retF (se_tup (sa_cons se_str (sa_cons (se_act (i := 0) T_lam hr tk) sa_nil))))
    sss_nil)) (fun a pn => (sss_cons (ss_retF (se_tup (sa_cons (se_fldX Y.xf_tag (se_var (i := 1))) (sa_cons (se_ncall N__law_field_ok (roomN hr _) calls_pu b__law_field (sa_cons (se_var (i := 1)) sa_nil)) sa_nil))))
    sss_nil)))
    sss_nil)
theorem ok__law_whys (Y : Env P w base K mg) : Has P w K mg base 7 "_law_whys" "_law_whys" s__law_whys ["_law_asks"] m_law_whys := by
  have H__law_why := (ok__law_why (P := P) (w := w) (base := base) Y).up (k := 6) (by omega)
  obtain ⟨f, fd, F, hm⟩ := Y.d__law_whys
  refine ⟨f, fd, F, hm, def_ok2 (k := 6) F sc__law_whys rfl fun cdv A outer s H E hr tk po => ?_⟩
  have nd := sc__law_whys.nd
  exact (sss_cons (ss_retF (se_lc (own := [("_law_ask", 1)]) rfl nd (si_src (se_var (i := 0))) (blkOk_at (N := N__law_whys) (sc := (defScope s__law_whys)) rfl rfl (by decide +kernel)) rfl (fun _ _ _ _ _ => (sg_name (i := 1) nd)) (fun _ _ _ _ _ => sts_nil) (fun _ _ _ _ _ => (se_hcall H__law_why hr takes0 calls_st b__law_why (sa_cons (se_var (i := 1)) sa_nil)))))
    sss_nil)
theorem ok_law (Y : Env P w base K mg) (TB : LamX.TabB base mg (He.cT K ("law", none)).1 (He.cT K ("law", none)).2) : HasL P w K mg base 10 "law" "law" s_law ["_law_script"] (m_law (He.cT K ("law", none)).2) := by
  obtain ⟨v_SIGNS, u_SIGNS, h_SIGNS⟩ := Y.g_SIGNS
  have H__law_alike := (ok__law_alike (P := P) (w := w) (base := base) Y 8).up (k := 9) (by omega)
  have H__law_bag := (ok__law_bag (P := P) (w := w) (base := base) Y).up (k := 9) (by omega)
  have H__law_draw := (ok__law_draw (P := P) (w := w) (base := base) Y).up (k := 9) (by omega)
  have H__law_hears := (ok__law_hears (P := P) (w := w) (base := base) Y).up (k := 9) (by omega)
  have H__law_of := (ok__law_of (P := P) (w := w) (base := base) Y).up (k := 9) (by omega)
  have H__law_row := (ok__law_row (P := P) (w := w) (base := base) Y).up (k := 9) (by omega)
  have H__law_turned := (ok__law_turned (P := P) (w := w) (base := base) Y).up (k := 9) (by omega)
  have H__law_whys := (ok__law_whys (P := P) (w := w) (base := base) Y).up (k := 9) (by omega)
  have H_heard := (ok_heard (P := P) (w := w) (base := base) Y).up (k := 9) (by omega)
  have H_is_row := (ok_is_row (P := P) (w := w) (base := base) Y).up (k := 9) (by omega)
  have H_lost := (ok_lost (P := P) (w := w) (base := base) Y).up (k := 9) (by omega)
  have H_turned_row := (ok_turned_row (P := P) (w := w) (base := base) Y).up (k := 9) (by omega)
  obtain ⟨f, fd, F, hm⟩ := Y.d_law
  refine ⟨f, fd, F, hm, def_okL (k := 9) F (Y.cl f hm) sc_law rfl fun A outer s H E hr tk po => ?_⟩
  have nd := sc_law.nd
  exact (sss_cons (ss_set (i := 1) nd (se_hcall H__law_bag hr tk calls_st b__law_bag (sa_cons (se_var (i := 0)) sa_nil)))
    (sss_cons (ss_for po rfl (si_range1 Y.f_range (sa_cons se_int sa_nil)) (sg_name (i := 2) nd) (sss_cons (ss_asg (se_tup (sa_cons (se_hcall H__law_row hr tk calls_st b__law_row (sa_cons (se_var (i := 1)) (sa_cons se_int (sa_cons se_str sa_nil)))) (sa_cons (se_hcall H__law_draw hr tk calls_st b__law_draw (sa_cons (se_var (i := 1)) (sa_cons se_int sa_nil))) sa_nil))) (sg_tup rfl (sgs_cons (sg_name (i := 7) nd) (sgs_cons (sg_name (i := 8) nd) sgs_nil))))
    (sss_cons (ss_setLc (own := [("_law_at", 11)]) (i := 3) rfl nd (si_range1 Y.f_range (sa_cons (se_callB call_lenAll mLen Y.f_len (sa_cons (se_var (i := 7)) sa_nil)) sa_nil)) (blkOk_at (N := N_law) (sc := (defScope s_law)) rfl rfl (by decide +kernel)) rfl (fun _ _ _ _ _ => (sg_name (i := 11) nd)) (fun _ _ _ _ _ => (sts_one (st_val (se_hcall H__law_hears hr takes0 calls_pu b__law_hears (sa_cons (se_var (i := 8)) (sa_cons (se_ix (se_var (i := 7)) (se_var (i := 11))) sa_nil)))))) (fun _ _ _ _ _ => (se_var (i := 11))) (by rfl))
    (sss_cons (ss_set (i := 4) nd se_int)
    (sss_cons (ss_for po rfl (si_src (se_var (i := 7))) (sg_name (i := 5) nd) (sss_cons (ss_set (i := 4) nd (se_op op_addV mAddV (se_op op_addV mAddV (se_var (i := 4)) (se_callTy call_intAll mInt Y.f_int (sa_cons (se_not (se_hcall H__law_hears hr tk calls_pu b__law_hears (sa_cons se_int (sa_cons (se_var (i := 5)) sa_nil)))) sa_nil))) (se_callTy call_intAll mInt Y.f_int (sa_cons (se_not (se_hcall H__law_hears hr tk calls_pu b__law_hears (sa_cons se_int (sa_cons (se_var (i := 5)) sa_nil)))) sa_nil))))
    sss_nil))
    (sss_cons (ss_if (st_not (st_val (se_hcall H__law_alike hr tk calls_pu b__law_alike (sa_cons (se_lst (sa_cons (se_hcall H_heard hr tk calls_pu b_heard (sa_cons (se_var (i := 8)) (sa_cons (se_var (i := 7)) sa_nil))) (sa_cons (se_hkw0 (ks := ["row", "hand"]) (is := [1, 0]) H_heard hr tk calls_pu (fun _ _ _ _ _ _ us ws h1 h2 => match us, ws, h1, h2 with | [], [_, _], _, _ => rfl) (sk_cons (se_var (i := 7)) (sk_cons (se_var (i := 8)) sk_nil))) (sa_cons (se_hcall H_lost hr tk calls_pu b_lost (sa_cons (se_var (i := 7)) sa_nil)) (sa_cons (se_hcall H_turned_row hr tk calls_pu b_turned_row (sa_cons (se_var (i := 7)) sa_nil)) (sa_cons (se_hcall H_is_row hr tk calls_pu b_is_row (sa_cons (se_var (i := 7)) sa_nil)) sa_nil)))))) (sa_cons (se_lst (sa_cons (se_var (i := 3)) (sa_cons (se_var (i := 3)) (sa_cons (se_var (i := 4)) (sa_cons (se_hcall H__law_turned hr tk calls_pu b__law_turned (sa_cons (se_var (i := 7)) sa_nil)) (sa_cons se_bl sa_nil)))))) sa_nil))))) (sss_cons (ss_retF se_bl)
    sss_nil) sss_nil)
    (sss_cons (ss_if (sw_st (sw_or (st_cmp (op_neA hr.units) mNeV blNe (se_hcall H_turned_row hr tk calls_pu b_turned_row (sa_cons (se_hkw0 (ks := ["row"]) (is := [0]) H_turned_row hr tk calls_pu (fun _ _ _ _ _ _ us ws h1 h2 => match us, ws, h1, h2 with | [], [_], _, _ => rfl) (sk_cons (se_var (i := 7)) sk_nil)) sa_nil)) (se_var (i := 7)) (nomark _)) (sw_or1 (st_cmp (op_neA hr.units) mNeV blNe (se_hcall H_heard hr tk calls_pu b_heard (sa_cons (se_op op_sub mSubV se_int (se_var (i := 8))) (sa_cons (se_hcall H_turned_row hr tk calls_pu b_turned_row (sa_cons (se_var (i := 7)) sa_nil)) sa_nil))) (se_var (i := 3)) (nomark _))))) (sss_cons (ss_retF se_bl)
    sss_nil) sss_nil)
    (sss_cons (ss_asg (se_tup (sa_cons (se_hcall H__law_of hr tk calls_st b__law_of (sa_cons (se_var (i := 1)) (sa_cons (se_lst (sa_cons se_str (sa_cons (se_op op_addV mAddV (se_var (i := 7)) se_str) (sa_cons se_non (sa_cons se_int (sa_cons (se_lst (sa_cons se_str sa_nil)) (sa_cons se_str (sa_cons (se_tup (sa_cons se_str sa_nil)) sa_nil)))))))) sa_nil))) (sa_cons (se_hcall H__law_of hr tk calls_st b__law_of (sa_cons (se_var (i := 1)) (sa_cons (se_lst (sa_cons se_int (sa_cons (se_neg se_int) (sa_cons se_non (sa_cons se_bl (sa_cons se_str sa_nil)))))) sa_nil))) sa_nil))) (sg_tup rfl (sgs_cons (sg_name (i := 9) nd) (sgs_cons (sg_name (i := 10) nd) sgs_nil))))
    (sss_cons (ss_set (i := 6) nd (se_lst (sa_cons (se_lamE (I := LI_0) (k := 0) (pos := lamPos lam_0) (lamB_of TB rfl (sc := (defScope s_law)) rfl (q := "law.<locals>.") rfl (by decide +kernel) (by decide +kernel) rfl (.inl ⟨rfl, rfl⟩)) (by kernel_rfl)) (sa_cons (se_lamE (I := LI_1) (k := 1) (pos := lamPos lam_1) (lamB_of TB rfl (sc := (defScope s_law)) rfl (q := "law.<locals>.") rfl (by decide +kernel) (by decide +kernel) rfl (.inr ⟨rfl, _, _, rfl⟩)) (by kernel_rfl)) (sa_cons (se_lamE (I := LI_2) (k := 2) (pos := lamPos lam_2) (lamB_of TB rfl (sc := (defScope s_law)) rfl (q := "law.<locals>.") rfl (by decide +kernel) (by decide +kernel) rfl (.inr ⟨rfl, _, _, rfl⟩)) (by kernel_rfl)) (sa_cons (se_lamE (I := LI_3) (k := 3) (pos := lamPos lam_3) (lamB_of TB rfl (sc := (defScope s_law)) rfl (q := "law.<locals>.") rfl (by decide +kernel) (by decide +kernel) rfl (.inr ⟨rfl, _, _, rfl⟩)) (by kernel_rfl)) sa_nil))))))
    (sss_cons (ss_set (i := 3) nd (se_lst (sa_cons (se_tup (sa_cons se_str (sa_cons (se_var (i := 10)) sa_nil))) (sa_cons (se_tup (sa_cons se_str (sa_cons (se_var (i := 9)) sa_nil))) (sa_cons (se_tup (sa_cons se_str (sa_cons (se_var (i := 9)) sa_nil))) (sa_cons (se_tup (sa_cons se_str (sa_cons (se_var (i := 9)) sa_nil))) sa_nil))))))
    (sss_cons (ss_if (sw_st (sw_or (st_not (st_val (se_hcall H__law_alike hr tk calls_pu b__law_alike (sa_cons (se_lendH (ix := ix_law) (C := C_law _) (lendB_of (N := N_law) (sc := (defScope s_law)) (fun _ => rfl) rfl rfl rfl (by decide +kernel)) rfl H__law_whys hr tk b__law_whys (sa_cons (se_var (i := 6)) sa_nil)) (sa_cons (se_var (i := 3)) sa_nil))))) (sw_or1 (st_cmp op_isnotV mIsV blIs (se_hkw0 (ks := ["value"]) (is := [0]) H_is_row hr tk calls_pu (fun _ _ _ _ _ _ us ws h1 h2 => match us, ws, h1, h2 with | [], [_], _, _ => rfl) (sk_cons (se_var (i := 9)) sk_nil)) se_bl (nomark _))))) (sss_cons (ss_retF se_bl)
    sss_nil) sss_nil)
    sss_nil)))))))))))
    (sss_fz 1 (sss_cons (ss_retF (se_and (se_cmp (op_eqA hr.units) mEqV (se_glob h_SIGNS.1 h_SIGNS.2.1 h_SIGNS.2.2) se_str (nomark _)) (se_and (se_cmp (op_eqA hr.units) mEqV (se_hcall H_heard hr tk calls_pu b_heard (sa_cons se_int (sa_cons se_str sa_nil))) (se_lst sa_nil) (nomark _)) (se_one (se_cmp (op_eqA hr.units) mEqV (se_hcall H_lost hr tk calls_pu b_lost (sa_cons se_str sa_nil)) se_int (nomark _))))))
    sss_nil))))
end
end L_k01
end part_W01
section part_P01
set_option maxRecDepth 100000
set_option maxHeartbeats 2000000
/-! the plain law of k01: what it has in common with k46 -/
namespace L_k01
open PySem PySem.Spec PyProof.Rows L2 Mi
def hI (h : Bool) : Int := if h then 1 else 0
def hb (h : Bool) (c : Nat) : Bool := if h then decide (c = 98 ∨ c = 114) else decide (c = 98 ∨ c = 108)
def OkR (l : List Nat) : Prop := ∀ c ∈ l, c ∈ [98, 108, 110, 114]
theorem e_bl : ("bl" : Str) = sS [98, 108] := by decide +kernel
theorem e_br : ("br" : Str) = sS [98, 114] := by decide +kernel
theorem e_signs : ("blnr" : Str) = sS [98, 108, 110, 114] := by decide +kernel
theorem e_none : ("" : Str) = sS [] := by decide +kernel
theorem strIn_c (c : Nat) (l : List Nat) : strIn (sS [c]) (sS l) = decide (c ∈ l) := by
  show decide (c ∈ (sS l).cps.toList) = _
  rw [sS_list]
theorem in_heard (h : Bool) (c : Nat) : (h = true → decide (c ∈ [98, 114]) = hb h c) ∧ (h = false → decide (c ∈ [98, 108]) = hb h c) := by
  unfold hb
  constructor <;> (intro e; subst e; simp)
theorem hears_ok (h : Bool) (c : Nat) (m : MH) : m_law_hears [.int (hI h), .str (sS [c])] m = .ok (.bl (hb h c)) m := by
  cases h with
  | false =>
    have e : m_law_hears [.int (hI false), .str (sS [c])] m = .ok (.bl (strIn (sS [c]) ("bl" : Str))) m := rfl
    rw [e, e_bl, strIn_c, (in_heard false c).2 rfl]
  | true =>
    have e : m_law_hears [.int (hI true), .str (sS [c])] m = .ok (.bl (strIn (sS [c]) ("br" : Str))) m := rfl
    rw [e, e_br, strIn_c, (in_heard true c).1 rfl]
theorem chr_sS (l : List Nat) : chrT (sS l) = l.map fun c => .str (sS [c]) := by
  unfold chrT
  rw [sS_list]
  rfl
theorem bls_map {α : Type} (xs : List α) : blsOf (xs.map fun _ => T.bl true) = some (xs.map fun _ => true) := by
  induction xs with
  | nil => rfl
  | cons x xs ih => simp only [List.map_cons, blsOf, ih, Option.map_some]
theorem all_map {α : Type} (xs : List α) : ((xs.map fun _ => true).all id) = true := by
  induction xs with
  | nil => rfl
  | cons x xs ih => simpa using ih
theorem fAll_map {α : Type} (xs : List α) (h : MH) : fAll [.lst (xs.map fun _ => T.bl true)] h = .ok (.bl true) h := by
  simp only [fAll, fBls, lstOf, bls_map, all_map]
theorem is_row_ok {l : List Nat} (hl : OkR l) (hn : l.length ≤ big) (m : MH) : m_is_row [.str (sS l)] m = .ok (.bl true) m := by
  have e1 : mLc (mSrc (mVar 0)) (gN 1) (mC (.bl true)) (m2 (fIn false) (mVar 1) (mC t_SIGNS)) [1] [some (.str (sS l)), none] m = .ok (.lst (l.map fun _ => .bl true)) m := by
    show lcFrom _ _ _ [some (.str (sS l)), none] (chrT (sS l)) [] m = _
    rw [chr_sS, lc_map (f := fun _ => .bl true) _ (fun x hx => ?_) (by simpa using hn), List.map_map]
    · rfl
    · obtain ⟨c, hc, rfl⟩ := List.mem_map.mp hx
      refine ⟨_, rfl, rfl, ?_⟩
      show R.ok (.bl (strIn (sS [c]) ("blnr" : Str))) m = _
      rw [e_signs, strIn_c, decide_eq_true (hl c hc)]
  simp only [m_is_row, mi, ms, mz, mty, e1, fAll_map, Nat.reduceAdd, Nat.reduceSub]
theorem need_row_ok {l : List Nat} (hl : OkR l) (hn : l.length ≤ big) (m : MH) : m_need_row [.str (sS l)] m = .ok .non m := by
  have e : (fP 1 m_is_row) [.str (sS l)] m = .ok (.bl true) m := by
    show (if [T.str (sS l)].length = 1 ∧ closedL [T.str (sS l)] = true then pureR (m_is_row [.str (sS l)] []) m else .stuck) = _
    rw [if_pos ⟨rfl, rfl⟩, is_row_ok hl hn]
    rfl
  simp only [m_need_row, mi, ms, mz, mty, e, Nat.reduceAdd, Nat.reduceSub, Bool.not_true]
theorem within_ok {d lo hi : Int} (h1 : lo ≤ d) (h2 : d ≤ hi) (m : MH) : m_is_within [.int d, .int lo, .int hi] m = .ok (.bl true) m := by
  have e : (fP 1 m_is_number) [.int d] m = .ok (.bl true) m := rfl
  have e2 : ∀ a b : Int, a ≤ b → fLe (.int a) (.int b) m = .ok (.bl true) m := fun a b q => by
    show R.ok (T.bl (decide (a ≤ b))) m = _
    rw [decide_eq_true q]
  simp only [m_is_within, mi, ms, mz, mty, e, mChain, e2 _ _ h1, e2 _ _ h2, Nat.reduceAdd, Nat.reduceSub]
theorem fP_ok {n : Nat} {f : MF} {ts : List T} {t : T} {h h' : MH} (e : f ts [] = .ok t h') (hn : ts.length = n) (hc : closedL ts = true) (ht : closed t = true) : fP n f ts h = .ok t h := by
  unfold fP
  rw [if_pos ⟨hn, hc⟩, e]
  show (if closed t = true then R.ok t h else .stuck) = _
  rw [if_pos ht]
theorem need_hand_ok (h : Bool) (m : MH) : m_need_hand [.int (hI h)] m = .ok .non m := by
  have e : (fP 3 m_is_within) [.int (hI h), .int 0, .int 1] m = .ok (.bl true) m := fP_ok (within_ok (by cases h <;> decide) (by cases h <;> decide) []) rfl rfl rfl
  simp only [m_need_hand, mi, ms, mz, mty, e, Nat.reduceAdd, Nat.reduceSub, Bool.not_true]
def idx (h : Bool) : Nat → List Nat → List Nat
  | _, [] => []
  | n, c :: l => if hb h c then n :: idx h (n + 1) l else idx h (n + 1) l
def pE (h : Bool) : T → Bool := fun t => match t with
  | .tpl [_, .str z] => match z.cps.toList with
    | [c] => hb h c
    | _ => false
  | _ => false
def fE : T → T := fun t => match t with
  | .tpl [i, _] => i
  | _ => .non
def chs (l : List Nat) : List T := l.map fun c => .str (sS [c])
theorem en_idx (h : Bool) : ∀ (l : List Nat) (n : Nat), ((enumT n (chs l)).filter (pE h)).map fE = (idx h n l).map fun k => T.int (k : Nat)
  | [], n => rfl
  | c :: l, n => by
    have ih := en_idx h l (n + 1)
    show (((T.tpl [.int (n : Nat), .str (sS [c])]) :: enumT (n + 1) (chs l)).filter (pE h)).map fE = _
    have e : pE h (.tpl [.int (n : Nat), .str (sS [c])]) = hb h c := rfl
    rw [List.filter_cons, e]
    unfold idx
    cases hb h c with
    | true => simp only [if_true, List.map_cons, ih]; rfl
    | false => simpa using ih
theorem mem_en : ∀ {l : List Nat} {n : Nat} {x : T}, x ∈ enumT n (chs l) → ∃ (k : Nat) (c : Nat), x = .tpl [.int (k : Nat), .str (sS [c])]
  | [], _, x, h => by cases h
  | c :: l, n, x, h => by
    rcases List.mem_cons.mp (show x ∈ (T.tpl [.int (n : Nat), .str (sS [c])]) :: enumT (n + 1) (chs l) from h) with e | e
    · exact ⟨n, c, e⟩
    · exact mem_en e
theorem heard_ix (h : Bool) (m : MH) : fIx t_HEARD (.int (hI h)) m = .ok (.str (if h then ("br" : Str) else ("bl" : Str))) m := by cases h <;> rfl
theorem in_hd (h : Bool) (c : Nat) (m : MH) : fIn false (.str (sS [c])) (.str (if h then ("br" : Str) else ("bl" : Str))) m = .ok (.bl (hb h c)) m := by
  cases h with
  | false =>
    show R.ok (.bl (strIn (sS [c]) ("bl" : Str))) m = _
    rw [e_bl, strIn_c, (in_heard false c).2 rfl]
  | true =>
    show R.ok (.bl (strIn (sS [c]) ("br" : Str))) m = _
    rw [e_br, strIn_c, (in_heard true c).1 rfl]
theorem toDs_ints (xs : List Nat) : toDs (xs.map fun k => T.int (k : Nat)) = some (xs.map fun k => PyData.int (k : Nat)) := by
  induction xs with
  | nil => rfl
  | cons x xs ih => simp only [List.map_cons, toDs, toD, ih]
theorem lay_ints (xs : List Nat) : PyData.canLayAll0 (xs.map fun k => PyData.int (k : Nat)) = true ∧ PyData.depthAll (xs.map fun k => PyData.int (k : Nat)) = 0 := by
  induction xs with
  | nil => exact ⟨rfl, rfl⟩
  | cons x xs ih => simp only [List.map_cons, PyData.canLayAll0, PyData.canLay0, PyData.depthAll, PyData.depth, ih, Bool.true_and, Nat.max_self, and_self]
theorem shaped_ints (xs : List Nat) : SeqAt.shaped (.list (xs.map fun k => PyData.int (k : Nat))) = true := by
  unfold SeqAt.shaped
  simp only [PyData.canLay0, PyData.depth, lay_ints, Bool.true_and]
  decide
theorem eqv_ints : ∀ xs ys : List Nat, PyData.eqvAll (xs.map fun k => PyData.int (k : Nat)) (ys.map fun k => PyData.int (k : Nat)) = decide (xs = ys)
  | [], [] => rfl
  | [], y :: ys => by simp [PyData.eqvAll]
  | x :: xs, [] => by simp [PyData.eqvAll]
  | x :: xs, y :: ys => by
    simp only [List.map_cons, PyData.eqvAll, PyData.eqv, eqv_ints xs ys]
    by_cases h : x = y
    · subst h; simp
    · have : ((x : Nat) : Int) ≠ (y : Nat) := by omega
      simp [h, this]
theorem fEq_ints (xs ys : List Nat) (h : MH) : fEq (.lst (xs.map fun k => T.int (k : Nat))) (.lst (ys.map fun k => T.int (k : Nat))) h = .ok (.bl (decide (xs = ys))) h := by
  show with2 _ _ _ = _
  simp only [with2, toD, toDs_ints, Option.map_some, shaped_ints, Bool.and_self, if_true, PyData.eqv, eqv_ints]
theorem fNe_ints (xs ys : List Nat) (h : MH) : fNe (.lst (xs.map fun k => T.int (k : Nat))) (.lst (ys.map fun k => T.int (k : Nat))) h = .ok (.bl (!decide (xs = ys))) h := by
  show with2 _ _ _ = _
  simp only [with2, toD, toDs_ints, Option.map_some, shaped_ints, Bool.and_self, if_true, PyData.eqv, eqv_ints]
theorem sub_hand (h : Bool) (m : MH) : fSub (.int 1) (.int (hI h)) m = .ok (.int (hI (!h))) m := by cases h <;> rfl
theorem fEq_s (l k : List Nat) (m : MH) : fEq (.str (sS l)) (.str (sS k)) m = .ok (.bl (decide (l = k))) m := by
  show R.ok (T.bl (decide (sS l = sS k))) m = _
  congr 2
  exact decide_eq_decide.mpr sS_inj
theorem fNe_s (l k : List Nat) (m : MH) : fNe (.str (sS l)) (.str (sS k)) m = .ok (.bl (!decide (l = k))) m := by
  show R.ok (T.bl (!decide (sS l = sS k))) m = _
  congr 3
  exact decide_eq_decide.mpr sS_inj
end L_k01
end part_P01
section part_Q01
set_option maxRecDepth 100000
set_option maxHeartbeats 2000000
/-! the plain law of k01: what the functions answer for a row -/
namespace L_k01
open PySem PySem.Spec PyProof.Rows L2 Mi
abbrev iL (xs : List Nat) : List T := xs.map fun k => T.int (k : Nat)
theorem def_rt {n : Nat} {m : MS} {ts : List T} {h h1 : MH} {t : T} (e : m (ts.map some ++ List.replicate (n - ts.length) none) h = .rt t h1) : mDef n m ts h = .ok t h1 := by unfold mDef; rw [e]
theorem def_ex {n : Nat} {m : MS} {ts : List T} {h h1 : MH} {x : Exc} {s1 : SM} (e : m (ts.map some ++ List.replicate (n - ts.length) none) h = .ex x s1 h1) : mDef n m ts h = .ex x h1 := by unfold mDef; rw [e]
theorem ex_ok {me : ME} {s : SM} {h h1 : MH} {t : T} (e : me s h = .ok t h1) : mEx me s h = .nx s h1 := by unfold mEx; rw [e]; rfl
theorem ex_ex {me : ME} {s : SM} {h h1 : MH} {x : Exc} (e : me s h = .ex x h1) : mEx me s h = .ex x s h1 := by unfold mEx; rw [e]; rfl
theorem seq_ex {m m' : MS} {s s1 : SM} {h h1 : MH} {x : Exc} (e : m s h = .ex x s1 h1) : mSq m m' s h = .ex x s1 h1 := by simp only [mi, e]
theorem cl_iL : ∀ xs : List Nat, closedL (iL xs) = true
  | [] => rfl
  | x :: xs => by
    show (true && closedL (iL xs)) = true
    rw [cl_iL xs]; rfl
theorem cl_chs : ∀ l : List Nat, closedL (chs l) = true
  | [] => rfl
  | c :: l => by
    show (true && closedL (chs l)) = true
    rw [cl_chs l]; rfl
/-- [e for c in row] -/
theorem lc_chs {v : Nat} {me : ME} {s0 : SM} {h : MH} (g : Nat → T) : ∀ (l : List Nat) (acc : List T), (∀ c ∈ l, me (s0.set v (some (.str (sS [c])))) h = .ok (g c) h) → acc.length + l.length ≤ 1000 → lcFrom (gN v) (mC (.bl true)) me s0 (chs l) acc h = .ok (.lst (acc ++ l.map g)) h
  | [], acc, _, _ => by simp [lcFrom, chs]
  | c :: l, acc, hx, hl => by
    rw [List.length_cons] at hl
    show lcFrom _ _ _ _ (.str (sS [c]) :: chs l) acc h = _
    unfold lcFrom
    rw [show gN v (.str (sS [c])) s0 h = .ok (s0.set v (some (.str (sS [c])))) h from rfl]
    dsimp only
    rw [show (mC (.bl true)) (s0.set v (some (.str (sS [c])))) h = .ok (.bl true) h from rfl]
    dsimp only
    rw [hx c List.mem_cons_self]
    dsimp only
    rw [if_pos (Nat.lt_of_lt_of_le (show acc.length < 1001 by omega) (Mi.big_of (by omega))), lc_chs g l (acc ++ [g c]) (fun x q => hx x (List.mem_cons_of_mem _ q)) (by simp; omega)]
    simp
/-! ### heard -/
theorem hear_lc (h : Bool) (l : List Nat) (hn : l.length ≤ 1000) (m : MH) :
    mLc (mIA iEn (aCons (mVar 1) aNil)) (gT 2 (gsCons (gN 2) (gsCons (gN 3) gsNil))) (m2 (fIn false) (mVar 3) (m2 fIx (mC t_HEARD) (mVar 0))) (mVar 2) [2, 3] [some (.int (hI h)), some (.str (sS l)), none, none] m = .ok (.lst (iL (idx h 0 l))) m := by
  have q : mLc (mIA iEn (aCons (mVar 1) aNil)) (gT 2 (gsCons (gN 2) (gsCons (gN 3) gsNil))) (m2 (fIn false) (mVar 3) (m2 fIx (mC t_HEARD) (mVar 0))) (mVar 2) [2, 3] [some (.int (hI h)), some (.str (sS l)), none, none] m
    = lcFrom (gT 2 (gsCons (gN 2) (gsCons (gN 3) gsNil))) (m2 (fIn false) (mVar 3) (m2 fIx (mC t_HEARD) (mVar 0))) (mVar 2) [some (.int (hI h)), some (.str (sS l)), none, none] (enumT 0 (chrT (sS l))) [] m := rfl
  rw [q, chr_sS]
  have z := lc_fm (mgt := gT 2 (gsCons (gN 2) (gsCons (gN 3) gsNil))) (mt := m2 (fIn false) (mVar 3) (m2 fIx (mC t_HEARD) (mVar 0))) (me := mVar 2) (s0 := [some (.int (hI h)), some (.str (sS l)), none, none]) (h := m) (p := pE h) (f := fE) (enumT 0 (chs l)) [] (fun x hx => ?_) (by rw [enumT_len]; simp [chs, big]; omega)
  · rw [List.nil_append, en_idx] at z
    exact z
  · obtain ⟨k, c, rfl⟩ := mem_en hx
    refine ⟨_, rfl, ?_, fun _ => rfl⟩
    simp only [mi, ms, heard_ix, in_hd]
    rfl
section
variable {l : List Nat}
theorem need_rowP (hl : OkR l) (hn : l.length ≤ 500) (m : MH) : fP 1 m_need_row [.str (sS l)] m = .ok .non m := fP_ok (need_row_ok hl (Mi.big_of (by omega)) []) rfl rfl rfl
theorem heard_ok (h : Bool) (hl : OkR l) (hn : l.length ≤ 500) (m : MH) : fP 2 m_heard [.int (hI h), .str (sS l)] m = .ok (.lst (iL (idx h 0 l))) m := by
  refine fP_ok (h' := []) ?_ rfl rfl (cl_iL _)
  have e1 : fP 1 m_need_hand [.int (hI h)] [] = .ok .non [] := fP_ok (need_hand_ok h []) rfl rfl rfl
  exact def_rt ((Mi.seq_nx (ex_ok (Mi.mA_ok (Mi.cons_ok (Mi.var_ok (k := 0) [] rfl) Mi.nil_ok) e1))).trans ((Mi.seq_nx (ex_ok (Mi.mA_ok (Mi.cons_ok (Mi.var_ok (k := 1) [] rfl) Mi.nil_ok) (need_rowP hl hn [])))).trans (Mi.seq_rt (Mi.retF_ok (cl_iL _) (hear_lc h l (by omega) [])))))
/-! ### lost -/
def lo (c : Nat) : Int := if c = 98 then 0 else if c = 110 then 2 else 1
theorem of4 {c : Nat} (h : c ∈ [98, 108, 110, 114]) {p : Nat → Prop} (h1 : p 98) (h2 : p 108) (h3 : p 110) (h4 : p 114) : p c := by
  simp only [List.mem_cons, List.not_mem_nil, or_false] at h
  rcases h with rfl | rfl | rfl | rfl <;> assumption
theorem kd_lost {c : Nat} (hc : c ∈ [98, 108, 110, 114]) (h : MH) : fKd kt_LOST (.str (sS [c])) h = .ok (.int (lo c)) h := by
  refine of4 hc (p := fun c => fKd kt_LOST (.str (sS [c])) h = .ok (.int (lo c)) h) ?_ ?_ ?_ ?_ <;> kernel_rfl
theorem ints_of : ∀ xs : List Int, intsOf (xs.map T.int) = some xs
  | [] => rfl
  | x :: xs => by
    show (intsOf (xs.map T.int)).map (x :: ·) = _
    rw [ints_of xs]; rfl
def lostN (l : List Nat) : Int := (l.map lo).sum
theorem lost_ok (hl : OkR l) (hn : l.length ≤ 500) (m : MH) : fP 1 m_lost [.str (sS l)] m = .ok (.int (lostN l)) m := by
  refine fP_ok (h' := []) ?_ rfl rfl rfl
  have e1 : mLc (mSrc (mVar 0)) (gN 1) (mC (.bl true)) (m1 (fKd kt_LOST) (mVar 1)) [1] [some (.str (sS l)), none] [] = .ok (.lst (l.map fun c => .int (lo c))) [] := by
    show lcFrom _ _ _ [some (.str (sS l)), none] (chrT (sS l)) [] [] = _
    rw [chr_sS]
    exact lc_chs (fun c => .int (lo c)) l [] (fun c hc => Mi.m1_ok (Mi.var_ok [] rfl) (kd_lost (hl c hc) [])) (by simp; omega)
  have e2 : fSum [.lst (l.map fun c => .int (lo c))] [] = .ok (.int (lostN l)) [] := by
    have q : (l.map fun c => T.int (lo c)) = (l.map lo).map T.int := by rw [List.map_map]; rfl
    show (match intsOf (l.map fun c => T.int (lo c)) with
      | some ns => R.ok (.int ns.sum) []
      | none => .stuck) = _
    rw [q, ints_of]
    rfl
  exact def_rt ((Mi.seq_nx (ex_ok (Mi.mA_ok (Mi.cons_ok (Mi.var_ok (k := 0) [] rfl) Mi.nil_ok) (need_rowP hl hn [])))).trans (Mi.seq_rt (Mi.retF_ok rfl (Mi.mA_ok (Mi.cons_ok e1 Mi.nil_ok) e2))))
/-! ### turned -/
def tr (c : Nat) : Nat := if c = 108 then 114 else if c = 114 then 108 else c
theorem kd_turned {c : Nat} (hc : c ∈ [98, 108, 110, 114]) (h : MH) : fKd kt_TURNED (.str (sS [c])) h = .ok (.str (sS [tr c])) h := by
  refine of4 hc (p := fun c => fKd kt_TURNED (.str (sS [c])) h = .ok (.str (sS [tr c])) h) ?_ ?_ ?_ ?_ <;> kernel_rfl
theorem ix_turned {c : Nat} (hc : c ∈ [98, 108, 110, 114]) (v : Nat) {s : SM} {h : MH} (g : s[v]? = some (some (.str (sS [c])))) : (m2 fIx (mC (.str "brnl")) (mMe "str" fIndexS (mC (.str "blnr")) (aCons (mVar v) aNil))) s h = .ok (.str (sS [tr c])) h := by
  have e : ∀ h : MH, fIndexS (.str "blnr") [.str (sS [c])] h = .ok (.int (if c = 98 then 0 else if c = 108 then 1 else if c = 110 then 2 else 3)) h := fun h => by
    refine of4 hc (p := fun c => fIndexS (.str "blnr") [.str (sS [c])] h = .ok (.int (if c = 98 then 0 else if c = 108 then 1 else if c = 110 then 2 else 3)) h) ?_ ?_ ?_ ?_ <;> kernel_rfl
  have e2 : (mMe "str" fIndexS (mC (.str "blnr")) (aCons (mVar v) aNil)) s h = .ok (.int (if c = 98 then 0 else if c = 108 then 1 else if c = 110 then 2 else 3)) h := by
    show ((aCons (mVar v) aNil) s h).bind _ = _
    rw [Mi.cons_ok (Mi.var_ok h g) Mi.nil_ok]
    exact e h
  refine Mi.m2_ok (t := .str "brnl") rfl e2 ?_
  refine of4 hc (p := fun c => fIx (.str "brnl") (.int (if c = 98 then 0 else if c = 108 then 1 else if c = 110 then 2 else 3)) h = .ok (.str (sS [tr c])) h) ?_ ?_ ?_ ?_ <;> kernel_rfl
theorem okR_tr (hl : OkR l) : OkR (l.map tr) := by
  intro c hc
  obtain ⟨d, hd, rfl⟩ := List.mem_map.mp hc
  exact of4 (hl d hd) (p := fun d => tr d ∈ [98, 108, 110, 114]) (by decide) (by decide) (by decide) (by decide)
theorem tr_tr (hl : OkR l) : (l.map tr).map tr = l := by
  rw [List.map_map]
  have : ∀ c ∈ l, (tr ∘ tr) c = id c := fun c hc => of4 (hl c hc) (p := fun c => (tr ∘ tr) c = id c) (by decide) (by decide) (by decide) (by decide)
  rw [List.map_congr_left this, List.map_id]
theorem hb_tr {c : Nat} (hc : c ∈ [98, 108, 110, 114]) (h : Bool) : hb (!h) (tr c) = hb h c := by
  cases h
  · exact of4 hc (p := fun c => hb (!false) (tr c) = hb false c) (by decide) (by decide) (by decide) (by decide)
  · exact of4 hc (p := fun c => hb (!true) (tr c) = hb true c) (by decide) (by decide) (by decide) (by decide)
theorem idx_tr (h : Bool) : ∀ (l : List Nat) (n : Nat), OkR l → idx (!h) n (l.map tr) = idx h n l
  | [], n, _ => rfl
  | c :: l, n, hl => by
    show (if hb (!h) (tr c) then n :: idx (!h) (n + 1) (l.map tr) else idx (!h) (n + 1) (l.map tr)) = if hb h c then n :: idx h (n + 1) l else idx h (n + 1) l
    rw [hb_tr (hl c List.mem_cons_self), idx_tr h l (n + 1) fun x hx => hl x (List.mem_cons_of_mem _ hx)]
theorem strs_chs : ∀ l : List Nat, strsOf (chs l) = some (l.map fun c => sS [c])
  | [] => rfl
  | c :: l => by
    show (strsOf (chs l)).map (sS [c] :: ·) = _
    rw [strs_chs l]; rfl
theorem join_chs : ∀ l : List Nat, Txt.join (sS []) (l.map fun c => sS [c]) = sS l := by
  intro l
  show Builtin.Str.glued _ _ = _
  rw [StrLaws.glued_eq_join]
  induction l with
  | nil => rfl
  | cons c l ih =>
    cases l with
    | nil => rfl
    | cons d r =>
      show sS [c] ++ sS [] ++ Str.join (sS []) ((d :: r).map fun c => sS [c]) = _
      rw [ih, sS_app, sS_app]
      rfl
theorem sum_chs : ∀ l : List Nat, ((l.map fun c => sS [c]).map fun x : Str => x.length).sum = l.length
  | [] => rfl
  | c :: l => by
    have := sum_chs l
    simp only [List.map_cons, List.sum_cons, sS_len, List.length_cons, List.length_nil] at *
    omega
theorem fJoin_chs (hn : l.length ≤ 1000) (h : MH) : fJoin (.str "") [.lst (chs l)] h = .ok (.str (sS l)) h := by
  show (match strsOf (chs l) with
      | some ys => if (ys.map fun x : Str => x.length).sum + ys.length * (sS []).length ≤ big then R.ok (.str (Txt.join (sS []) ys)) h else .stuck
      | none => .stuck) = _
  rw [strs_chs]
  dsimp only
  rw [sum_chs, join_chs, if_pos]
  rw [List.length_map, sS_len]
  exact Mi.big_of (by simp; omega)
theorem join_ok {me : ME} {s : SM} {h h1 : MH} (e : me s h = .ok (.lst (chs l)) h1) (hn : l.length ≤ 1000) : mMe "str" fJoin (mC (.str "")) (aCons me aNil) s h = .ok (.str (sS l)) h1 := by
  show ((aCons me aNil) s h).bind _ = _
  rw [Mi.cons_ok e Mi.nil_ok]
  exact fJoin_chs hn h1
theorem turned_lc {me : ME} (hl : OkR l) (hn : l.length ≤ 500) (hm : ∀ c ∈ [98, 108, 110, 114], me [some (.str (sS l)), some (.str (sS [c]))] [] = .ok (.str (sS [tr c])) []) :
    mLc (mSrc (mVar 0)) (gN 1) (mC (.bl true)) me [1] [some (.str (sS l)), none] [] = .ok (.lst (chs (l.map tr))) [] := by
  show lcFrom _ _ _ [some (.str (sS l)), none] (chrT (sS l)) [] [] = _
  rw [chr_sS]
  have z := lc_chs (v := 1) (me := me) (s0 := [some (.str (sS l)), none]) (h := []) (fun c => .str (sS [tr c])) l [] (fun c hc => hm c (hl c hc)) (by simp; omega)
  refine z.trans ?_
  unfold chs
  rw [List.map_map]
  rfl
theorem signs_ok (hl : OkR l) (hn : l.length ≤ 500) (m : MH) : fP 1 m_turned_signs [.str (sS l)] m = .ok (.str (sS (l.map tr))) m := by
  refine fP_ok (h' := []) ?_ rfl rfl rfl
  exact def_rt (Mi.seq_rt (Mi.retF_ok rfl (join_ok (turned_lc hl hn fun c hc => Mi.m1_ok (Mi.var_ok [] rfl) (kd_turned hc [])) (by rw [List.length_map]; omega))))
theorem turned_ok (hl : OkR l) (hn : l.length ≤ 500) (m : MH) : fP 1 m_turned_row [.str (sS l)] m = .ok (.str (sS (l.map tr))) m := by
  refine fP_ok (h' := []) ?_ rfl rfl rfl
  exact def_rt ((Mi.seq_nx (ex_ok (Mi.mA_ok (Mi.cons_ok (Mi.var_ok (k := 0) [] rfl) Mi.nil_ok) (need_rowP hl hn [])))).trans (Mi.seq_rt (Mi.retF_ok rfl (Mi.mA_ok (Mi.cons_ok (Mi.var_ok (k := 0) [] rfl) Mi.nil_ok) (signs_ok hl hn [])))))
theorem law_turned_ok (hl : OkR l) (hn : l.length ≤ 500) (m : MH) : fP 1 m_law_turned [.str (sS l)] m = .ok (.str (sS (l.map tr))) m := by
  refine fP_ok (h' := []) ?_ rfl rfl rfl
  exact def_rt (Mi.seq_rt (Mi.retF_ok rfl (join_ok (turned_lc hl hn fun c hc => ix_turned hc 1 rfl) (by rw [List.length_map]; omega))))
theorem is_rowP (hl : OkR l) (hn : l.length ≤ 500) (m : MH) : fP 1 m_is_row [.str (sS l)] m = .ok (.bl true) m := fP_ok (is_row_ok hl (Mi.big_of (by omega)) []) rfl rfl rfl
theorem hearsP (h : Bool) (c : Nat) (m : MH) : fP 2 m_law_hears [.int (hI h), .str (sS [c])] m = .ok (.bl (hb h c)) m := fP_ok (hears_ok h c []) rfl rfl rfl
end
end L_k01
end part_Q01
section part_R01
set_option maxRecDepth 100000
set_option maxHeartbeats 4000000
/-! the plain law of k01: its statements, a drawn row -/
namespace L_k01
open PySem PySem.Spec PyProof.Rows L2 Mi
def c1 : MS := (mSet 1 (mA (fS 1 m_law_bag) (aCons (mVar 0) aNil)))
def s1 : MS := (mAs (mA fTup (aCons (mA (fS 3 m_law_row) (aCons (mVar 1) (aCons (mC (.int 8)) (aCons (mC (.str "blnr")) aNil)))) (aCons (mA (fS 2 m_law_draw) (aCons (mVar 1) (aCons (mC (.int 2)) aNil))) aNil))) (gT 2 (gsCons (gN 7) (gsCons (gN 8) gsNil))))
def s2 : MS := (mSet 3 (mLc (mIA iRg1 (aCons (mA fLen (aCons (mVar 7) aNil)) aNil)) (gN 11) (mTru (mA (fP 2 m_law_hears) (aCons (mVar 8) (aCons (m2 fIx (mVar 7) (mVar 11)) aNil)))) (mVar 11) [11]))
def s3 : MS := (mSet 4 (mC (.int 0)))
def s4 : MS := (mFor (mSrc (mVar 7)) (gN 5) (mSq (mSet 4 (m2 fAdd (m2 fAdd (mVar 4) (mA fInt (aCons (mNotV (mA (fP 2 m_law_hears) (aCons (mC (.int 0)) (aCons (mVar 5) aNil)))) aNil))) (mA fInt (aCons (mNotV (mA (fP 2 m_law_hears) (aCons (mC (.int 1)) (aCons (mVar 5) aNil)))) aNil))))
    mNx))
def s5 : MS := (mIfS (mNot (mTru (mA (fP 2 (m_law_alike 8)) (aCons (mA fLst (aCons (mA (fP 2 m_heard) (aCons (mVar 8) (aCons (mVar 7) aNil))) (aCons (mKw 0 2 [1, 0] (fP 2 m_heard) aNil (aCons (mVar 7) (aCons (mVar 8) aNil))) (aCons (mA (fP 1 m_lost) (aCons (mVar 7) aNil)) (aCons (mA (fP 1 m_turned_row) (aCons (mVar 7) aNil)) (aCons (mA (fP 1 m_is_row) (aCons (mVar 7) aNil)) aNil)))))) (aCons (mA fLst (aCons (mVar 3) (aCons (mVar 3) (aCons (mVar 4) (aCons (mA (fP 1 m_law_turned) (aCons (mVar 7) aNil)) (aCons (mC (.bl true)) aNil)))))) aNil))))) (mSq (mRetF (mC (.bl false)))
    mNx) mNx)
def s6 : MS := (mIfS (mOr (m2 fNe (mA (fP 1 m_turned_row) (aCons (mKw 0 1 [0] (fP 1 m_turned_row) aNil (aCons (mVar 7) aNil)) aNil)) (mVar 7)) (m2 fNe (mA (fP 2 m_heard) (aCons (m2 fSub (mC (.int 1)) (mVar 8)) (aCons (mA (fP 1 m_turned_row) (aCons (mVar 7) aNil)) aNil))) (mVar 3))) (mSq (mRetF (mC (.bl false)))
    mNx) mNx)
def s7 : MS := (mAs (mA fTup (aCons (mA (fS 2 m_law_of) (aCons (mVar 1) (aCons (mA fLst (aCons (mC (.str "a")) (aCons (m2 fAdd (mVar 7) (mC (.str "B"))) (aCons (mC .non) (aCons (mC (.int 3)) (aCons (mA fLst (aCons (mC (.str "b")) aNil)) (aCons (mC (.str "b l")) (aCons (mA fTup (aCons (mC (.str "b")) aNil)) aNil)))))))) aNil))) (aCons (mA (fS 2 m_law_of) (aCons (mVar 1) (aCons (mA fLst (aCons (mC (.int 2)) (aCons (m1 fNeg (mC (.int 1))) (aCons (mC .non) (aCons (mC (.bl true)) (aCons (mC (.str "0")) aNil)))))) aNil))) aNil))) (gT 2 (gsCons (gN 9) (gsCons (gN 10) gsNil))))
noncomputable def s8 (P L : Nat) : MS := (mSet 6 (mA fLst (aCons (mLam 0 LI_0 (C_law L) P) (aCons (mLam 1 LI_1 (C_law L) P) (aCons (mLam 2 LI_2 (C_law L) P) (aCons (mLam 3 LI_3 (C_law L) P) aNil))))))
def s9 : MS := (mSet 3 (mA fLst (aCons (mA fTup (aCons (mC (.str "InvalidHand")) (aCons (mVar 10) aNil))) (aCons (mA fTup (aCons (mC (.str "InvalidRow")) (aCons (mVar 9) aNil))) (aCons (mA fTup (aCons (mC (.str "InvalidRow")) (aCons (mVar 9) aNil))) (aCons (mA fTup (aCons (mC (.str "InvalidRow")) (aCons (mVar 9) aNil))) aNil))))))
noncomputable def s10 (P L : Nat) : MS := (mIfS (mOr (mNot (mTru (mA (fP 2 (m_law_alike 8)) (aCons (mLend m_law_whys 1 (C_law L) ix_law (aCons (mVar 6) aNil)) (aCons (mVar 3) aNil))))) (m2 (fIs true) (mKw 0 1 [0] (fP 1 m_is_row) aNil (aCons (mVar 9) aNil)) (mC (.bl false)))) (mSq (mRetF (mC (.bl false)))
    mNx) mNx)
noncomputable def c2b (P L : Nat) : MS := (mSq s1 (mSq s2 (mSq s3 (mSq s4 (mSq s5 (mSq s6 (mSq s7 (mSq (s8 P L) (mSq s9 (mSq (s10 P L) mNx))))))))))
noncomputable def c2 (P L : Nat) : MS := (mFor (mIA iRg1 (aCons (mC (.int 8)) aNil)) (gN 2) (c2b P L))
def c3z : MS := (mSq (mRetF (mAndV (m2 fEq (mC t_SIGNS) (mC (.str "blnr"))) (mAndV (m2 fEq (mA (fP 2 m_heard) (aCons (mC (.int 0)) (aCons (mC (.str "")) aNil))) (mA fLst aNil)) (m2 fEq (mA (fP 1 m_lost) (aCons (mC (.str "nnn")) aNil)) (mC (.int 6))))))
    mNx)
theorem c_eq (P L : Nat) : m_law P L = mDef 12 (mSq c1 (mSq (c2 P L) (mFz 1 c3z))) := rfl
abbrev st (y0 y2 y3 y4 y5 y6 y7 y8 y9 y10 y11 : Option T) : SM := [y0, some (.ref 1), y2, y3, y4, y5, y6, y7, y8, y9, y10, y11]
/-! ### a drawn row -/
theorem of_sg {h : MH} {i : Nat} (B : Bag h i) : ∃ (c : Nat) (h' : MH), (fS 2 m_law_of) [.ref i, .str "blnr"] h = .ok (.str (sS [c])) h' ∧ c ∈ [98, 108, 110, 114] ∧ Bag h' i ∧ Keeps i h h' := by
  obtain ⟨r, h', e, p, q, B', K⟩ := drawC B (many := 4) (by omega) (by omega)
  have q2 : (mA (fS 2 m_law_draw) (aCons (mVar 0) (aCons (mA fLen (aCons (mVar 1) aNil)) aNil))) [some (.ref i), some (.str "blnr")] h = .ok (.int r) h' := Mi.mA_ok (Mi.cons_ok (Mi.var_ok h rfl) (Mi.cons_ok (t := .int 4) rfl Mi.nil_ok)) e
  have hr : r = 0 ∨ r = 1 ∨ r = 2 ∨ r = 3 := by omega
  have key : ∀ c : Nat, fIx (.str "blnr") (.int r) h' = .ok (.str (sS [c])) h' → (fS 2 m_law_of) [.ref i, .str "blnr"] h = .ok (.str (sS [c])) h' := fun c z =>
    def_rt (n := 2) (ts := [.ref i, .str "blnr"]) (Mi.seq_rt (Mi.retF_ok rfl (Mi.m2_ok (Mi.var_ok h rfl) q2 z)))
  rcases hr with rfl | rfl | rfl | rfl
  · exact ⟨98, h', key 98 (by kernel_rfl), by simp, B', K⟩
  · exact ⟨108, h', key 108 (by kernel_rfl), by simp, B', K⟩
  · exact ⟨110, h', key 110 (by kernel_rfl), by simp, B', K⟩
  · exact ⟨114, h', key 114 (by kernel_rfl), by simp, B', K⟩
abbrev meOf : ME := mA (fS 2 m_law_of) (aCons (mVar 0) (aCons (mVar 2) aNil))
theorem row_lc {i : Nat} {s0 : SM} (g0 : s0[0]? = some (some (.ref i))) (g2 : s0[2]? = some (some (.str "blnr"))) : ∀ (xs : List T) (acc : List Nat) (h : MH), Bag h i → acc.length + xs.length ≤ 1000 →
    ∃ (l : List Nat) (h' : MH), lcFrom (gN 3) (mC (.bl true)) meOf s0 xs (chs acc) h = .ok (.lst (chs (acc ++ l))) h' ∧ OkR l ∧ l.length = xs.length ∧ Bag h' i ∧ Keeps i h h'
  | [], acc, h, B, _ => ⟨[], h, by simp [lcFrom], fun _ q => by (cases q), rfl, B, Keeps.refl⟩
  | x :: xs, acc, h, B, hl => by
    rw [List.length_cons] at hl
    obtain ⟨c, h1, e, hc, B1, K1⟩ := of_sg B
    obtain ⟨l, h2, e2, ok, len, B2, K2⟩ := row_lc g0 g2 xs (acc ++ [c]) h1 B1 (by simp; omega)
    refine ⟨c :: l, h2, ?_, fun d hd => ?_, by simp [len], B2, K1.trans K2⟩
    · unfold lcFrom
      rw [show gN 3 x s0 h = .ok (s0.set 3 (some x)) h from rfl]
      dsimp only
      rw [show (mC (.bl true)) (s0.set 3 (some x)) h = .ok (.bl true) h from rfl]
      dsimp only
      rw [show meOf (s0.set 3 (some x)) h = .ok (.str (sS [c])) h1 from Mi.mA_ok (Mi.cons_ok (Mi.var_ok h (by rw [List.getElem?_set_ne (by decide)]; exact g0)) (Mi.cons_ok (Mi.var_ok h (by rw [List.getElem?_set_ne (by decide)]; exact g2)) Mi.nil_ok)) e]
      dsimp only
      rw [if_pos (Nat.lt_of_lt_of_le (show (chs acc).length < 1001 by simp [chs]; omega) (Mi.big_of (by omega)))]
      rw [show chs acc ++ [T.str (sS [c])] = chs (acc ++ [c]) by simp [chs], e2]
      simp
    · rcases List.mem_cons.mp hd with rfl | q
      · exact hc
      · exact ok d q
theorem row_ok {h : MH} {i : Nat} (B : Bag h i) : ∃ (l : List Nat) (h' : MH), (fS 3 m_law_row) [.ref i, .int 8, .str "blnr"] h = .ok (.str (sS l)) h' ∧ OkR l ∧ l.length ≤ 8 ∧ Bag h' i ∧ Keeps i h h' := by
  obtain ⟨r, h1, e, p, q, B1, K1⟩ := drawC B (many := 9) (by omega) (by omega)
  let S : SM := [some (.ref i), some (.int 8), some (.str "blnr"), none]
  have e1 : (mIA iRg1 (aCons (mA (fS 2 m_law_draw) (aCons (mVar 0) (aCons (m2 fAdd (mVar 1) (mC (.int 1))) aNil))) aNil)) S h = .ok (intsT 0 r.toNat) h1 := by
    have z : (mA (fS 2 m_law_draw) (aCons (mVar 0) (aCons (m2 fAdd (mVar 1) (mC (.int 1))) aNil))) S h = .ok (.int r) h1 := Mi.mA_ok (Mi.cons_ok (Mi.var_ok h rfl) (Mi.cons_ok (t := .int 9) rfl Mi.nil_ok)) e
    show ((aCons _ aNil) S h).bindL iRg1 = _
    rw [Mi.cons_ok z Mi.nil_ok]
    show (if rgOk r then RL.ok (intsT 0 r.toNat) h1 else .stuck) = _
    rw [if_pos (by unfold rgOk; simp; omega)]
  obtain ⟨l, h2, e2, ok, len, B2, K2⟩ := row_lc (i := i) (s0 := S) rfl rfl (intsT 0 r.toNat) [] h1 B1 (by rw [intsT_len]; simp; omega)
  rw [intsT_len] at len
  have e3 : mLc (mIA iRg1 (aCons (mA (fS 2 m_law_draw) (aCons (mVar 0) (aCons (m2 fAdd (mVar 1) (mC (.int 1))) aNil))) aNil)) (gN 3) (mC (.bl true)) meOf [3] S h = .ok (.lst (chs l)) h2 := by
    show ((mIA iRg1 _) S h).bind _ = _
    rw [e1]
    exact e2
  exact ⟨l, h2, def_rt (n := 4) (ts := [.ref i, .int 8, .str "blnr"]) (Mi.seq_rt (Mi.retF_ok rfl (join_ok e3 (by omega)))), ok, by omega, B2, K1.trans K2⟩
end L_k01
end part_R01
section part_S01
set_option maxRecDepth 100000
set_option maxHeartbeats 4000000
/-! the plain law of k01: the first half of a turn -/
namespace L_k01
open PySem PySem.Spec PyProof.Rows L2 Mi
theorem alk {t : T} (p : Mi.Pl 8 t) (h : MH) : fP 2 (m_law_alike 8) [t, t] h = .ok (.bl true) h := Mi.fP2 p.closed p.closed (alike_refl p []) rfl
theorem alk2 {t : T} {m1 m2' : ME} {s : SM} {m : MS} {h h1 : MH} (p : Mi.Pl 8 t) (e1 : m1 s h = .ok t h1) (e2 : m2' s h1 = .ok t h1) : mIfS (mNot (mTru (mA (fP 2 (m_law_alike 8)) (aCons m1 (aCons m2' aNil))))) m mNx s h = .nx s h1 :=
  Mi.ifs_f (Mi.not_ok (Mi.tru_ok (Mi.mA_ok (Mi.cons_ok e1 (Mi.cons_ok e2 Mi.nil_ok)) (alk p h1))))
section
variable {y0 y2 y3 y4 y5 y6 y7 y8 y9 y10 y11 : Option T} {h : MH} {l : List Nat} {hd : Bool}
theorem b1 (B : Bag h 1) : ∃ (l : List Nat) (hd : Bool) (h' : MH), s1 (st y0 y2 y3 y4 y5 y6 y7 y8 y9 y10 y11) h = .nx (st y0 y2 y3 y4 y5 y6 (some (.str (sS l))) (some (.int (hI hd))) y9 y10 y11) h' ∧ OkR l ∧ l.length ≤ 8 ∧ Bag h' 1 ∧ Keeps 1 h h' := by
  obtain ⟨l, h1, e1, ok, len, B1, K1⟩ := row_ok B
  obtain ⟨r, h2, e2, p, q, B2, K2⟩ := drawC B1 (many := 2) (by omega) (by omega)
  have hr : ∃ hd : Bool, r = hI hd := by
    have : r = 0 ∨ r = 1 := by omega
    rcases this with rfl | rfl
    · exact ⟨false, rfl⟩
    · exact ⟨true, rfl⟩
  obtain ⟨hd, rfl⟩ := hr
  exact ⟨l, hd, h2, Mi.as_ok (t := .tup [.str (sS l), .int (hI hd)]) (Mi.mA_ok (Mi.cons_ok (Mi.mA_ok (Mi.cons_ok (Mi.var_ok _ rfl) (Mi.cons_ok (t := .int 8) rfl (Mi.cons_ok (t := .str "blnr") rfl Mi.nil_ok))) e1) (Mi.cons_ok (Mi.mA_ok (Mi.cons_ok (Mi.var_ok _ rfl) (Mi.cons_ok (t := .int 2) rfl Mi.nil_ok)) e2) Mi.nil_ok)) rfl) rfl, ok, len, B2, K1.trans K2⟩
/-! ### the due rounds -/
abbrev tE : ME := mTru (mA (fP 2 m_law_hears) (aCons (mVar 8) (aCons (m2 fIx (mVar 7) (mVar 11)) aNil)))
theorem due_lc {s0 : SM} (g7 : s0[7]? = some (some (.str (sS l)))) (g8 : s0[8]? = some (some (.int (hI hd)))) (hn : l.length ≤ 500) (gl : 11 < s0.length) : ∀ (rest pre : List Nat) (acc : List T), l = pre ++ rest → acc.length + rest.length ≤ 1000 →
    lcFrom (gN 11) tE (mVar 11) s0 (intsT (pre.length : Int) rest.length) acc h = .ok (.lst (acc ++ iL (idx hd pre.length rest))) h
  | [], pre, acc, _, _ => by simp [lcFrom, intsT, idx]
  | c :: rest, pre, acc, e, hl => by
    rw [List.length_cons] at hl
    have hp : pre.length < l.length := by rw [e]; simp
    have hc : l[pre.length] = c := by simp [e]
    have q1 : fIx (.str (sS l)) (.int (pre.length : Nat)) h = .ok (.str (sS [c])) h := by
      have := fIx_s (l := l) (h := h) (Mi.big_of (by omega)) (atI_nat hp)
      rw [hc] at this
      exact this
    have g11 : (s0.set 11 (some (.int (pre.length : Int))))[11]? = some (some (.int (pre.length : Int))) := List.getElem?_set_self gl
    have t1 : tE (s0.set 11 (some (.int (pre.length : Int)))) h = .ok (.bl (hb hd c)) h :=
      Mi.tru_ok (Mi.mA_ok (Mi.cons_ok (Mi.var_ok h (by rw [List.getElem?_set_ne (by decide)]; exact g8)) (Mi.cons_ok (Mi.m2_ok (Mi.var_ok h (by rw [List.getElem?_set_ne (by decide)]; exact g7)) (Mi.var_ok h g11) q1) Mi.nil_ok)) (hearsP hd c h))
    show lcFrom _ _ _ _ (.int (pre.length : Int) :: intsT ((pre.length : Int) + 1) rest.length) acc h = _
    unfold lcFrom
    rw [show gN 11 (.int (pre.length : Int)) s0 h = .ok (s0.set 11 (some (.int (pre.length : Int)))) h from rfl]
    dsimp only
    rw [t1, show (pre.length : Int) + 1 = ((pre ++ [c]).length : Int) by simp]
    cases hb' : hb hd c with
    | true =>
      dsimp only
      rw [Mi.var_ok h g11]
      dsimp only
      rw [if_pos (Nat.lt_of_lt_of_le (show acc.length < 1001 by omega) (Mi.big_of (by omega))), due_lc g7 g8 hn gl rest (pre ++ [c]) _ (by rw [e]; simp) (by simp; omega)]
      simp [idx, hb']
    | false =>
      dsimp only
      rw [due_lc g7 g8 hn gl rest (pre ++ [c]) _ (by rw [e]; simp) (by omega)]
      simp [idx, hb']
theorem b2 (hn : l.length ≤ 8) : s2 (st y0 y2 y3 y4 y5 y6 (some (.str (sS l))) (some (.int (hI hd))) y9 y10 y11) h = .nx (st y0 y2 (some (.lst (iL (idx hd 0 l)))) y4 y5 y6 (some (.str (sS l))) (some (.int (hI hd))) y9 y10 y11) h := by
  refine Mi.set_ok (i := 3) ?_
  have e1 : (mIA iRg1 (aCons (mA fLen (aCons (mVar 7) aNil)) aNil)) (st y0 y2 y3 y4 y5 y6 (some (.str (sS l))) (some (.int (hI hd))) y9 y10 y11) h = .ok (intsT 0 l.length) h := by
    have z : (mA fLen (aCons (mVar 7) aNil)) (st y0 y2 y3 y4 y5 y6 (some (.str (sS l))) (some (.int (hI hd))) y9 y10 y11) h = .ok (.int (l.length : Nat)) h := Mi.mA_ok (Mi.cons_ok (Mi.var_ok h rfl) Mi.nil_ok) (by
      show (if (sS l).length ≤ big then R.ok (.int ((sS l).length : Nat)) h else .stuck) = _
      rw [sS_len, if_pos (Mi.big_of (by omega))])
    show ((aCons _ aNil) _ h).bindL iRg1 = _
    rw [Mi.cons_ok z Mi.nil_ok]
    show (if rgOk (l.length : Int) then RL.ok (intsT 0 (l.length : Int).toNat) h else .stuck) = _
    rw [if_pos (by unfold rgOk; simp; omega)]
    rfl
  show ((mIA iRg1 _) _ h).bind _ = _
  rw [e1]
  have z := due_lc (s0 := st y0 y2 y3 y4 y5 y6 (some (.str (sS l))) (some (.int (hI hd))) y9 y10 none) (h := h) (l := l) (hd := hd) rfl rfl (by omega) (by show 11 < 12; decide) l [] [] rfl (by simp; omega)
  rw [List.nil_append] at z
  exact z
theorem b3 : s3 (st y0 y2 y3 y4 y5 y6 y7 y8 y9 y10 y11) h = .nx (st y0 y2 y3 (some (.int 0)) y5 y6 y7 y8 y9 y10 y11) h := rfl
abbrev gb : MS := (mSq (mSet 4 (m2 fAdd (m2 fAdd (mVar 4) (mA fInt (aCons (mNotV (mA (fP 2 m_law_hears) (aCons (mC (.int 0)) (aCons (mVar 5) aNil)))) aNil))) (mA fInt (aCons (mNotV (mA (fP 2 m_law_hears) (aCons (mC (.int 1)) (aCons (mVar 5) aNil)))) aNil)))) mNx)
theorem s4_eq : s4 = mFor (mSrc (mVar 7)) (gN 5) gb := rfl
theorem not_int (hd : Bool) {s : SM} {me : ME} (em : me s h = .ok (.int (hI hd)) h) {c : Nat} (g5 : s[5]? = some (some (.str (sS [c])))) : (mA fInt (aCons (mNotV (mA (fP 2 m_law_hears) (aCons me (aCons (mVar 5) aNil)))) aNil)) s h = .ok (.int (if hb hd c then 0 else 1)) h := by
  have e1 : (mA (fP 2 m_law_hears) (aCons me (aCons (mVar 5) aNil))) s h = .ok (.bl (hb hd c)) h := Mi.mA_ok (Mi.cons_ok em (Mi.cons_ok (Mi.var_ok h g5) Mi.nil_ok)) (hearsP hd c h)
  have e2 : (mNotV (mA (fP 2 m_law_hears) (aCons me (aCons (mVar 5) aNil)))) s h = .ok (.bl (!hb hd c)) h := by
    show ((mA (fP 2 m_law_hears) _) s h).bind fNotV = _
    rw [e1]
    rfl
  refine Mi.mA_ok (Mi.cons_ok e2 Mi.nil_ok) ?_
  cases hb hd c <;> rfl
theorem gone_walk : ∀ (l : List Nat) (g : Int) (y5 : Option T), OkR l → ∃ z5, forFrom (gN 5) gb (chs l) (st y0 y2 y3 (some (.int g)) y5 y6 y7 y8 y9 y10 y11) h = .nx (st y0 y2 y3 (some (.int (g + lostN l))) z5 y6 y7 y8 y9 y10 y11) h
  | [], g, y5, _ => ⟨y5, by simp [forFrom, chs, lostN]⟩
  | c :: l, g, y5, hl => by
    obtain ⟨z5, q⟩ := gone_walk l (g + lo c) (some (.str (sS [c]))) fun x hx => hl x (List.mem_cons_of_mem _ hx)
    refine ⟨z5, ?_⟩
    have k : gb (st y0 y2 y3 (some (.int g)) (some (.str (sS [c]))) y6 y7 y8 y9 y10 y11) h = .nx (st y0 y2 y3 (some (.int (g + lo c))) (some (.str (sS [c]))) y6 y7 y8 y9 y10 y11) h := by
      refine seq_end (Mi.set_ok (i := 4) (s := st y0 y2 y3 (some (.int g)) (some (.str (sS [c]))) y6 y7 y8 y9 y10 y11) (Mi.m2_ok (Mi.m2_ok (Mi.var_ok h rfl) (not_int false (me := mC (.int 0)) rfl rfl) rfl) (not_int true (me := mC (.int 1)) rfl rfl) ?_))
      have z : lo c = (if hb false c then 0 else 1) + (if hb true c then 0 else 1) := of4 (hl c List.mem_cons_self) (p := fun c => lo c = (if hb false c then 0 else 1) + (if hb true c then 0 else 1)) (by decide) (by decide) (by decide) (by decide)
      show R.ok (T.int (g + (if hb false c then 0 else 1) + (if hb true c then 0 else 1))) h = _
      rw [z, Int.add_assoc]
    show forFrom _ _ (.str (sS [c]) :: chs l) _ h = _
    unfold forFrom
    rw [show gN 5 (.str (sS [c])) (st y0 y2 y3 (some (.int g)) y5 y6 y7 y8 y9 y10 y11) h = .ok (st y0 y2 y3 (some (.int g)) (some (.str (sS [c]))) y6 y7 y8 y9 y10 y11) h from rfl]
    dsimp only
    rw [k]
    dsimp only
    rw [q, Int.add_assoc]
    rfl
theorem b4 (ok : OkR l) : ∃ z5, s4 (st y0 y2 y3 (some (.int 0)) y5 y6 (some (.str (sS l))) y8 y9 y10 y11) h = .nx (st y0 y2 y3 (some (.int (lostN l))) z5 y6 (some (.str (sS l))) y8 y9 y10 y11) h := by
  obtain ⟨z5, q⟩ := gone_walk (y0 := y0) (y2 := y2) (y3 := y3) (y6 := y6) (y7 := some (.str (sS l))) (y8 := y8) (y9 := y9) (y10 := y10) (y11 := y11) (h := h) l 0 y5 ok
  rw [Int.zero_add] at q
  refine ⟨z5, ?_⟩
  rw [s4_eq]
  refine for_ok (xs := chs l) ?_ q
  show RL.ok (chrT (sS l)) h = _
  rw [chr_sS]
  rfl
theorem pl_iL {n : Nat} (xs : List Nat) (hx : xs.length ≤ 1000) : Mi.Pl (n + 2) (.lst (iL xs)) := .lst (fun x q => by
  obtain ⟨k, _, rfl⟩ := List.mem_map.mp q
  exact .int _) (Mi.big_of (by simp; omega))
theorem len_idx (hd : Bool) : ∀ (l : List Nat) (n : Nat), (idx hd n l).length ≤ l.length
  | [], _ => Nat.le_refl _
  | c :: l, n => by
    have := len_idx hd l (n + 1)
    unfold idx
    split
    · rw [List.length_cons, List.length_cons]; omega
    · rw [List.length_cons]; omega
abbrev five (hd : Bool) (l : List Nat) : List T := [.lst (iL (idx hd 0 l)), .lst (iL (idx hd 0 l)), .int (lostN l), .str (sS (l.map tr)), .bl true]
theorem kw2 {f : List T → MH → R} {s : SM} {m1' m2' : ME} {t u x : T} (e1 : m1' s h = .ok t h) (e2 : m2' s h = .ok u h) (q : f [u, t] h = .ok x h) : mKw 0 2 [1, 0] f aNil (aCons m1' (aCons m2' aNil)) s h = .ok x h := by
  unfold mKw
  rw [Mi.nil_ok]
  show ((aCons m1' (aCons m2' aNil)) s h).bind _ = _
  rw [Mi.cons_ok e1 (Mi.cons_ok e2 Mi.nil_ok)]
  exact q
theorem kw1 {f : List T → MH → R} {s : SM} {m1' : ME} {t x : T} (e1 : m1' s h = .ok t h) (q : f [t] h = .ok x h) : mKw 0 1 [0] f aNil (aCons m1' aNil) s h = .ok x h := by
  unfold mKw
  rw [Mi.nil_ok]
  show ((aCons m1' aNil) s h).bind _ = _
  rw [Mi.cons_ok e1 Mi.nil_ok]
  exact q
theorem b5 (ok : OkR l) (hn : l.length ≤ 8) : s5 (st y0 y2 (some (.lst (iL (idx hd 0 l)))) (some (.int (lostN l))) y5 y6 (some (.str (sS l))) (some (.int (hI hd))) y9 y10 y11) h = .nx (st y0 y2 (some (.lst (iL (idx hd 0 l)))) (some (.int (lostN l))) y5 y6 (some (.str (sS l))) (some (.int (hI hd))) y9 y10 y11) h := by
  have n5 : l.length ≤ 500 := by omega
  have li := len_idx hd l 0
  have p : Mi.Pl 8 (.lst (five hd l)) := .lst (Pl.lc (pl_iL _ (by omega)) (Pl.lc (pl_iL _ (by omega)) (Pl.lc (.int _) (Pl.lc (.str _) (Pl.lc (.bl _) Pl.l0))))) (Mi.big_of (by simp))
  have v7 : (mVar 7) (st y0 y2 (some (.lst (iL (idx hd 0 l)))) (some (.int (lostN l))) y5 y6 (some (.str (sS l))) (some (.int (hI hd))) y9 y10 y11) h = .ok (.str (sS l)) h := Mi.var_ok h rfl
  have v8 : (mVar 8) (st y0 y2 (some (.lst (iL (idx hd 0 l)))) (some (.int (lostN l))) y5 y6 (some (.str (sS l))) (some (.int (hI hd))) y9 y10 y11) h = .ok (.int (hI hd)) h := Mi.var_ok h rfl
  exact alk2 p (Mi.mA_ok (f := fLst) (Mi.cons_ok (Mi.mA_ok (Mi.cons_ok v8 (Mi.cons_ok v7 Mi.nil_ok)) (heard_ok hd ok n5 h)) (Mi.cons_ok (kw2 v7 v8 (heard_ok hd ok n5 h)) (Mi.cons_ok (Mi.mA_ok (Mi.cons_ok v7 Mi.nil_ok) (lost_ok ok n5 h)) (Mi.cons_ok (Mi.mA_ok (Mi.cons_ok v7 Mi.nil_ok) (turned_ok ok n5 h)) (Mi.cons_ok (Mi.mA_ok (Mi.cons_ok v7 Mi.nil_ok) (is_rowP ok n5 h)) Mi.nil_ok))))) rfl)
    (Mi.mA_ok (f := fLst) (Mi.cons_ok (Mi.var_ok h rfl) (Mi.cons_ok (Mi.var_ok h rfl) (Mi.cons_ok (Mi.var_ok h rfl) (Mi.cons_ok (Mi.mA_ok (Mi.cons_ok v7 Mi.nil_ok) (law_turned_ok ok n5 h)) (Mi.cons_ok (t := .bl true) rfl Mi.nil_ok))))) rfl)
theorem b6 (ok : OkR l) (hn : l.length ≤ 8) : s6 (st y0 y2 (some (.lst (iL (idx hd 0 l)))) y4 y5 y6 (some (.str (sS l))) (some (.int (hI hd))) y9 y10 y11) h = .nx (st y0 y2 (some (.lst (iL (idx hd 0 l)))) y4 y5 y6 (some (.str (sS l))) (some (.int (hI hd))) y9 y10 y11) h := by
  have n5 : l.length ≤ 500 := by omega
  have n6 : (l.map tr).length ≤ 500 := by rw [List.length_map]; omega
  have v7 : (mVar 7) (st y0 y2 (some (.lst (iL (idx hd 0 l)))) y4 y5 y6 (some (.str (sS l))) (some (.int (hI hd))) y9 y10 y11) h = .ok (.str (sS l)) h := Mi.var_ok h rfl
  have v8 : (mVar 8) (st y0 y2 (some (.lst (iL (idx hd 0 l)))) y4 y5 y6 (some (.str (sS l))) (some (.int (hI hd))) y9 y10 y11) h = .ok (.int (hI hd)) h := Mi.var_ok h rfl
  have e1 := turned_ok (okR_tr ok) n6 h
  rw [tr_tr ok] at e1
  have e2 := fNe_s l l h
  rw [decide_eq_true rfl] at e2
  have e3 := heard_ok (!hd) (okR_tr ok) n6 h
  rw [idx_tr hd l 0 ok] at e3
  have e4 := fNe_ints (idx hd 0 l) (idx hd 0 l) h
  rw [decide_eq_true rfl] at e4
  exact Mi.ifs_f ((Mi.or_f (Mi.m2_ok (Mi.mA_ok (Mi.cons_ok (kw1 v7 (turned_ok ok n5 h)) Mi.nil_ok) e1) v7 e2)).trans (Mi.m2_ok (Mi.mA_ok (Mi.cons_ok (Mi.m2_ok (t := .int 1) rfl v8 (sub_hand hd h)) (Mi.cons_ok (Mi.mA_ok (Mi.cons_ok v7 Mi.nil_ok) (turned_ok ok n5 h)) Mi.nil_ok)) e3) (Mi.var_ok h rfl) e4))
end
end L_k01
end part_S01
section part_U01
set_option maxRecDepth 100000
set_option maxHeartbeats 4000000
/-! the plain law of k01: values that are no rows, no hands; the second half of a turn -/
namespace L_k01
open PySem PySem.Spec PyProof.Rows L2 Mi
def Q : Str := "law.<locals>.<lambda>"
abbrev ODD (l : List Nat) : List T := [.str "a", .str (sS (l ++ [66])), .non, .int 3, .lst [.str "b"], .str "b l", .tup [.str "b"]]
abbrev BADH : List T := [.int 2, .int (-1), .non, .bl true, .str "0"]
abbrev xH (x : T) : Exc := ⟨"InvalidHand", ["given", "tag"], [x, .str "InvalidHand"]⟩
abbrev xR (x : T) : Exc := ⟨"InvalidRow", ["given", "tag"], [x, .str "InvalidRow"]⟩
def su : MS := (mSq (mRetF (mA fTup (aCons (m1 (fFldX xs_tag "tag") (mVar 1)) (aCons (mA (fP 1 m_law_field) (aCons (mVar 1) aNil)) aNil)))) mNx)
theorem why_eq : m_law_why = mWhyL tabL ct_why su := rfl
theorem whys_eq : m_law_whys = mWhysL m_law_why := rfl
theorem cl_odd {l : List Nat} : ∀ x ∈ ODD l, closed x = true := by
  (repeat' (first | exact List.forall_mem_nil _ | refine List.forall_mem_cons.2 ⟨?_, ?_⟩)) <;> rfl
theorem cl_bad : ∀ x ∈ BADH, closed x = true := by
  (repeat' (first | exact List.forall_mem_nil _ | refine List.forall_mem_cons.2 ⟨?_, ?_⟩)) <;> rfl
theorem bad_no : ∀ x ∈ BADH, m_need_hand [x] [] = .ex (xH x) [] := by
  (repeat' (first | exact List.forall_mem_nil _ | refine List.forall_mem_cons.2 ⟨?_, ?_⟩)) <;> kernel_rfl
theorem bls_g (P : Nat → Bool) : ∀ k : List Nat, blsOf (k.map fun c => T.bl (P c)) = some (k.map P)
  | [] => rfl
  | c :: k => by
    show (blsOf (k.map fun c => T.bl (P c))).map (P c :: ·) = _
    rw [bls_g P k]; rfl
theorem is_row_b {k : List Nat} (hk : k.length ≤ 500) (hb : (k.all fun c => decide (c ∈ [98, 108, 110, 114])) = false) (m : MH) : m_is_row [.str (sS k)] m = .ok (.bl false) m := by
  let P : Nat → Bool := fun c => decide (c ∈ [98, 108, 110, 114])
  have e1 : mLc (mSrc (mVar 0)) (gN 1) (mC (.bl true)) (m2 (fIn false) (mVar 1) (mC t_SIGNS)) [1] [some (.str (sS k)), none] m = .ok (.lst (k.map fun c => .bl (P c))) m := by
    show lcFrom _ _ _ [some (.str (sS k)), none] (chrT (sS k)) [] m = _
    rw [chr_sS]
    refine lc_chs (fun c => .bl (P c)) k [] (fun c _ => ?_) (by simp; omega)
    show R.ok (.bl (strIn (sS [c]) ("blnr" : Str))) m = _
    rw [e_signs, strIn_c]
  have e2 : fAll [.lst (k.map fun c => .bl (P c))] m = .ok (.bl false) m := by
    simp only [fAll, fBls, lstOf, bls_g]
    have : (k.map P).all id = false := by rw [List.all_map]; exact hb
    rw [this]
  simp only [m_is_row, mi, ms, mz, mty, e1, e2, Nat.reduceAdd, Nat.reduceSub]
theorem row_no {l : List Nat} (hn : l.length ≤ 8) : ∀ x ∈ ODD l, m_is_row [x] [] = .ok (.bl false) [] := by
  refine List.forall_mem_cons.2 ⟨by kernel_rfl, List.forall_mem_cons.2 ⟨is_row_b (by simp; omega) (by simp) [], ?_⟩⟩
  (repeat' (first | exact List.forall_mem_nil _ | refine List.forall_mem_cons.2 ⟨?_, ?_⟩)) <;> kernel_rfl
theorem fP_ex {n : Nat} {f : MF} {ts : List T} {x : Exc} {h h' : MH} (e : f ts [] = .ex x h') (hn : ts.length = n) (hc : closedL ts = true) (hx : closedL x.vs = true) : fP n f ts h = .ex x h := by
  unfold fP
  rw [if_pos ⟨hn, hc⟩, e]
  show (if closedL x.vs = true then R.ex x h else .stuck) = _
  rw [if_pos hx]
theorem need_no {x : T} (c : closed x = true) (e : m_is_row [x] [] = .ok (.bl false) []) (m : MH) : fP 1 m_need_row [x] m = .ex (xR x) m := by
  refine fP_ex (h' := []) ?_ rfl (by simp [closedL, c]) (by simp [closedL, closed, c])
  have e1 : fP 1 m_is_row [x] [] = .ok (.bl false) [] := fP_ok e rfl (by simp [closedL, c]) rfl
  have e2 : (mA (fP 1 m_is_row) (aCons (mVar 0) aNil)) [some x] [] = .ok (.bl false) [] := Mi.mA_ok (Mi.cons_ok (Mi.var_ok [] rfl) Mi.nil_ok) e1
  have e3 : (mSq (mRaise (fExn1 "InvalidRow" "InvalidRow" "given") (aCons (mVar 0) aNil)) mNx) [some x] [] = .ex (xR x) [some x] [] := rfl
  exact def_ex (n := 1) (ts := [x]) (seq_ex ((Mi.ifs_t (Mi.not_ok (Mi.tru_ok e2))).trans e3))
theorem hand_no {x : T} (hx : x ∈ BADH) (m : MH) : fP 1 m_need_hand [x] m = .ex (xH x) m := fP_ex (bad_no x hx) rfl (by simp [closedL, cl_bad x hx]) (by simp [closedL, closed, cl_bad x hx])
section
variable {l : List Nat} {x y : T}
theorem heard_bad (hy : y ∈ BADH) (cx : closed x = true) (m : MH) : fP 2 m_heard [y, x] m = .ex (xH y) m :=
  fP_ex (h' := []) (def_ex (n := 4) (ts := [y, x]) (seq_ex (ex_ex (Mi.mA_ex (Mi.cons_ok (Mi.var_ok (k := 0) [] rfl) Mi.nil_ok) (hand_no hy []))))) rfl (by simp [closedL, cl_bad y hy, cx]) (by simp [closedL, closed, cl_bad y hy])
theorem heard_odd (hn : l.length ≤ 8) (hx : x ∈ ODD l) (m : MH) : fP 2 m_heard [.int 0, x] m = .ex (xR x) m := by
  have e1 : fP 1 m_need_hand [.int (hI false)] [] = .ok .non [] := fP_ok (need_hand_ok false []) rfl rfl rfl
  exact fP_ex (h' := []) (def_ex (n := 4) (ts := [.int 0, x]) ((Mi.seq_nx (ex_ok (Mi.mA_ok (Mi.cons_ok (Mi.var_ok (k := 0) [] rfl) Mi.nil_ok) e1))).trans (seq_ex (ex_ex (Mi.mA_ex (Mi.cons_ok (Mi.var_ok (k := 1) [] rfl) Mi.nil_ok) (need_no (cl_odd x hx) (row_no hn x hx) [])))))) rfl (by simp [closedL, closed, cl_odd x hx]) (by simp [closedL, closed, cl_odd x hx])
theorem lost_odd (hn : l.length ≤ 8) (hx : x ∈ ODD l) (m : MH) : fP 1 m_lost [x] m = .ex (xR x) m :=
  fP_ex (h' := []) (def_ex (n := 2) (ts := [x]) (seq_ex (ex_ex (Mi.mA_ex (Mi.cons_ok (Mi.var_ok (k := 0) [] rfl) Mi.nil_ok) (need_no (cl_odd x hx) (row_no hn x hx) []))))) rfl (by simp [closedL, cl_odd x hx]) (by simp [closedL, closed, cl_odd x hx])
theorem turned_odd (hn : l.length ≤ 8) (hx : x ∈ ODD l) (m : MH) : fP 1 m_turned_row [x] m = .ex (xR x) m :=
  fP_ex (h' := []) (def_ex (n := 1) (ts := [x]) (seq_ex (ex_ex (Mi.mA_ex (Mi.cons_ok (Mi.var_ok (k := 0) [] rfl) Mi.nil_ok) (need_no (cl_odd x hx) (row_no hn x hx) []))))) rfl (by simp [closedL, cl_odd x hx]) (by simp [closedL, closed, cl_odd x hx])
theorem su_hand {x : T} (c : closed x = true) (t0 : Option T) (h : MH) : su [t0, some (.exn "InvalidHand" ["given", "tag"] [x, .str "InvalidHand"])] h = .rt (.tup [.str "InvalidHand", x]) h := by
  have ce : closed (.exn "InvalidHand" ["given", "tag"] [x, .str "InvalidHand"]) = true := by simp [closed, closedL, c]
  have e : m_law_field [.exn "InvalidHand" ["given", "tag"] [x, .str "InvalidHand"]] [] = .ok x [] := by
    have : fzT x [] = (x, []) := fzT_closed c
    refine Eq.trans (b := R.ok (fzT x []).1 (fzT x []).2) (by kernel_rfl) ?_
    rw [this]
  have e1 := Mi.fP1 (h := h) ce e c
  have e2 : fFldX xs_tag "tag" (.exn "InvalidHand" ["given", "tag"] [x, .str "InvalidHand"]) h = .ok (.str "InvalidHand") h := by kernel_rfl
  have e3 : fTup [.str "InvalidHand", x] h = .ok (.tup [.str "InvalidHand", x]) h := rfl
  simp only [su, mi, ms, mz, e1, e2, e3]
theorem su_row {x : T} (c : closed x = true) (t0 : Option T) (h : MH) : su [t0, some (.exn "InvalidRow" ["given", "tag"] [x, .str "InvalidRow"])] h = .rt (.tup [.str "InvalidRow", x]) h := by
  have ce : closed (.exn "InvalidRow" ["given", "tag"] [x, .str "InvalidRow"]) = true := by simp [closed, closedL, c]
  have e : m_law_field [.exn "InvalidRow" ["given", "tag"] [x, .str "InvalidRow"]] [] = .ok x [] := by
    have : fzT x [] = (x, []) := fzT_closed c
    refine Eq.trans (b := R.ok (fzT x []).1 (fzT x []).2) (by kernel_rfl) ?_
    rw [this]
  have e1 := Mi.fP1 (h := h) ce e c
  have e2 : fFldX xs_tag "tag" (.exn "InvalidRow" ["given", "tag"] [x, .str "InvalidRow"]) h = .ok (.str "InvalidRow") h := by kernel_rfl
  have e3 : fTup [.str "InvalidRow", x] h = .ok (.tup [.str "InvalidRow", x]) h := rfl
  simp only [su, mi, ms, mz, e1, e2, e3]
abbrev rH (y : T) : T := .tup [.str "InvalidHand", y]
abbrev rR (x : T) : T := .tup [.str "InvalidRow", x]
theorem ask0 (hx : x ∈ ODD l) (hy : y ∈ BADH) : AskOk ct_why su LE_0 [y, x] (rH y) :=
  .inr ⟨xH y, fun h => by
    show ml_0 [some y, some x] h = _
    exact Mi.mA_ex (Mi.cons_ok (Mi.var_ok h rfl) (Mi.cons_ok (Mi.var_ok h rfl) Mi.nil_ok)) (heard_bad hy (cl_odd x hx) h), rfl, fun t0 h => su_hand (cl_bad y hy) t0 h⟩
theorem ask1 (hn : l.length ≤ 8) (hx : x ∈ ODD l) : AskOk ct_why su LE_1 [x] (rR x) :=
  .inr ⟨xR x, fun h => by
    show ml_1 [some (.int 0), some x] h = _
    exact Mi.mA_ex (Mi.cons_ok (t := .int 0) rfl (Mi.cons_ok (Mi.var_ok h rfl) Mi.nil_ok)) (heard_odd hn hx h), rfl, fun t0 h => su_row (cl_odd x hx) t0 h⟩
theorem ask2 (hn : l.length ≤ 8) (hx : x ∈ ODD l) : AskOk ct_why su LE_2 [x] (rR x) :=
  .inr ⟨xR x, fun h => by
    show ml_2 [some (.int 0), some x] h = _
    exact Mi.mA_ex (Mi.cons_ok (Mi.var_ok h rfl) Mi.nil_ok) (lost_odd hn hx h), rfl, fun t0 h => su_row (cl_odd x hx) t0 h⟩
theorem ask3 (hn : l.length ≤ 8) (hx : x ∈ ODD l) : AskOk ct_why su LE_3 [x] (rR x) :=
  .inr ⟨xR x, fun h => by
    show ml_3 [some (.int 0), some x] h = _
    exact Mi.mA_ex (Mi.cons_ok (Mi.var_ok h rfl) Mi.nil_ok) (turned_odd hn hx h), rfl, fun t0 h => su_row (cl_odd x hx) t0 h⟩
end
section
variable {y0 y2 y3 y4 y5 y6 y7 y8 y9 y10 y11 : Option T} {h : MH} {l : List Nat} {hd : Bool} {x y : T} {P L : Addr}
theorem b7 (hn : l.length ≤ 8) (B : Bag h 1) : ∃ (x y : T) (h' : MH), s7 (st y0 y2 y3 y4 y5 y6 (some (.str (sS l))) y8 y9 y10 y11) h = .nx (st y0 y2 y3 y4 y5 y6 (some (.str (sS l))) y8 (some x) (some y) y11) h' ∧ x ∈ ODD l ∧ y ∈ BADH ∧ Bag h' 1 ∧ Keeps 1 h h' := by
  obtain ⟨x, h1, e1, hx, B1, K1⟩ := ofC (xs := ODD l) B (by simp) (by simp) rfl
  obtain ⟨y, h2, e2, hy, B2, K2⟩ := ofC (xs := BADH) B1 (by simp) (by simp) rfl
  have eB : (m2 fAdd (mVar 7) (mC (.str "B"))) (st y0 y2 y3 y4 y5 y6 (some (.str (sS l))) y8 y9 y10 y11) h = .ok (.str (sS (l ++ [66]))) h := by
    exact Mi.m2_ok (Mi.var_ok h rfl) (mb := mC (.str "B")) (u := .str (sS [66])) rfl (fAdd_s (Mi.big_of (by simp; omega)))
  have l1 := Mi.mA_ok (f := fLst) (Mi.cons_ok (me := mC (.str "a")) (t := .str "a") rfl (Mi.cons_ok eB (Mi.cons_ok (me := mC .non) (t := .non) rfl (Mi.cons_ok (me := mC (.int 3)) (t := .int 3) rfl (Mi.cons_ok (me := mA fLst (aCons (mC (.str "b")) aNil)) (t := .lst [.str "b"]) rfl (Mi.cons_ok (me := mC (.str "b l")) (t := .str "b l") rfl (Mi.cons_ok (me := mA fTup (aCons (mC (.str "b")) aNil)) (t := .tup [.str "b"]) rfl (Mi.nil_ok (s := st y0 y2 y3 y4 y5 y6 (some (.str (sS l))) y8 y9 y10 y11) (h := h))))))))) rfl
  exact ⟨x, y, h2, Mi.as_ok (t := .tup [x, y]) (Mi.mA_ok (Mi.cons_ok (Mi.mA_ok (Mi.cons_ok (Mi.var_ok _ rfl) (Mi.cons_ok l1 Mi.nil_ok)) e1) (Mi.cons_ok (Mi.mA_ok (Mi.cons_ok (Mi.var_ok _ rfl) (Mi.cons_ok (Mi.mA_ok (f := fLst) (ts := BADH) rfl rfl) Mi.nil_ok)) e2) Mi.nil_ok)) rfl) rfl, hx, hy, B2, K1.trans K2⟩
def f4 (L : Nat) : List T := [.fn 0 LI_0 (C_law L), .fn 1 LI_1 (C_law L), .fn 2 LI_2 (C_law L), .fn 3 LI_3 (C_law L)]
def f4c (L n : Nat) : List T := [.fnc 0 LI_0 (C_law L) n, .fnc 1 LI_1 (C_law L) n, .fnc 2 LI_2 (C_law L) n, .fnc 3 LI_3 (C_law L) n]
theorem close4 (n : Nat) : (f4 L).map (closeV (C_law L) n) = f4c L n := by
  simp only [f4, f4c, List.map_cons, List.map_nil, closeV_fn]
theorem b8 (t : h[0]? = some (.tab Q P)) : s8 P L (st y0 y2 y3 y4 y5 y6 y7 y8 y9 y10 y11) h = .nx (st y0 y2 y3 y4 y5 (some (.lst (f4 L))) y7 y8 y9 y10 y11) h :=
  Mi.set_ok (Mi.mA_ok (Mi.cons_ok (Mi.lam_ok t) (Mi.cons_ok (Mi.lam_ok t) (Mi.cons_ok (Mi.lam_ok t) (Mi.cons_ok (Mi.lam_ok t) Mi.nil_ok)))) rfl)
abbrev due4 (x y : T) : List T := [rH y, rR x, rR x, rR x]
theorem b9 : s9 (st y0 y2 y3 y4 y5 y6 y7 y8 (some x) (some y) y11) h = .nx (st y0 y2 (some (.lst (due4 x y))) y4 y5 y6 y7 y8 (some x) (some y) y11) h := rfl
abbrev cs4 (od ba ha ro : Option T) : MH := [.cel od, .cel ba, .cel ha, .cel ro]
theorem ask {z1 z2 z3 z4 : Option T} {k : Nat} {e : LamE} {ts : List T} {r : T} (a : AskOk ct_why su e ts r) (ht : tabL[k]? = some e) (ok : okC (C_law L) e.fr e.js = true) (cv : celVals (cs4 z1 z2 z3 z4) 0 e.js = some ts) :
    m_law_why [.fnc k e.I (C_law L) h.length] (h ++ cs4 z1 z2 z3 z4) = .ok r (h ++ cs4 z1 z2 z3 z4) := why_of rfl a ht ok (by kernel_rfl) (by kernel_rfl) cv
theorem pl_odd : ∀ x ∈ ODD l, Mi.Pl 6 x := by
  refine List.forall_mem_cons.2 ⟨.str _, List.forall_mem_cons.2 ⟨.str _, ?_⟩⟩
  (repeat' (first | exact List.forall_mem_nil _ | refine List.forall_mem_cons.2 ⟨?_, ?_⟩)) <;> exact plB_ok (by decide +kernel)
theorem pl_bad : ∀ x ∈ BADH, Mi.Pl 6 x := by
  (repeat' (first | exact List.forall_mem_nil _ | refine List.forall_mem_cons.2 ⟨?_, ?_⟩)) <;> exact plB_ok (by decide +kernel)
theorem b10 (hn : l.length ≤ 8) (hx : x ∈ ODD l) (hy : y ∈ BADH) : s10 P L (st y0 y2 (some (.lst (due4 x y))) y4 y5 (some (.lst (f4 L))) y7 y8 (some x) (some y) y11) h = .nx (st y0 y2 (some (.lst (due4 x y))) y4 y5 (some (.lst (f4 L))) y7 y8 (some x) (some y) y11) (h ++ deads (C_law L)) := by
  have w : m_law_whys [.lst (f4c L h.length)] (h ++ cs4 (some x) (some y) y8 y7) = .ok (.lst (due4 x y)) (h ++ cs4 (some x) (some y) y8 y7) :=
    whys_ok (Mi.big_of (by simp [f4c])) (.cons (ask (k := 0) (e := LE_0) (ask0 hx hy) rfl (by kernel_rfl) (by kernel_rfl)) (.cons (ask (k := 1) (e := LE_1) (ask1 hn hx) rfl (by kernel_rfl) (by kernel_rfl)) (.cons (ask (k := 2) (e := LE_2) (ask2 hn hx) rfl (by kernel_rfl) (by kernel_rfl)) (.cons (ask (k := 3) (e := LE_3) (ask3 hn hx) rfl (by kernel_rfl) (by kernel_rfl)) .nil))))
  have e0 : mLend m_law_whys 1 (C_law L) ix_law (aCons (mVar 6) aNil) (st y0 y2 (some (.lst (due4 x y))) y4 y5 (some (.lst (f4 L))) y7 y8 (some x) (some y) y11) h = .ok (.lst (due4 x y)) (h ++ deads (C_law L)) :=
    lend_ok' (Mi.cons_ok (Mi.var_ok _ rfl) Mi.nil_ok) (by kernel_rfl) (by kernel_rfl) (by rw [close4]; exact w)
  have p : Mi.Pl 8 (.lst (due4 x y)) := .lst (Pl.lc (pl_bad y hy).ans (Pl.lc (pl_odd x hx).ans (Pl.lc (pl_odd x hx).ans (Pl.lc (pl_odd x hx).ans Pl.l0)))) (Mi.big_of (by simp))
  have e2 : fP 1 m_is_row [x] (h ++ deads (C_law L)) = .ok (.bl false) (h ++ deads (C_law L)) := fP_ok (row_no hn x hx) rfl (by simp [closedL, cl_odd x hx]) rfl
  exact Mi.ifs_f ((Mi.or_f (Mi.not_ok (Mi.tru_ok (Mi.mA_ok (Mi.cons_ok e0 (Mi.cons_ok (Mi.var_ok _ rfl) Mi.nil_ok)) (alk p _))))).trans (Mi.m2_ok (kw1 (Mi.var_ok _ rfl) e2) (mb := mC (.bl false)) rfl rfl))
theorem body (t : h[0]? = some (.tab Q P)) (B : Bag h 1) : ∃ x3 x4 x5 x6 x7 x8 x9 x10 x11 h', c2b P L (st y0 y2 y3 y4 y5 y6 y7 y8 y9 y10 y11) h = .nx (st y0 y2 x3 x4 x5 x6 x7 x8 x9 x10 x11) h' ∧ h'[0]? = some (.tab Q P) ∧ Bag h' 1 := by
  obtain ⟨l, hd, h1, e1, ok, hn, B1, K1⟩ := b1 (y0 := y0) (y2 := y2) (y3 := y3) (y4 := y4) (y5 := y5) (y6 := y6) (y7 := y7) (y8 := y8) (y9 := y9) (y10 := y10) (y11 := y11) B
  have e2 := b2 (y0 := y0) (y2 := y2) (y3 := y3) (y4 := y4) (y5 := y5) (y6 := y6) (y9 := y9) (y10 := y10) (y11 := y11) (h := h1) (hd := hd) hn
  have e3 := b3 (y0 := y0) (y2 := y2) (y3 := some (.lst (iL (idx hd 0 l)))) (y4 := y4) (y5 := y5) (y6 := y6) (y7 := some (.str (sS l))) (y8 := some (.int (hI hd))) (y9 := y9) (y10 := y10) (y11 := y11) (h := h1)
  obtain ⟨z5, e4⟩ := b4 (y0 := y0) (y2 := y2) (y3 := some (.lst (iL (idx hd 0 l)))) (y5 := y5) (y6 := y6) (y8 := some (.int (hI hd))) (y9 := y9) (y10 := y10) (y11 := y11) (h := h1) ok
  have e5 := b5 (y0 := y0) (y2 := y2) (y5 := z5) (y6 := y6) (y9 := y9) (y10 := y10) (y11 := y11) (h := h1) (hd := hd) ok hn
  have e6 := b6 (y0 := y0) (y2 := y2) (y4 := some (.int (lostN l))) (y5 := z5) (y6 := y6) (y9 := y9) (y10 := y10) (y11 := y11) (h := h1) (hd := hd) ok hn
  obtain ⟨x, y, h2, e7, hx, hy, B2, K2⟩ := b7 (y0 := y0) (y2 := y2) (y3 := some (.lst (iL (idx hd 0 l)))) (y4 := some (.int (lostN l))) (y5 := z5) (y6 := y6) (y8 := some (.int (hI hd))) (y9 := y9) (y10 := y10) (y11 := y11) hn B1
  have t2 : h2[0]? = some (.tab Q P) := by rw [K2.get 0 (by decide), K1.get 0 (by decide)]; exact t
  have e8 := b8 (L := L) (y0 := y0) (y2 := y2) (y3 := some (.lst (iL (idx hd 0 l)))) (y4 := some (.int (lostN l))) (y5 := z5) (y6 := y6) (y7 := some (.str (sS l))) (y8 := some (.int (hI hd))) (y9 := some x) (y10 := some y) (y11 := y11) t2
  have e9 := b9 (y0 := y0) (y2 := y2) (y3 := some (.lst (iL (idx hd 0 l)))) (y4 := some (.int (lostN l))) (y5 := z5) (y6 := some (.lst (f4 L))) (y7 := some (.str (sS l))) (y8 := some (.int (hI hd))) (y11 := y11) (h := h2) (x := x) (y := y)
  have e10 := b10 (P := P) (L := L) (y0 := y0) (y2 := y2) (y4 := some (.int (lostN l))) (y5 := z5) (y7 := some (.str (sS l))) (y8 := some (.int (hI hd))) (y11 := y11) (h := h2) hn hx hy
  refine ⟨some (.lst (due4 x y)), some (.int (lostN l)), z5, some (.lst (f4 L)), some (.str (sS l)), some (.int (hI hd)), some x, some y, y11, h2 ++ deads (C_law L), ?_, by rw [List.getElem?_append_left (List.getElem?_eq_some_iff.mp t2).1]; exact t2, Mi.Bag.app B2⟩
  unfold c2b
  rw [Mi.seq_nx e1, Mi.seq_nx e2, Mi.seq_nx e3, Mi.seq_nx e4, Mi.seq_nx e5, Mi.seq_nx e6, Mi.seq_nx e7, Mi.seq_nx e8, Mi.seq_nx e9, Mi.seq_nx e10]
  rfl
theorem fin_ok {y1 : Option T} : c3z [y0, y1, y2, y3, y4, y5, y6, y7, y8, y9, y10, y11] h = .rt (.bl true) h := by kernel_rfl
end
theorem pure_law (P L : Nat) {ns : List Int} {t0 : T} (_ : ns.length ≤ 63) (h0 : t0 = .frl (ns.map T.int) ∨ t0 = .lst (ns.map T.int)) : ∃ h', m_law P L [t0] [.tab Q P] = .ok (.bl true) h' := by
  obtain ⟨o, b1, B1⟩ := bag_t h0 [.tab Q P]
  have b1' : (fS 1 m_law_bag) [t0] [.tab Q P] = .ok (.ref 1) ([.tab Q P] ++ [o]) := b1
  have e1 : c1 [some t0, none, none, none, none, none, none, none, none, none, none, none] [.tab Q P] = .nx (st (some t0) none none none none none none none none none none) ([.tab Q P] ++ [o]) :=
    Mi.set_ok (i := 1) (t := .ref 1) (Mi.mA_ok (Mi.cons_ok (t := t0) rfl Mi.nil_ok) b1')
  obtain ⟨s', h', e3, ⟨B', t', y2, y3, y4, y5, y6, y7, y8, y9, y10, y11, es⟩⟩ := turns (mgt := gN 2) (mb := c2b P L) (Inv := fun s h => Bag h 1 ∧ h[0]? = some (.tab Q P) ∧ ∃ y2 y3 y4 y5 y6 y7 y8 y9 y10 y11, s = st (some t0) y2 y3 y4 y5 y6 y7 y8 y9 y10 y11)
    (intsT 0 8) _ ([.tab Q P] ++ [o]) ⟨B1, rfl, none, none, none, none, none, none, none, none, none, none, rfl⟩ (by
      rintro x hx s h ⟨B, t, y2, y3, y4, y5, y6, y7, y8, y9, y10, y11, rfl⟩
      obtain ⟨x3, x4, x5, x6, x7, x8, x9, x10, x11, h', e, t', B'⟩ := body (L := L) (y0 := some t0) (y2 := some x) (y3 := y3) (y4 := y4) (y5 := y5) (y6 := y6) (y7 := y7) (y8 := y8) (y9 := y9) (y10 := y10) (y11 := y11) t B
      exact ⟨st (some t0) (some x) y3 y4 y5 y6 y7 y8 y9 y10 y11, h, _, h', rfl, e, B', t', some x, x3, x4, x5, x6, x7, x8, x9, x10, x11, rfl⟩)
  subst es
  refine ⟨(fzT (.ref 1) h').2, ?_⟩
  have e5 : (c2 P L) (st (some t0) none none none none none none none none none none) ([.tab Q P] ++ [o]) = .nx (st (some t0) y2 y3 y4 y5 y6 y7 y8 y9 y10 y11) h' := for_ok (xs := intsT 0 8) rfl e3
  rw [c_eq]
  have e6 : ∀ m, mDef 12 m [t0] [.tab Q P] = (match m [some t0, none, none, none, none, none, none, none, none, none, none, none] [.tab Q P] with
      | .nx _ h1 => R.ok .non h1
      | .rt t h1 => .ok t h1
      | .ex x _ h1 => .ex x h1
      | _ => .stuck) := fun m => rfl
  have e7 : mFz 1 c3z (st (some t0) y2 y3 y4 y5 y6 y7 y8 y9 y10 y11) h' = .rt (.bl true) (fzT (.ref 1) h').2 := fin_ok
  rw [e6, Mi.seq_nx e1, Mi.seq_nx e5, e7]
end L_k01
end part_U01
section part_H01
set_option maxRecDepth 100000
set_option maxHeartbeats 0
namespace L_k01
open PySem PySem.Spec PyProof.Rows L2 Mi
def names0 : List Str := ["is_number", "is_within", "PostError", "Missing", "InvalidRow", "InvalidHand", "NothingLeft", "SIGNS", "HEARD", "TURNED", "LOST", "is_row", "need_row", "need_hand", "heard", "lost", "turned_signs", "turned_row", "_law_bag", "_law_draw"]
def names1 : List Str := ["_law_of", "_law_row", "_law_hears", "_law_alike", "_law_turned", "_law_field", "_law_why", "_law_whys"]
def names : List Str := names0 ++ names1
def d__law_alike : He.DefD := ⟨("_law_alike", none), "_law_alike", "_law_alike", defArgs s__law_alike, defBody s__law_alike, defScope s__law_alike, [], []⟩
def d__law_bag : He.DefD := ⟨("_law_bag", none), "_law_bag", "_law_bag", defArgs s__law_bag, defBody s__law_bag, defScope s__law_bag, [], []⟩
def d__law_draw : He.DefD := ⟨("_law_draw", none), "_law_draw", "_law_draw", defArgs s__law_draw, defBody s__law_draw, defScope s__law_draw, [], []⟩
def d__law_hears : He.DefD := ⟨("_law_hears", none), "_law_hears", "_law_hears", defArgs s__law_hears, defBody s__law_hears, defScope s__law_hears, [], []⟩
def d__law_of : He.DefD := ⟨("_law_of", none), "_law_of", "_law_of", defArgs s__law_of, defBody s__law_of, defScope s__law_of, [], []⟩
def d__law_row : He.DefD := ⟨("_law_row", none), "_law_row", "_law_row", defArgs s__law_row, defBody s__law_row, defScope s__law_row, [], []⟩
def d__law_turned : He.DefD := ⟨("_law_turned", none), "_law_turned", "_law_turned", defArgs s__law_turned, defBody s__law_turned, defScope s__law_turned, [], []⟩
def d__law_field : He.DefD := ⟨("_law_field", none), "_law_field", "_law_field", defArgs s__law_field, defBody s__law_field, defScope s__law_field, [], []⟩
def d_is_number : He.DefD := ⟨("is_number", none), "is_number", "is_number", defArgs s_is_number, defBody s_is_number, defScope s_is_number, [], []⟩
def d_is_within : He.DefD := ⟨("is_within", none), "is_within", "is_within", defArgs s_is_within, defBody s_is_within, defScope s_is_within, [], []⟩
def d_need_hand : He.DefD := ⟨("need_hand", none), "need_hand", "need_hand", defArgs s_need_hand, defBody s_need_hand, defScope s_need_hand, [], []⟩
def d_is_row : He.DefD := ⟨("is_row", none), "is_row", "is_row", defArgs s_is_row, defBody s_is_row, defScope s_is_row, [], []⟩
def d_need_row : He.DefD := ⟨("need_row", none), "need_row", "need_row", defArgs s_need_row, defBody s_need_row, defScope s_need_row, [], []⟩
def d_heard : He.DefD := ⟨("heard", none), "heard", "heard", defArgs s_heard, defBody s_heard, defScope s_heard, [], []⟩
def d_lost : He.DefD := ⟨("lost", none), "lost", "lost", defArgs s_lost, defBody s_lost, defScope s_lost, [], []⟩
def d_turned_signs : He.DefD := ⟨("turned_signs", none), "turned_signs", "turned_signs", defArgs s_turned_signs, defBody s_turned_signs, defScope s_turned_signs, [], []⟩
def d_turned_row : He.DefD := ⟨("turned_row", none), "turned_row", "turned_row", defArgs s_turned_row, defBody s_turned_row, defScope s_turned_row, [], []⟩
def d__law_why : He.DefD := ⟨("_law_why", none), "_law_why", "_law_why", defArgs s__law_why, defBody s__law_why, defScope s__law_why, [], []⟩
def d__law_whys : He.DefD := ⟨("_law_whys", none), "_law_whys", "_law_whys", defArgs s__law_whys, defBody s__law_whys, defScope s__law_whys, [], []⟩
def d_law : He.DefD := ⟨("law", none), "law", "law", defArgs s_law, defBody s_law, defScope s_law, [], []⟩
def fn0 : List He.DefD := [d__law_alike, d__law_bag, d__law_draw, d__law_hears, d__law_of, d__law_row, d__law_turned, d__law_field, d_is_number, d_is_within, d_need_hand, d_is_row, d_need_row, d_heard, d_lost]
def fn1 : List He.DefD := [d_turned_signs, d_turned_row, d__law_why, d__law_whys, d_law]
def fn : List He.DefD := fn0 ++ fn1
def fa0 : List He.Fa := [.glo "_law_alike", .glo "_law_bag", .glo "_law_draw", .glo "_law_hears", .glo "_law_of", .glo "_law_row", .glo "_law_turned", .glo "_law_field", .glo "is_number", .glo "is_within", .glo "need_hand", .glo "is_row", .glo "need_row", .glo "heard", .glo "lost"]
def fa1 : List He.Fa := [.glo "turned_signs", .glo "turned_row", .glo "_law_why", .glo "_law_whys", .glo "law", .free "all", .free "bool", .free "enumerate", .free "int", .free "isinstance", .free "len", .free "list", .free "range", .free "str", .free "sum"]
def fa2 : List He.Fa := [.free "tuple", .free "zip", .glo "PostError", .glo "Missing", .glo "NothingLeft"]
def fa : List He.Fa := fa0 ++ fa1 ++ fa2
def e_InvalidHand : Pth := (fun K => He.fAd K ("InvalidHand", some ini), ⟨("InvalidHand", some ini), "__init__", "InvalidHand.__init__", defArgs si_InvalidHand, defBody si_InvalidHand, defScope si_InvalidHand, [], []⟩)
def e_InvalidRow : Pth := (fun K => He.fAd K ("InvalidRow", some ini), ⟨("InvalidRow", some ini), "__init__", "InvalidRow.__init__", defArgs si_InvalidRow, defBody si_InvalidRow, defScope si_InvalidRow, [], []⟩)
def sf0 : List Pth := [e_InvalidHand, e_InvalidRow]
def sf : List Pth := sf0
abbrev pfile : Str := PySem.Challenge.pw_hushaccord_k01_rows_and_signs.main.file
def ts : List He.Tab := [(fun K => He.ga K "LOST", ["b", "l", "n", "r"]), (fun K => He.ga K "TURNED", ["b", "l", "n", "r"])]
def ex0 (K : PySem.W.Frag) : Bool := kV K "HEARD" t_HEARD
def ex1 (K : PySem.W.Frag) : Bool := kV K "SIGNS" t_SIGNS
def ex2 (K : PySem.W.Frag) : Bool := exnB K pfile "InvalidHand" "ValueError" "ValueError.__new__" "ValueError.__init__" [.type "ValueError", .type "Exception", .type "BaseException", .type "object"] ["tag", "given"]
def ex3 (K : PySem.W.Frag) : Bool := exnB K pfile "InvalidRow" "ValueError" "ValueError.__new__" "ValueError.__init__" [.type "ValueError", .type "Exception", .type "BaseException", .type "object"] ["tag", "given"]
def ex4 (K : PySem.W.Frag) : Bool := fldXB K xs_given "given"
def ex5 (K : PySem.W.Frag) : Bool := fldXB K xs_tag "tag"
def ex6 (K : PySem.W.Frag) : Bool := exm3B K "PostError" "Missing" "NothingLeft" ct_why
def ex7 (K : PySem.W.Frag) : Bool := (kdG K "LOST" && kdV K "LOST" kt_LOST)
def ex8 (K : PySem.W.Frag) : Bool := (kdG K "TURNED" && kdV K "TURNED" kt_TURNED)
def ex (K : PySem.W.Frag) : Bool := ex0 K && (ex1 K && (ex2 K && (ex3 K && (ex4 K && (ex5 K && (ex6 K && (ex7 K && (ex8 K))))))))
abbrev R : PySem.W.OpenRow := PySem.W.OpenLaw.row PySem.Challenge.rw_hushaccord_k01_rows_and_signs
abbrev qv : Program := PySem.W.view R.prog [32]
def tf : List He.Defn := [("law", none)]
abbrev hk : PySem.W.Hook := hookZD 5 fa fn sf tf ex ts
def ob (s : PySem.W.SharedT) : AlD2 := obsZD 5 fa fn sf tf ex ts (HandSHeadRun.getT s)
theorem ob_eq (s : PySem.W.SharedT) : ob s = hk.obs s.abs := obsZD_eq (HandSHeadRun.getT_eq s)
theorem run_false (w : World) : HandSHeadRun.RunEq R qv hk ob 6000 names (w.withFollow "special-get-raises" false) := by
  intro os
  kernel_rfl
theorem run_true (w : World) : HandSHeadRun.RunEq R qv hk ob 6000 names (w.withFollow "special-get-raises" true) := by
  intro os
  kernel_rfl
theorem run (w : World) : HandSHeadRun.RunEq R qv hk ob 6000 names w := PySem.W.byRow2 "special-get-raises" run_false run_true w
abbrev PP : Program := (PySem.Challenge.rw_hushaccord_k01_rows_and_signs).prog
theorem env {K : PySem.W.Frag} {h base : Heap} {mg : Str → Option Value} {w : World} (X : K.In h) (G : h.Ns mainGlobals mg) (c0 : SaysY fa fn sf ex K) (KD : SaysKd ts w K) : Env PP w base K mg := by
  have c := c0.d
  have CL : ∀ f, mg "law" = some (.ref f) → CodeAt K f (He.cT K ("law", none)).1 := fun f e => by
    obtain ⟨fd, F⟩ := c.def_ 19 (d := d_law) rfl
    have m : mg "law" = some (.ref (He.fAd K ("law", none))) := He.glo_ok X G (c.fact 19 (f := .glo "law") rfl)
    rw [m] at e
    cases e
    exact code_at_of F
  have b0 : ex K = true := c0.more
  unfold ex at b0
  obtain ⟨x0, b1⟩ := bb b0
  obtain ⟨x1, b2⟩ := bb b1
  obtain ⟨x2, b3⟩ := bb b2
  obtain ⟨x3, b4⟩ := bb b3
  obtain ⟨x4, b5⟩ := bb b4
  obtain ⟨x5, b6⟩ := bb b5
  obtain ⟨x6, b7⟩ := bb b6
  obtain ⟨x7, b8⟩ := bb b7
  have x8 := b8
  exact ⟨He.free_ok X G (c.fact 20 (f := .free "all") rfl),
    He.free_ok X G (c.fact 21 (f := .free "bool") rfl),
    He.free_ok X G (c.fact 22 (f := .free "enumerate") rfl),
    He.free_ok X G (c.fact 23 (f := .free "int") rfl),
    He.free_ok X G (c.fact 24 (f := .free "isinstance") rfl),
    He.free_ok X G (c.fact 25 (f := .free "len") rfl),
    He.free_ok X G (c.fact 26 (f := .free "list") rfl),
    He.free_ok X G (c.fact 27 (f := .free "range") rfl),
    He.free_ok X G (c.fact 28 (f := .free "str") rfl),
    He.free_ok X G (c.fact 29 (f := .free "sum") rfl),
    He.free_ok X G (c.fact 30 (f := .free "tuple") rfl),
    He.free_ok X G (c.fact 31 (f := .free "zip") rfl),
    (let ⟨fd, F⟩ := c.def_ 0 (d := d__law_alike) rfl; ⟨_, fd, F, He.glo_ok X G (c.fact 0 (f := .glo "_law_alike") rfl)⟩),
    (let ⟨fd, F⟩ := c.def_ 1 (d := d__law_bag) rfl; ⟨_, fd, F, He.glo_ok X G (c.fact 1 (f := .glo "_law_bag") rfl)⟩),
    (let ⟨fd, F⟩ := c.def_ 2 (d := d__law_draw) rfl; ⟨_, fd, F, He.glo_ok X G (c.fact 2 (f := .glo "_law_draw") rfl)⟩),
    (let ⟨fd, F⟩ := c.def_ 3 (d := d__law_hears) rfl; ⟨_, fd, F, He.glo_ok X G (c.fact 3 (f := .glo "_law_hears") rfl)⟩),
    (let ⟨fd, F⟩ := c.def_ 4 (d := d__law_of) rfl; ⟨_, fd, F, He.glo_ok X G (c.fact 4 (f := .glo "_law_of") rfl)⟩),
    (let ⟨fd, F⟩ := c.def_ 5 (d := d__law_row) rfl; ⟨_, fd, F, He.glo_ok X G (c.fact 5 (f := .glo "_law_row") rfl)⟩),
    (let ⟨fd, F⟩ := c.def_ 6 (d := d__law_turned) rfl; ⟨_, fd, F, He.glo_ok X G (c.fact 6 (f := .glo "_law_turned") rfl)⟩),
    (let ⟨fd, F⟩ := c.def_ 7 (d := d__law_field) rfl; ⟨_, fd, F, He.glo_ok X G (c.fact 7 (f := .glo "_law_field") rfl)⟩),
    (let ⟨fd, F⟩ := c.def_ 8 (d := d_is_number) rfl; ⟨_, fd, F, He.glo_ok X G (c.fact 8 (f := .glo "is_number") rfl)⟩),
    (let ⟨fd, F⟩ := c.def_ 9 (d := d_is_within) rfl; ⟨_, fd, F, He.glo_ok X G (c.fact 9 (f := .glo "is_within") rfl)⟩),
    (let ⟨fd, F⟩ := c.def_ 10 (d := d_need_hand) rfl; ⟨_, fd, F, He.glo_ok X G (c.fact 10 (f := .glo "need_hand") rfl)⟩),
    (let ⟨fd, F⟩ := c.def_ 11 (d := d_is_row) rfl; ⟨_, fd, F, He.glo_ok X G (c.fact 11 (f := .glo "is_row") rfl)⟩),
    (let ⟨fd, F⟩ := c.def_ 12 (d := d_need_row) rfl; ⟨_, fd, F, He.glo_ok X G (c.fact 12 (f := .glo "need_row") rfl)⟩),
    (let ⟨fd, F⟩ := c.def_ 13 (d := d_heard) rfl; ⟨_, fd, F, He.glo_ok X G (c.fact 13 (f := .glo "heard") rfl)⟩),
    (let ⟨fd, F⟩ := c.def_ 14 (d := d_lost) rfl; ⟨_, fd, F, He.glo_ok X G (c.fact 14 (f := .glo "lost") rfl)⟩),
    (let ⟨fd, F⟩ := c.def_ 15 (d := d_turned_signs) rfl; ⟨_, fd, F, He.glo_ok X G (c.fact 15 (f := .glo "turned_signs") rfl)⟩),
    (let ⟨fd, F⟩ := c.def_ 16 (d := d_turned_row) rfl; ⟨_, fd, F, He.glo_ok X G (c.fact 16 (f := .glo "turned_row") rfl)⟩),
    (let ⟨fd, F⟩ := c.def_ 17 (d := d__law_why) rfl; ⟨_, fd, F, He.glo_ok X G (c.fact 17 (f := .glo "_law_why") rfl)⟩),
    (let ⟨fd, F⟩ := c.def_ 18 (d := d__law_whys) rfl; ⟨_, fd, F, He.glo_ok X G (c.fact 18 (f := .glo "_law_whys") rfl)⟩),
    (let ⟨fd, F⟩ := c.def_ 19 (d := d_law) rfl; ⟨_, fd, F, He.glo_ok X G (c.fact 19 (f := .glo "law") rfl)⟩),
    kV_of X G x0,
    kV_of X G x1,
    hasE1_of base_VE X G x2 (c0.def_ 0 (q := e_InvalidHand) rfl) rfl (by decide +kernel) (by decide) (by decide) rfl (fun _ => ⟨_, rfl⟩) (by decide +kernel) rfl ⟨_, rfl, rfl⟩ (by decide) (by decide) (fun _ _ _ _ _ _ _ => rfl) (fun _ _ _ _ _ _ _ => rfl),
    hasE1_of base_VE X G x3 (c0.def_ 1 (q := e_InvalidRow) rfl) rfl (by decide +kernel) (by decide) (by decide) rfl (fun _ => ⟨_, rfl⟩) (by decide +kernel) rfl ⟨_, rfl, rfl⟩ (by decide) (by decide) (fun _ _ _ _ _ _ _ => rfl) (fun _ _ _ _ _ _ _ => rfl),
    fldXB_ok X G x4,
    fldXB_ok X G x5,
    He.glo_ok X G (c.fact 32 (f := .glo "PostError") rfl),
    He.glo_ok X G (c.fact 33 (f := .glo "Missing") rfl),
    He.glo_ok X G (c.fact 34 (f := .glo "NothingLeft") rfl),
    exm3B_ok X G x6,
    (fun f e => CL f e),
    kdAt_of X G (KD 0 _ rfl) x7,
    kdAt_of X G (KD 1 _ rfl) x8⟩
end L_k01
open PySem PySem.W PySem.Calls PyProof.Rows
theorem PySem.Challenge.cw_hushaccord_k01_rows_and_signs_holds : PySem.Challenge.rw_hushaccord_k01_rows_and_signs.Holds := by
  w_on; o_law
  refine HandSHeadRun.head_any (r := OpenLaw.row PySem.Challenge.rw_hushaccord_k01_rows_and_signs) (q := view (OpenLaw.row PySem.Challenge.rw_hushaccord_k01_rows_and_signs).prog [32]) (H := L_k01.hk) (ob := L_k01.ob) (M := 6000) (loose := L_k01.names) (d := HandSHeadRun.topDef (OpenLaw.row PySem.Challenge.rw_hushaccord_k01_rows_and_signs).prog 32) (kwd := []) L_k01.ob_eq
    (by kernel_rfl) (fun s => by kernel_rfl) L_k01.run (by kernel_rfl) (by kernel_rfl) (by kernel_rfl) (by rfl) (by first | assumption | decide +kernel) (by decide +kernel) ⟨rfl, rfl, rfl, rfl, rfl, by decide +kernel⟩ ?hw ?hc
  case hw => w_witness2
  case hc =>
    refine Mi.walk_ofZ (l := PySem.Challenge.rw_hushaccord_k01_rows_and_signs) (n := 63) (k := 10) (x := "_law_script") (CX := L2.CX0) rfl (by decide) (by kernel_rfl) ⟨rfl, by decide, by decide⟩ ?F (fun _ _ _ _ z => z)
    intro w mg fa h Y G hmg0
    obtain ⟨K, KX, c, cd⟩ := Y
    have hmg : mg ("law" : PySem.Str) = some (.ref fa) := by
      have e : (HandSHeadRun.topDef (OpenLaw.row PySem.Challenge.rw_hushaccord_k01_rows_and_signs).prog 32).name = ("law" : PySem.Str) := by kernel_rfl
      rw [← e]
      exact hmg0
    have Y := fun base : Heap => L_k01.env (base := base) (w := w) KX G c.y cd
    obtain ⟨f, fd, F, hm⟩ := (Y h).d_law
    cases hmg.symm.trans hm
    have one : ∀ {p : Addr × Addr}, p ∈ [He.cT K ("law", none)] → p = He.cT K ("law", none) := fun hp => List.mem_singleton.mp hp
    exact ⟨K, fd, [He.cT K ("law", none)], fun vs H Q _ => Mi.spML K mg 1 (L_k01.m_law (He.cT K ("law", none)).2) vs H Q fun _ _ _ => False, KX, fun p hp => by rw [one hp]; exact c.empty _ (List.mem_cons_self ..), fun p hp => by rw [one hp]; exact c.out _ (List.mem_cons_self ..), fun p hp => by rw [one hp]; exact PySem.W.codeHd_of_K KX (c.hd _ (List.mem_cons_self ..)), fun s v => (L2.FunD.bindsA (ps := ["_law_script"]) F fun _ _ _ _ _ _ us hl => match us, hl with | [_], _ => rfl) s [v] rfl,
      fun H a ns hl hT hS => Mi.law_spT (fun L t ht => L_k01.pure_law (He.cT K ("law", none)).2 L hl ht) (hT _ (List.mem_cons_self ..)) hS, fun base _ _ hTB => Mi.law_atL F hm (L_k01.ok_law (P := (PySem.Challenge.rw_hushaccord_k01_rows_and_signs).prog) (w := w) (base := base) (Y base) (hTB _ (List.mem_cons_self ..)))⟩
end part_H01
