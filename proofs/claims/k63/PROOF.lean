import PyProof.Rows.All
import Wide.All
import OpenK.AllK
import Wide.FinOn
import PyProof.EqAt
import PyProof.EqKinds
import PyProof.TupleCall
import HandS.ForMost
import HandS.Exc
import HandS.WordsExc
import HandS.Defaults
import HandS.Deep
import HandS.TupAny
import HandS.TupLe
import HandS.IsInst
import HandS.FStr
import HandS.Flow
import HandS.StrMore
import HandS.More
import KE.GoesMore
import KE.GoesEnum
import KE.GoesZip
import HandS.CallSlots
import HandS.Steps
import PyProof.Rows.StrMul
import HandS.Text
import HandS.List
import HandS.Ends
import HandS.HeadEnd
import HandS.Head0
import HandS.Head1
import HandS.Head2
import HandS.HeadHook1
import HandS.HeadHook2
import HandS.HeadHook3
import HandS.HeadHook4
import HandS.Property
import HandS.MakeKw
import HandS.MakeKwOnly
import KE.KFmtOwn
import OpenK.KOps
import OpenK.KMeth
import KE.KExcInit
import KE.KExcSuper
import KE.KSuper
import HandS.ExcInit
import HandS.Nested
import HandS.ExcSuper
import HandS.ExcIs
import KE.KExcIs
import HandS.ExcField
import KE.KStateDown
import PySem.Challenge.RW_hushaccord_k63_errors_apart
set_option Elab.async false
set_option linter.all false
section part_Mi0
set_option maxRecDepth 100000
set_option maxHeartbeats 2000000
/-! Mi, part 0: values as trees (T), the mirror's heap, how they lie in the abstract heap (Rep), what a step leaves (Ext), the readings of mirrors (tM, tSM). -/
namespace Mi
open PySem PySem.Spec PyProof.Rows L2

/-- a value as a tree; ref: the i-th changeable object -/
inductive T where
  | non | bl (b : Bool) | int (i : Int) | str (s : Str)
  | tup (xs : List T) | lst (xs : List T) | frl (xs : List T)
  | dct (ks vs : List T)
  | obj (c : Str) (ns : List Str) (vs : List T)
  | ref (i : Nat)
  | exn (c : Str) (ns : List Str) (vs : List T)
  deriving Inhabited
/-- a changeable object -/
inductive MO where
  | dead
  | lst (xs : List T)
  | dct (ks vs : List T)
  | ins (c : Str) (ns : List Str) (vs : List T)
  deriving Inhabited
abbrev MH := List MO
/-- an exception: its class, its fields -/
structure Exc where
  c : Str
  ns : List Str
  vs : List T
inductive R where
  | ok (t : T) (h : MH) | ex (x : Exc) (h : MH) | stuck
abbrev SM := List (Option T)
inductive SR where
  | nx (s : SM) (h : MH) | rt (t : T) (h : MH) | bk (s : SM) (h : MH) | ct (s : SM) (h : MH) | ex (x : Exc) (s : SM) (h : MH) | stuck
abbrev ME := SM → MH → R
abbrev MS := SM → MH → SR
def R.bind (r : R) (f : T → MH → R) : R := match r with
  | .ok t h => f t h
  | .ex x h => .ex x h
  | .stuck => .stuck

/-- trees by induction -/
theorem T.ind {P : T → Prop} (non : P .non) (bl : ∀ b, P (.bl b)) (int : ∀ i, P (.int i)) (str : ∀ s, P (.str s))
    (tup : ∀ xs, (∀ x ∈ xs, P x) → P (.tup xs)) (lst : ∀ xs, (∀ x ∈ xs, P x) → P (.lst xs)) (frl : ∀ xs, (∀ x ∈ xs, P x) → P (.frl xs))
    (dct : ∀ ks vs, (∀ x ∈ ks, P x) → (∀ x ∈ vs, P x) → P (.dct ks vs)) (obj : ∀ c ns vs, (∀ x ∈ vs, P x) → P (.obj c ns vs)) (ref : ∀ i, P (.ref i)) (exn : ∀ c ns vs, (∀ x ∈ vs, P x) → P (.exn c ns vs)) : ∀ t, P t := fun t =>
  T.rec (motive_1 := P) (motive_2 := fun xs => ∀ x ∈ xs, P x) non bl int str (fun xs h => tup xs h) (fun xs h => lst xs h) (fun xs h => frl xs h) (fun ks vs h1 h2 => dct ks vs h1 h2) (fun c ns vs h => obj c ns vs h) ref (fun c ns vs h => exn c ns vs h)
    (fun x h => by cases h) (fun a l ha hl x hx => by
      rcases List.mem_cons.mp hx with e | e
      · exact e ▸ ha
      · exact hl x e) t

/-- the ghost: the changeable objects' places, the mirror's heap, places kept apart, the abstract heap -/
structure G where
  rho : List Addr
  h : MH
  pv : List Addr
  H : Hp
def G.hid (g : G) (a : Addr) : Prop := a ∈ g.pv ∨ ∃ (i : Nat) (o : MO), g.rho[i]? = some a ∧ g.h[i]? = some o ∧ o ≠ MO.dead
def KTup (K : PySem.W.Frag) (a : Addr) (xs : List V) : Prop := ∃ (o : Obj) (its : Array Value) (n : Nat), K.lookup a = some o ∧ o.cls = .type "tuple" ∧ o.data = .seq its n ∧ its.size ≤ sizeLine ∧ Vals xs its.toList
def KLst (K : PySem.W.Frag) (a : Addr) (xs : List V) : Prop := ∃ (o : Obj) (its : Array Value) (n : Nat), K.lookup a = some o ∧ o.cls = .type "list" ∧ o.dict = none ∧ o.data = .seq its n ∧ its.size ≤ sizeLine ∧ Vals xs its.toList
def keyT : Key → T
  | .inl i => .int i
  | .inr x => .str x
/-- an exception of the class at C at a, its fields at d -/
def XO (C a d : Addr) : HO := .ext fun h => ∃ (oe : Obj) (vs : Array Value), h.get? a = some oe ∧ Zc (.ref C) (some d) oe ∧ oe.data = .fields vs
section
variable (K : PySem.W.Frag) (mg : Str → Option Value)
mutual
def Rep (g : G) : T → V → Prop
  | .non, v => v = .non
  | .bl b, v => v = .bl b
  | .int i, v => v = .int i
  | .str s, v => v = .str s
  | .tup xs, v => ∃ p vs, v = .ref p ∧ ((Rd g.H p (.tup vs) ∧ ¬ g.hid p) ∨ KTup K p vs) ∧ RepL g xs vs
  | .lst xs, v => ∃ p vs, v = .ref p ∧ (g.H p = some (.lst vs) ∧ ¬ g.hid p) ∧ RepL g xs vs
  | .frl xs, v => ∃ p vs, v = .ref p ∧ (((∃ o, g.H p = some (.frz o (.lst vs))) ∧ ¬ g.hid p) ∨ KLst K p vs) ∧ RepL g xs vs
  | .dct ks vs, v => ∃ p kvs, v = .ref p ∧ (g.H p = some (.dK kvs) ∧ ¬ g.hid p) ∧ ks = kvs.map (fun q => keyT q.1) ∧ RepL g vs (kvs.map (·.2))
  | .obj c ns ts, v => ∃ p C dx fs, v = .ref p ∧ (g.H p = some (.ins C dx fs) ∧ ¬ g.hid p) ∧ mg c = some (.ref C) ∧ fs.map (·.1) = ns ∧ RepL g ts (fs.map (·.2))
  | .ref i, v => ∃ p, v = .ref p ∧ g.rho[i]? = some p
  | .exn c ns ts, v => ∃ p C d fs, v = .ref p ∧ (g.H p = some (XO C p d) ∧ ¬ g.hid p) ∧ (g.H d = some (.xd fs) ∧ ¬ g.hid d) ∧ mg c = some (.ref C) ∧ fs.map (·.1) = ns ∧ RepL g ts (fs.map (·.2))
def RepL (g : G) : List T → List V → Prop
  | [], vs => vs = []
  | t :: ts, vs => ∃ v r, vs = v :: r ∧ Rep g t v ∧ RepL g ts r
end
def RepO (g : G) (a : Addr) : MO → Prop
  | .dead => True
  | .lst xs => ∃ vs, g.H a = some (.lst vs) ∧ RepL K mg g xs vs
  | .dct ks ts => ∃ kvs, g.H a = some (.dK kvs) ∧ ks = kvs.map (fun q => keyT q.1) ∧ RepL K mg g ts (kvs.map (·.2))
  | .ins c ns ts => ∃ C dx fs, g.H a = some (.ins C dx fs) ∧ mg c = some (.ref C) ∧ fs.map (·.1) = ns ∧ RepL K mg g ts (fs.map (·.2))
def RepX (g : G) (x : Exc) (cls : Value) (d : Option Addr) : Prop :=
  ∃ C da fs, cls = .ref C ∧ mg x.c = some (.ref C) ∧ d = some da ∧ (g.H da = some (.xd fs) ∧ ¬ g.hid da) ∧ fs.map (·.1) = x.ns ∧ RepL K mg g x.vs (fs.map (·.2))
structure Rel (g : G) : Prop where
  len : g.rho.length = g.h.length
  inj : ∀ (i j : Nat) a, g.rho[i]? = some a → g.rho[j]? = some a → i = j
  npv : ∀ a ∈ g.pv, a ∉ g.rho
  pvt : ∀ a ∈ g.pv, ∃ o, g.H a = some o
  tr : ∀ (i : Nat) a, g.rho[i]? = some a → ∃ o, g.H a = some o
  obj : ∀ (i : Nat) a o, g.rho[i]? = some a → g.h[i]? = some o → RepO K mg g a o
def RepS (g : G) (s : SM) (σ : L2.St) : Prop := s.length = σ.length ∧ ∀ (i : Nat) t, s[i]? = some (some t) → ∃ v, σ[i]? = some (some v) ∧ Rep K mg g t v
end
structure Ext (g g' : G) : Prop where
  rho : ∀ (i : Nat) a, g.rho[i]? = some a → g'.rho[i]? = some a
  pv : g'.pv = g.pv
  pvk : ∀ a ∈ g.pv, g'.H a = g.H a
  keep : ∀ a o, g.H a = some o → ¬ g.hid a → g'.H a = some o ∧ ¬ g'.hid a
theorem Ext.refl (g : G) : Ext g g := ⟨fun _ _ h => h, rfl, fun _ _ => rfl, fun _ _ h n => ⟨h, n⟩⟩
theorem Ext.trans {a b c : G} (x : Ext a b) (y : Ext b c) : Ext a c :=
  ⟨fun i p h => y.rho i p (x.rho i p h), y.pv.trans x.pv, fun p h => (y.pvk p (by rw [x.pv]; exact h)).trans (x.pvk p h), fun p o h n => let ⟨h1, n1⟩ := x.keep p o h n; y.keep p o h1 n1⟩
section
variable {K : PySem.W.Frag} {mg : Str → Option Value} {g g' : G}
/-- what a representation leans on -/
structure Sub (g g' : G) : Prop where
  rho : ∀ (i : Nat) a, g.rho[i]? = some a → g'.rho[i]? = some a
  keep : ∀ a o, g.H a = some o → ¬ g.hid a → g'.H a = some o ∧ ¬ g'.hid a
theorem Ext.sub (e : Ext g g') : Sub g g' := ⟨e.rho, e.keep⟩
theorem RepL.monoOf : ∀ {ts : List T} {vs : List V}, (∀ t ∈ ts, ∀ v, Rep K mg g t v → Rep K mg g' t v) → RepL K mg g ts vs → RepL K mg g' ts vs
  | [], vs, _, h => by simpa only [RepL] using h
  | t :: ts, vs, f, h => by
    simp only [RepL] at h ⊢
    obtain ⟨v, r, e, h1, h2⟩ := h
    exact ⟨v, r, e, f t List.mem_cons_self v h1, RepL.monoOf (fun t ht => f t (List.mem_cons_of_mem _ ht)) h2⟩
theorem Rep.sub (e : Sub g g') : ∀ t v, Rep K mg g t v → Rep K mg g' t v := by
  intro t
  induction t using T.ind with
  | non => intro v h; simpa only [Rep] using h
  | bl b => intro v h; simpa only [Rep] using h
  | int i => intro v h; simpa only [Rep] using h
  | str s => intro v h; simpa only [Rep] using h
  | tup xs ih =>
    intro v h; simp only [Rep] at h ⊢
    obtain ⟨p, vs, e1, h1, h2⟩ := h
    refine ⟨p, vs, e1, ?_, RepL.monoOf ih h2⟩
    rcases h1 with ⟨h1, n⟩ | h1
    · rcases h1 with h1 | ⟨o, h1⟩
      · exact .inl ⟨.inl (e.keep _ _ h1 n).1, (e.keep _ _ h1 n).2⟩
      · exact .inl ⟨.inr ⟨o, (e.keep _ _ h1 n).1⟩, (e.keep _ _ h1 n).2⟩
    · exact .inr h1
  | lst xs ih =>
    intro v h; simp only [Rep] at h ⊢
    obtain ⟨p, vs, e1, ⟨h1, n⟩, h2⟩ := h
    exact ⟨p, vs, e1, e.keep _ _ h1 n, RepL.monoOf ih h2⟩
  | frl xs ih =>
    intro v h; simp only [Rep] at h ⊢
    obtain ⟨p, vs, e1, h1, h2⟩ := h
    refine ⟨p, vs, e1, ?_, RepL.monoOf ih h2⟩
    rcases h1 with ⟨⟨o, h1⟩, n⟩ | h1
    · exact .inl ⟨⟨o, (e.keep _ _ h1 n).1⟩, (e.keep _ _ h1 n).2⟩
    · exact .inr h1
  | dct ks vs ih1 ih2 =>
    intro v h; simp only [Rep] at h ⊢
    obtain ⟨p, kvs, e1, ⟨h1, n⟩, e2, h2⟩ := h
    exact ⟨p, kvs, e1, e.keep _ _ h1 n, e2, RepL.monoOf ih2 h2⟩
  | obj c ns vs ih =>
    intro v h; simp only [Rep] at h ⊢
    obtain ⟨p, C, dx, fs, e1, ⟨h1, n⟩, e2, e3, h2⟩ := h
    exact ⟨p, C, dx, fs, e1, e.keep _ _ h1 n, e2, e3, RepL.monoOf ih h2⟩
  | ref i =>
    intro v h; simp only [Rep] at h ⊢
    obtain ⟨p, e1, h1⟩ := h
    exact ⟨p, e1, e.rho _ _ h1⟩
  | exn c ns ts ih =>
    intro v h; simp only [Rep] at h ⊢
    obtain ⟨p, C, d, fs, e1, ⟨h1, n⟩, ⟨h2, n2⟩, e2, e3, h3⟩ := h
    exact ⟨p, C, d, fs, e1, e.keep _ _ h1 n, e.keep _ _ h2 n2, e2, e3, RepL.monoOf ih h3⟩
theorem RepL.sub (e : Sub g g') {ts : List T} {vs : List V} (h : RepL K mg g ts vs) : RepL K mg g' ts vs := RepL.monoOf (fun t _ v => Rep.sub e t v) h
theorem Rep.mono {t : T} {v : V} (h : Rep K mg g t v) (e : Ext g g') : Rep K mg g' t v := Rep.sub e.sub t v h
theorem RepL.mono {ts : List T} {vs : List V} (h : RepL K mg g ts vs) (e : Ext g g') : RepL K mg g' ts vs := RepL.sub e.sub h
theorem RepS.sub {s : SM} {σ : L2.St} (e : Sub g g') (h : RepS K mg g s σ) : RepS K mg g' s σ := ⟨h.1, fun i t q => let ⟨v, a, b⟩ := h.2 i t q; ⟨v, a, Rep.sub e t v b⟩⟩
theorem RepS.mono {s : SM} {σ : L2.St} (h : RepS K mg g s σ) (e : Ext g g') : RepS K mg g' s σ := h.sub e.sub
theorem RepX.mono {x : Exc} {cls : Value} {d : Option Addr} (h : RepX K mg g x cls d) (e : Ext g g') : RepX K mg g' x cls d := by
  obtain ⟨C, da, fs, e1, e2, e3, ⟨h1, n⟩, e4, h2⟩ := h
  exact ⟨C, da, fs, e1, e2, e3, e.keep _ _ h1 n, e4, h2.mono e⟩
theorem RepS.set {s : SM} {σ : L2.St} (h : RepS K mg g s σ) {t : T} {v : V} (r : Rep K mg g t v) (i : Nat) : RepS K mg g (s.set i (some t)) (σ.set i (some v)) := by
  refine ⟨by rw [List.length_set, List.length_set, h.1], fun j u q => ?_⟩
  by_cases e : i = j
  · subst e
    rw [List.getElem?_set] at q
    rw [List.getElem?_set]
    by_cases l : i < s.length
    · simp only [l, if_true, Option.some.injEq] at q
      subst q
      simp only [← h.1, l, if_true]
      exact ⟨v, rfl, r⟩
    · simp only [if_true, l, if_false] at q
      cases q
  · rw [List.getElem?_set_ne e] at q ⊢
    exact h.2 j u q
theorem RepL.length : ∀ {ts : List T} {vs : List V}, RepL K mg g ts vs → ts.length = vs.length
  | [], vs, h => by
    simp only [RepL] at h
    rw [h]
    all_goals rfl
  | t :: ts, vs, h => by
    simp only [RepL] at h
    obtain ⟨v, r, e, _, h2⟩ := h
    rw [e, List.length_cons, List.length_cons, h2.length]
theorem RepL.get : ∀ {ts : List T} {vs : List V} {i : Nat} {t : T}, RepL K mg g ts vs → ts[i]? = some t → ∃ v, vs[i]? = some v ∧ Rep K mg g t v
  | [], _, i, t, _, e => by simp at e
  | u :: ts, vs, 0, t, h, e => by
    simp only [RepL] at h
    obtain ⟨v, r, q, h1, h2⟩ := h
    simp at e; subst e; subst q
    exact ⟨v, rfl, h1⟩
  | u :: ts, vs, i + 1, t, h, e => by
    simp only [RepL] at h
    obtain ⟨v, r, q, h1, h2⟩ := h
    subst q
    have z := RepL.get (i := i) (t := t) h2 (by simpa using e)
    simpa using z
theorem RepL.get' {ts : List T} {vs : List V} {i : Nat} {v : V} (h : RepL K mg g ts vs) (e : vs[i]? = some v) : ∃ t, ts[i]? = some t ∧ Rep K mg g t v := by
  have hl : i < ts.length := by rw [h.length]; exact (List.getElem?_eq_some_iff.mp e).1
  obtain ⟨v', e1, r⟩ := h.get (List.getElem?_eq_getElem hl)
  rw [e] at e1; cases e1
  exact ⟨_, List.getElem?_eq_getElem hl, r⟩
theorem RepL.nil : RepL K mg g [] [] := by simp only [RepL]
theorem RepL.cons {t : T} {v : V} {ts : List T} {vs : List V} (h1 : Rep K mg g t v) (h2 : RepL K mg g ts vs) : RepL K mg g (t :: ts) (v :: vs) := by
  simp only [RepL]; exact ⟨v, vs, rfl, h1, h2⟩
theorem RepL.append : ∀ {ts us : List T} {vs ws : List V}, RepL K mg g ts vs → RepL K mg g us ws → RepL K mg g (ts ++ us) (vs ++ ws)
  | [], us, vs, ws, h, q => by
    simp only [RepL] at h
    subst h; exact q
  | t :: ts, us, vs, ws, h, q => by
    simp only [RepL] at h
    obtain ⟨v, r, e, h1, h2⟩ := h
    subst e
    exact RepL.cons h1 (RepL.append h2 q)
theorem RepL.drop : ∀ {ts : List T} {vs : List V} (n : Nat), RepL K mg g ts vs → RepL K mg g (ts.drop n) (vs.drop n)
  | _, _, 0, h => h
  | [], vs, n + 1, h => by
    simp only [RepL] at h
    subst h; exact RepL.nil
  | t :: ts, vs, n + 1, h => by
    simp only [RepL] at h
    obtain ⟨v, r, e, h1, h2⟩ := h
    subst e
    exact RepL.drop n h2
theorem RepL.take : ∀ {ts : List T} {vs : List V} (n : Nat), RepL K mg g ts vs → RepL K mg g (ts.take n) (vs.take n)
  | ts, vs, 0, h => by
    rw [List.take_zero, List.take_zero]
    exact RepL.nil
  | [], vs, n + 1, h => by
    simp only [RepL] at h
    subst h; exact RepL.nil
  | t :: ts, vs, n + 1, h => by
    simp only [RepL] at h
    obtain ⟨v, r, e, h1, h2⟩ := h
    subst e
    exact RepL.cons h1 (RepL.take n h2)
theorem RepL.set : ∀ {ts : List T} {vs : List V} {t : T} {v : V} (i : Nat), RepL K mg g ts vs → Rep K mg g t v → RepL K mg g (ts.set i t) (vs.set i v)
  | [], vs, t, v, i, h, r => by
    simp only [RepL] at h
    subst h; exact RepL.nil
  | u :: ts, vs, t, v, 0, h, r => by
    simp only [RepL] at h
    obtain ⟨w, q, e, h1, h2⟩ := h
    subst e; exact RepL.cons r h2
  | u :: ts, vs, t, v, i + 1, h, r => by
    simp only [RepL] at h
    obtain ⟨w, q, e, h1, h2⟩ := h
    subst e; exact RepL.cons h1 (RepL.set i h2 r)
theorem RepL.one {t : T} {vs : List V} (h : RepL K mg g [t] vs) : ∃ v, vs = [v] ∧ Rep K mg g t v := by
  simp only [RepL] at h
  obtain ⟨v, r, e, h1, h2⟩ := h
  subst h2; exact ⟨v, e, h1⟩
theorem RepL.ints : ∀ (ns : List Int), RepL K mg g (ns.map T.int) (ns.map V.int)
  | [] => RepL.nil
  | n :: ns => RepL.cons (by simp only [Rep]) (RepL.ints ns)
theorem RepL.strs : ∀ (ns : List Str), RepL K mg g (ns.map T.str) (ns.map V.str)
  | [] => RepL.nil
  | n :: ns => RepL.cons (by simp only [Rep]) (RepL.strs ns)
theorem RepL.bls : ∀ (ns : List Bool), RepL K mg g (ns.map T.bl) (ns.map V.bl)
  | [] => RepL.nil
  | n :: ns => RepL.cons (by simp only [Rep]) (RepL.bls ns)
theorem Rep.sqT {xs : List T} {v : V} (h : Rep K mg g (.tup xs) v) : ∃ p vs, v = .ref p ∧ SqT K g.H p vs ∧ RepL K mg g xs vs := by
  simp only [Rep] at h
  obtain ⟨p, vs, e, h1, h2⟩ := h
  exact ⟨p, vs, e, h1.elim (fun z => .inl z.1) .inr, h2⟩
theorem Rep.sqL {xs : List T} {v : V} (h : Rep K mg g (.lst xs) v) : ∃ p vs, v = .ref p ∧ SqL K g.H p vs ∧ RepL K mg g xs vs := by
  simp only [Rep] at h
  obtain ⟨p, vs, e, h1, h2⟩ := h
  exact ⟨p, vs, e, .inl (.inl h1.1), h2⟩
theorem Rep.sqF {xs : List T} {v : V} (h : Rep K mg g (.frl xs) v) : ∃ p vs, v = .ref p ∧ SqL K g.H p vs ∧ RepL K mg g xs vs := by
  simp only [Rep] at h
  obtain ⟨p, vs, e, h1, h2⟩ := h
  exact ⟨p, vs, e, h1.elim (fun z => .inl (.inr z.1)) .inr, h2⟩
/-! ### a new value is laid -/
/-- g with o at a fresh place -/
def G.lay (g : G) (p : Addr) (o : HO) : G := { g with H := upd g.H p o }
theorem Rel.fresh_hid (R : Rel K mg g) {p : Addr} (hp : g.H p = none) (np : p ∉ g.pv) : ¬ g.hid p := by
  rintro (h | ⟨i, o, h1, h2, h3⟩)
  · exact np h
  · have := R.obj i p o h1 h2
    cases o with
    | dead => exact h3 rfl
    | lst xs => obtain ⟨vs, e, _⟩ := this; rw [hp] at e; cases e
    | dct ks ts => obtain ⟨vs, e, _⟩ := this; rw [hp] at e; cases e
    | ins c ns ts => obtain ⟨C, dx, fs, e, _⟩ := this; rw [hp] at e; cases e
theorem lay_sub {p : Addr} {o : HO} (hp : g.H p = none) : Sub g (g.lay p o) :=
  ⟨fun _ _ h => h, fun a u h n => ⟨by show upd g.H p o a = some u; rw [upd_ne (ne_of_none h hp)]; exact h, n⟩⟩
theorem RepO.sub {a : Addr} {o : MO} (e : Sub g g') (ho : ∀ u, g.H a = some u → g'.H a = some u) (h : RepO K mg g a o) : RepO K mg g' a o := by
  cases o with
  | dead => trivial
  | lst xs => obtain ⟨vs, h1, h2⟩ := h; exact ⟨vs, ho _ h1, h2.sub e⟩
  | dct ks ts => obtain ⟨kvs, h1, h2, h3⟩ := h; exact ⟨kvs, ho _ h1, h2, h3.sub e⟩
  | ins c ns ts => obtain ⟨C, dx, fs, h1, h2, h3, h4⟩ := h; exact ⟨C, dx, fs, ho _ h1, h2, h3, h4.sub e⟩
theorem lay_ext {p : Addr} {o : HO} (R : Rel K mg g) (hp : g.H p = none) : Ext g (g.lay p o) :=
  ⟨(lay_sub hp).rho, rfl, fun a ha => by
    obtain ⟨u, e⟩ := R.pvt a ha
    show upd g.H p o a = g.H a
    rw [upd_ne (ne_of_none e hp)], (lay_sub hp).keep⟩
theorem Rel.lay {p : Addr} {o : HO} (R : Rel K mg g) (hp : g.H p = none) : Rel K mg (g.lay p o) :=
  ⟨R.len, R.inj, R.npv, fun a ha => by
    obtain ⟨u, e⟩ := R.pvt a ha
    exact ⟨u, by show upd g.H p o a = some u; rw [upd_ne (ne_of_none e hp)]; exact e⟩, fun i a ha => by
    obtain ⟨u, e⟩ := R.tr i a ha
    exact ⟨u, by show upd g.H p o a = some u; rw [upd_ne (ne_of_none e hp)]; exact e⟩, fun i a u h1 h2 => (R.obj i a u h1 h2).sub (lay_sub hp) fun w hw => by
    show upd g.H p o a = some w
    rw [upd_ne (ne_of_none hw hp)]; exact hw⟩
theorem Rel.no_pv (R : Rel K mg g) {p : Addr} (hp : g.H p = none) : p ∉ g.pv := fun h => by
  obtain ⟨u, e⟩ := R.pvt p h
  rw [hp] at e; cases e
theorem Rel.nohid (R : Rel K mg g) {p : Addr} (hp : g.H p = none) : ¬ g.hid p := R.fresh_hid hp (R.no_pv hp)
theorem rep_tup {p : Addr} {xs : List T} {vs : List V} (R : Rel K mg g) (hp : g.H p = none) (r : RepL K mg g xs vs) : Rep K mg (g.lay p (.tup vs)) (.tup xs) (.ref p) := by
  simp only [Rep]
  exact ⟨p, vs, rfl, .inl ⟨.inl upd_same, R.nohid hp⟩, r.sub (lay_sub hp)⟩
theorem rep_lst {p : Addr} {xs : List T} {vs : List V} (R : Rel K mg g) (hp : g.H p = none) (r : RepL K mg g xs vs) : Rep K mg (g.lay p (.lst vs)) (.lst xs) (.ref p) := by
  simp only [Rep]
  exact ⟨p, vs, rfl, ⟨upd_same, R.nohid hp⟩, r.sub (lay_sub hp)⟩
end
/-! ### the readings of mirrors -/
section
variable (K : PySem.W.Frag) (mg : Str → Option Value) (W : WX)
def wpR (g : G) (σ : L2.St) (Q : VK) : R → Prop
  | .ok t h' => ∀ g' v, g'.h = h' → Ext g g' → Rel K mg g' → Rep K mg g' t v → Q v g'.H
  | .ex x h' => ∀ g' cls d, g'.h = h' → Ext g g' → Rel K mg g' → RepX K mg g' x cls d → W cls d σ g'.H
  | .stuck => False
def tM (m : ME) : TE := fun σ H Q => ∃ g s, g.H = H ∧ Rel K mg g ∧ RepS K mg g s σ ∧ wpR K mg W g σ Q (m s g.h)
def wpS (g : G) (D : Ends) : SR → Prop
  | .nx s' h' => ∀ g' σ', g'.h = h' → Ext g g' → Rel K mg g' → RepS K mg g' s' σ' → D.nx σ' g'.H
  | .bk s' h' => ∀ g' σ', g'.h = h' → Ext g g' → Rel K mg g' → RepS K mg g' s' σ' → D.bk σ' g'.H
  | .ct s' h' => ∀ g' σ', g'.h = h' → Ext g g' → Rel K mg g' → RepS K mg g' s' σ' → D.ct σ' g'.H
  | .rt t h' => ∀ g' v, g'.h = h' → Ext g g' → Rel K mg g' → Rep K mg g' t v → D.rt v g'.H
  | .ex x s' h' => ∀ g' σ' cls d, g'.h = h' → Ext g g' → Rel K mg g' → RepS K mg g' s' σ' → RepX K mg g' x cls d → W cls d σ' g'.H
  | .stuck => False
def tSM (m : MS) : TS := fun D σ H => ∃ g s, g.H = H ∧ Rel K mg g ∧ RepS K mg g s σ ∧ wpS K mg W g D (m s g.h)
end
theorem weakE {X : Cx} {e : Expr} {t t' : TE} (h : PE X e t) (k : ∀ σ H Q, t' σ H Q → t σ H Q) : PE X e t' := ⟨fun pins s σ H Q I q => h.run pins s σ H Q I (k σ H Q q)⟩
theorem weakT {X : Cx} {e : Expr} {t t' : TT} (h : PT X e t) (k : ∀ σ H Q, t' σ H Q → t σ H Q) : PT X e t' := ⟨fun pins s σ H Q I q => h.run pins s σ H Q I (k σ H Q q)⟩
theorem weakA {X : Cx} {e : List Expr} {t t' : TA} (h : PA X e t) (k : ∀ σ H Q, t' σ H Q → t σ H Q) : PA X e t' := ⟨fun p pins s σ H Q I q => h.run p pins s σ H Q I (k σ H Q q)⟩
theorem weakS {X : Cx} {e : Stmt} {t t' : TS} (h : PS X e t) (k : ∀ D σ H, t' D σ H → t D σ H) : PS X e t' := ⟨fun pins s σ H D I q => h.run pins s σ H D I (k D σ H q)⟩
theorem weakSs {X : Cx} {e : List Stmt} {t t' : TS} (h : PSs X e t) (k : ∀ D σ H, t' D σ H → t D σ H) : PSs X e t' := ⟨fun pins s σ H D I q => h.run pins s σ H D I (k D σ H q)⟩
section
variable {K : PySem.W.Frag} {mg : Str → Option Value} {W : WX} {g g' : G} {σ : L2.St} {Q Q' : VK} {D : Ends} {H : Hp}
theorem wpR.ext {r : R} (h : wpR K mg W g σ Q r) (e : Ext g g') : wpR K mg W g' σ Q r := by
  cases r with
  | ok t h' => exact fun g2 v q e2 => h g2 v q (e.trans e2)
  | ex x h' => exact fun g2 c d q e2 => h g2 c d q (e.trans e2)
  | stuck => exact h
theorem wpS.ext {r : SR} (h : wpS K mg W g D r) (e : Ext g g') : wpS K mg W g' D r := by
  cases r with
  | stuck => exact h
  | nx s' h' => exact fun g2 v q e2 => h g2 v q (e.trans e2)
  | bk s' h' => exact fun g2 v q e2 => h g2 v q (e.trans e2)
  | ct s' h' => exact fun g2 v q e2 => h g2 v q (e.trans e2)
  | rt s' h' => exact fun g2 v q e2 => h g2 v q (e.trans e2)
  | ex x s' h' => exact fun g2 v c d q e2 => h g2 v c d q (e.trans e2)
theorem wpR_bind {r : R} {f : T → MH → R} (h : wpR K mg W g σ Q (r.bind f)) (k : ∀ g' t v, Ext g g' → Rel K mg g' → Rep K mg g' t v → wpR K mg W g' σ Q (f t g'.h) → Q' v g'.H) : wpR K mg W g σ Q' r := by
  cases r with
  | ok t h' => exact fun g' v q e R r => k g' t v e R r (by subst q; exact wpR.ext h e)
  | ex x h' => exact h
  | stuck => exact h
/-- the value itself, as it stands -/
theorem wpR_here {t : T} {v : V} (h : wpR K mg W g σ Q (.ok t g.h)) (R : Rel K mg g) (r : Rep K mg g t v) : Q v g.H := h g v rfl (Ext.refl g) R r
/-- a new tuple, a new list -/
theorem wpR_tup {xs : List T} {vs : List V} {p : Addr} (h : wpR K mg W g σ Q (.ok (.tup xs) g.h)) (R : Rel K mg g) (r : RepL K mg g xs vs) (hp : g.H p = none) : Q (.ref p) (upd g.H p (.tup vs)) :=
  h (g.lay p (.tup vs)) (.ref p) rfl (lay_ext R hp) (R.lay hp) (rep_tup R hp r)
theorem wpR_lst {xs : List T} {vs : List V} {p : Addr} (h : wpR K mg W g σ Q (.ok (.lst xs) g.h)) (R : Rel K mg g) (r : RepL K mg g xs vs) (hp : g.H p = none) : Q (.ref p) (upd g.H p (.lst vs)) :=
  h (g.lay p (.lst vs)) (.ref p) rfl (lay_ext R hp) (R.lay hp) (rep_lst R hp r)
end
/-! ### expressions -/
section
variable {X : Cx} {W : WX} {a b c e : Expr} {ma mb mc : ME} {pos : Pos}
abbrev SE (X : Cx) (W : WX) (e : Expr) (m : ME) : Prop := PE X e (tM X.K X.mg W m)
def mVar (i : Nat) : ME := fun s h => match s[i]? with
  | some (some t) => .ok t h
  | _ => .stuck
def mC (t : T) : ME := fun _ h => .ok t h
theorem se_var {i : Nat} {x : Str} (hN : X.N[i]? = some x := by rfl) (hv : Vis X.env.scope x := by first | exact Or.inl rfl | exact Or.inr (Or.inl rfl) | exact Or.inr (Or.inr rfl)) (hd : (x == ("__debug__" : Str)) = false := by decide)
    (hcd : (x == ("__classdict__" : Str)) = false := by decide) : SE X W (.Name x pos) (mVar i) := by
  refine weakE (pe_var hN hv hd hcd) ?_
  rintro σ H Q ⟨g, s, rfl, R, S, h⟩
  unfold mVar at h
  split at h
  · rename_i t q
    obtain ⟨v, e1, r⟩ := S.2 i t q
    exact ⟨v, e1, wpR_here h R r⟩
  · exact h.elim
theorem se_c {t : T} {v : V} (he : PE X e (tC v)) (r : ∀ g, Rep X.K X.mg g t v) : SE X W e (mC t) := by
  refine weakE he ?_
  rintro σ H Q ⟨g, s, rfl, R, S, h⟩
  exact wpR_here h R (r g)
theorem se_int {i : Int} {j : Nat} : SE X W (.Constant (.int i) j pos) (mC (.int i)) := se_c pe_int fun g => by simp only [Rep]
theorem se_bl {i : Bool} {j : Nat} : SE X W (.Constant (.bool i) j pos) (mC (.bl i)) := se_c pe_bl fun g => by simp only [Rep]
theorem se_non {j : Nat} : SE X W (.Constant .none j pos) (mC .non) := se_c pe_non fun g => by simp only [Rep]
theorem se_str {i : Str} {j : Nat} : SE X W (.Constant (.str i) j pos) (mC (.str i)) := se_c pe_str fun g => by simp only [Rep]
/-- a rule's two-place operation and its mirror -/
def m2 (f : T → T → MH → R) (ma mb : ME) : ME := fun s h => (ma s h).bind fun t h1 => (mb s h1).bind fun u h2 => f t u h2
def OpM (X : Cx) (f : T → T → MH → R) (r : R2) : Prop := ∀ (W : WX) g σ t u x y Q, Rel X.K X.mg g → Rep X.K X.mg g t x → Rep X.K X.mg g u y → wpR X.K X.mg W g σ Q (f t u g.h) → r x y g.H Q
theorem use2 {f : T → T → MH → R} {r : R2} (hm : OpM X f r) {σ : L2.St} {H : Hp} {Q : VK} (h : tM X.K X.mg W (m2 f ma mb) σ H Q) : tOp r (tM X.K X.mg W ma) (tM X.K X.mg W mb) σ H Q := by
  obtain ⟨g, s, rfl, R, S, h⟩ := h
  refine ⟨g, s, rfl, R, S, wpR_bind h fun g1 t x e1 R1 r1 h1 => ⟨g1, s, rfl, R1, S.mono e1, wpR_bind h1 fun g2 u y e2 R2 r2 h2 => ?_⟩⟩
  exact hm W g2 σ t u x y Q R2 (r1.mono e2) r2 h2
theorem se_op {op : Operator} {f : T → T → MH → R} {r : R2} (ho : OpR X (binaryOp op) r) (hm : OpM X f r) (ha : SE X W a ma) (hb : SE X W b mb) : SE X W (.BinOp a op b pos) (m2 f ma mb) :=
  weakE (pe_op ho ha hb) fun _ _ _ h => use2 hm h
theorem se_cmp {op : CmpOp} {f : T → T → MH → R} {r : R2} (ho : OpR X (compareOp op) r) (hm : OpM X f r) (ha : SE X W a ma) (hb : SE X W b mb) (hmk : behindInMarks op b = false) : SE X W (.Compare a [op] [b] pos) (m2 f ma mb) :=
  weakE (pe_cmpR ho ha hb hmk) fun _ _ _ h => use2 hm h
end
end Mi
end part_Mi0
section part_Mi1
set_option maxRecDepth 100000
set_option maxHeartbeats 2000000
/-! Mi, part 1: operators by values. -/
namespace Mi
open PySem PySem.Spec PyProof.Rows L2
def big : Nat := 100000
theorem big_le {n : Nat} (h : n ≤ big) : n ≤ sizeLine := Nat.le_trans h (by rw [sizeLine_eq]; decide)
section
variable {X : Cx} {K : PySem.W.Frag} {mg : Str → Option Value} {W : WX} {g : G} {σ : L2.St} {Q : VK}
theorem rep_int {i : Int} {v : V} (h : Rep K mg g (.int i) v) : v = .int i := by simpa only [Rep] using h
theorem rep_str {i : Str} {v : V} (h : Rep K mg g (.str i) v) : v = .str i := by simpa only [Rep] using h
theorem rep_bl {i : Bool} {v : V} (h : Rep K mg g (.bl i) v) : v = .bl i := by simpa only [Rep] using h
theorem rep_non {v : V} (h : Rep K mg g .non v) : v = .non := by simpa only [Rep] using h
theorem rInt {i : Int} : Rep K mg g (.int i) (.int i) := by simp only [Rep]
theorem rStr {i : Str} : Rep K mg g (.str i) (.str i) := by simp only [Rep]
theorem rBl {i : Bool} : Rep K mg g (.bl i) (.bl i) := by simp only [Rep]
theorem rNon : Rep K mg g .non .non := by simp only [Rep]
theorem rep_lst_at {xs : List T} {v : V} (h : Rep K mg g (.lst xs) v) : ∃ p vs, v = .ref p ∧ g.H p = some (.lst vs) ∧ RepL K mg g xs vs := by
  simp only [Rep] at h
  obtain ⟨p, vs, e, h1, h2⟩ := h
  exact ⟨p, vs, e, h1.1, h2⟩
/-! ### + - * // % ** -/
def fAdd : T → T → MH → R := fun t u h => match t, u with
  | .int i, .int j => .ok (.int (i + j)) h
  | .str a, .str b => if a.length + b.length ≤ big then .ok (.str (a ++ b)) h else .stuck
  | .lst a, .lst b => if a.length + b.length ≤ big then .ok (.lst (a ++ b)) h else .stuck
  | .tup a, .tup b => if a.length + b.length ≤ big then .ok (.tup (a ++ b)) h else .stuck
  | _, _ => .stuck
abbrev rAddV (K : PySem.W.Frag) : R2 := fun x y H Q => (rI0 fun i j => .int (i + j)) x y H Q ∨ (fun x y H Q => (∃ i j, x = .str i ∧ y = .str j ∧ i.length + j.length ≤ sizeLine ∧ Q (.str (i ++ j)) H) ∨ (fun x y H Q => rCat x y H Q ∨ rCatA K x y H Q) x y H Q) x y H Q
theorem op_addV : OpR X (binaryOp .Add) (rAddV X.K) := op_add.or (op_add_str.or (op_cat.or op_catA))
theorem mAddV : OpM X fAdd (rAddV X.K) := by
  intro W g σ t u x y Q R r1 r2 h
  cases t with
  | int i => cases u with
    | int j => rw [rep_int r1, rep_int r2]; exact .inl ⟨i, j, rfl, rfl, wpR_here h R rInt⟩
    | _ => exact h.elim
  | str a => cases u with
    | str b =>
      rw [rep_str r1, rep_str r2]
      unfold fAdd at h
      dsimp only at h
      split at h
      · rename_i q; exact .inr (.inl ⟨a, b, rfl, rfl, big_le q, wpR_here h R rStr⟩)
      · exact h.elim
    | _ => exact h.elim
  | lst a => cases u with
    | lst b =>
      obtain ⟨p, vs, rfl, h1, l1⟩ := rep_lst_at r1
      obtain ⟨q, ws, rfl, h2, l2⟩ := rep_lst_at r2
      unfold fAdd at h
      dsimp only at h
      split at h
      · rename_i z
        refine .inr (.inr (.inl ⟨p, q, vs, ws, rfl, rfl, h1, h2, big_le (by rw [← l1.length, ← l2.length]; exact z), fun r hr => wpR_lst h R (l1.append l2) hr⟩))
      · exact h.elim
    | _ => exact h.elim
  | tup a => cases u with
    | tup b =>
      obtain ⟨p, vs, e1, h1, l1⟩ := r1.sqT
      obtain ⟨q, ws, e2, h2, l2⟩ := r2.sqT
      subst e1 e2
      unfold fAdd at h
      dsimp only at h
      split at h
      · rename_i z
        refine .inr (.inr (.inr ⟨p, q, vs, ws, rfl, rfl, h1, h2, big_le (by rw [← l1.length, ← l2.length]; exact z), fun e => ?_, fun e1 e2 => ?_, fun e1 e2 r hr => wpR_tup h R (l1.append l2) hr⟩))
        · subst e
          have : a = [] := List.eq_nil_of_length_eq_zero (by rw [l1.length]; rfl)
          subst this
          exact wpR_here h R r2
        · subst e2
          have : b = [] := List.eq_nil_of_length_eq_zero (by rw [l2.length]; rfl)
          subst this
          rw [List.append_nil] at h
          exact wpR_here h R r1
      · exact h.elim
    | _ => exact h.elim
  | _ => exact h.elim
/-- a rule on two ints -/
def fI (C : Int → Int → Bool) (f : Int → Int → T) : T → T → MH → R := fun t u h => match t, u with
  | .int i, .int j => if C i j then .ok (f i j) h else .stuck
  | _, _ => .stuck
theorem mI {Cb : Int → Int → Bool} {C : Int → Int → Prop} {f : Int → Int → T} {fV : Int → Int → V} (hC : ∀ i j, Cb i j = true → C i j) (hf : ∀ (K : PySem.W.Frag) mg g i j, Rep K mg g (f i j) (fV i j)) : OpM X (fI Cb f) (rI C fV) := by
  intro W g σ t u x y Q R r1 r2 h
  cases t with
  | int i => cases u with
    | int j =>
      rw [rep_int r1, rep_int r2]
      unfold fI at h
      dsimp only at h
      split at h
      · rename_i q; exact ⟨i, j, rfl, rfl, hC i j q, wpR_here h R (hf _ _ _ i j)⟩
      · exact h.elim
    | _ => exact h.elim
  | _ => exact h.elim
theorem mI0 {f : Int → Int → T} {fV : Int → Int → V} (hf : ∀ (K : PySem.W.Frag) mg g i j, Rep K mg g (f i j) (fV i j)) : OpM X (fI (fun _ _ => true) f) (rI0 fV) := by
  intro W g σ t u x y Q R r1 r2 h
  obtain ⟨i, j, e1, e2, _, q⟩ := mI (X := X) (Cb := fun _ _ => true) (C := fun _ _ => True) (fun _ _ _ => trivial) hf W g σ t u x y Q R r1 r2 h
  exact ⟨i, j, e1, e2, q⟩
def fSub := fI (fun _ _ => true) fun i j => .int (i - j)
theorem mSubV : OpM X fSub (rI0 fun i j => .int (i - j)) := mI0 fun _ _ _ _ _ => rInt
def fFdiv := fI (fun _ j => decide (0 < j) && decide (j < 1073741824)) fun i j => .int (i / j)
theorem mFdivV : OpM X fFdiv (rI CDiv fun i j => .int (i / j)) := mI (fun i j h => by simpa [CDiv] using h) fun _ _ _ _ _ => rInt
def fMod := fI (fun _ j => decide (0 < j)) fun i j => .int (i % j)
theorem mModV : OpM X fMod (rI (fun _ j => 0 < j) fun i j => .int (i % j)) := mI (fun i j h => by simpa using h) fun _ _ _ _ _ => rInt
def fPow := fI (fun i j => decide (0 ≤ j) && decide (j ≤ 1000) && decide (i.natAbs < 1000)) fun i j => .int (i ^ j.toNat)
theorem mPowV : OpM X fPow (rI CPow fun i j => .int (i ^ j.toNat)) := mI (fun i j h => by
  simp only [Bool.and_eq_true, decide_eq_true_eq] at h
  exact ⟨h.1.1, by omega, by omega⟩) fun _ _ _ _ _ => rInt
/-! ### comparisons of ints and texts -/
def fCmp (fi : Int → Int → Bool) (fs : List Nat → List Nat → Bool) : T → T → MH → R := fun t u h => match t, u with
  | .int i, .int j => .ok (.bl (fi i j)) h
  | .str a, .str b => .ok (.bl (fs a.cps.toList b.cps.toList)) h
  | _, _ => .stuck
abbrev rCmp (fi : Int → Int → Bool) (fs : List Nat → List Nat → Bool) : R2 := fun x y H Q => (rI0 fun i j => .bl (fi i j)) x y H Q ∨ (fun x y H Q => ∃ i j, x = .str i ∧ y = .str j ∧ Q (.bl (fs i.cps.toList j.cps.toList)) H) x y H Q
theorem mCmp {fi : Int → Int → Bool} {fs : List Nat → List Nat → Bool} : OpM X (fCmp fi fs) (rCmp fi fs) := by
  intro W g σ t u x y Q R r1 r2 h
  cases t with
  | int i => cases u with
    | int j => rw [rep_int r1, rep_int r2]; exact .inl ⟨i, j, rfl, rfl, wpR_here h R rBl⟩
    | _ => exact h.elim
  | str i => cases u with
    | str j => rw [rep_str r1, rep_str r2]; exact .inr ⟨i, j, rfl, rfl, wpR_here h R rBl⟩
    | _ => exact h.elim
  | _ => exact h.elim
def fLt := fCmp (fun i j => decide (i < j)) fun a b => decide (a < b)
def fLe := fCmp (fun i j => decide (i ≤ j)) fun a b => !decide (b < a)
def fGt := fCmp (fun i j => decide (j < i)) fun a b => decide (b < a)
def fGe := fCmp (fun i j => decide (j ≤ i)) fun a b => !decide (a < b)
theorem op_ltV : OpR X (compareOp .Lt) (rCmp (fun i j => decide (i < j)) fun a b => decide (a < b)) := op_lt.or op_lt_str
theorem op_leV : OpR X (compareOp .LtE) (rCmp (fun i j => decide (i ≤ j)) fun a b => !decide (b < a)) := op_le.or op_le_str
theorem op_gtV : OpR X (compareOp .Gt) (rCmp (fun i j => decide (j < i)) fun a b => decide (b < a)) := op_gt.or op_gt_str
theorem op_geV : OpR X (compareOp .GtE) (rCmp (fun i j => decide (j ≤ i)) fun a b => !decide (a < b)) := op_ge.or op_ge_str
theorem mLtV : OpM X fLt (rCmp (fun i j => decide (i < j)) fun a b => decide (a < b)) := mCmp
theorem mLeV : OpM X fLe (rCmp (fun i j => decide (i ≤ j)) fun a b => !decide (b < a)) := mCmp
theorem mGtV : OpM X fGt (rCmp (fun i j => decide (j < i)) fun a b => decide (b < a)) := mCmp
theorem mGeV : OpM X fGe (rCmp (fun i j => decide (j ≤ i)) fun a b => !decide (a < b)) := mCmp
/-! ### == of data -/
mutual
def toD : T → Option PyData
  | .non => some .none
  | .bl b => some (.bool b)
  | .int i => some (.int i)
  | .str s => some (.str s)
  | .tup xs => (toDs xs).map .tuple
  | .lst xs => (toDs xs).map .list
  | .frl xs => (toDs xs).map .list
  | .dct _ _ => none
  | .obj _ _ _ => none
  | .ref _ => none
  | .exn _ _ _ => none
def toDs : List T → Option (List PyData)
  | [] => some []
  | t :: ts => match toD t, toDs ts with
    | some d, some ds => some (d :: ds)
    | _, _ => none
end
theorem dpAll_of : ∀ {ts : List T} {vs : List V} {ds : List PyData}, (∀ t ∈ ts, ∀ v d, Rep K mg g t v → toD t = some d → Dp K g.H v d) → RepL K mg g ts vs → toDs ts = some ds → DpAll K g.H vs ds
  | [], vs, ds, _, r, e => by
    simp only [RepL] at r
    simp only [toDs] at e
    cases e; subst r
    exact .nil
  | t :: ts, vs, ds, f, r, e => by
    simp only [RepL] at r
    obtain ⟨v, w, rfl, r1, r2⟩ := r
    simp only [toDs] at e
    split at e
    · rename_i d1 ds1 e1 e2
      cases e
      exact .cons (f t List.mem_cons_self v d1 r1 e1) (dpAll_of (fun u hu => f u (List.mem_cons_of_mem _ hu)) r2 e2)
    · cases e
theorem dp_of : ∀ (t : T) (v : V) (d : PyData), Rep K mg g t v → toD t = some d → Dp K g.H v d := by
  intro t
  induction t using T.ind with
  | non => intro v d r e; rw [rep_non r]; simp only [toD] at e; cases e; exact .non
  | bl b => intro v d r e; rw [rep_bl r]; simp only [toD] at e; cases e; exact .bl b
  | int i => intro v d r e; rw [rep_int r]; simp only [toD] at e; cases e; exact .int i
  | str s => intro v d r e; rw [rep_str r]; simp only [toD] at e; cases e; exact .str s
  | tup xs ih =>
    intro v d r e
    simp only [toD] at e
    cases q : toDs xs with
    | none => rw [q] at e; cases e
    | some ds =>
      rw [q] at e; cases e
      obtain ⟨p, vs, e1, h1, l1⟩ := r.sqT
      subst e1
      exact .tup h1 (dpAll_of ih l1 q)
  | lst xs ih =>
    intro v d r e
    simp only [toD] at e
    cases q : toDs xs with
    | none => rw [q] at e; cases e
    | some ds =>
      rw [q] at e; cases e
      obtain ⟨p, vs, e1, h1, l1⟩ := r.sqL
      subst e1
      exact .lst h1 (dpAll_of ih l1 q)
  | frl xs ih =>
    intro v d r e
    simp only [toD] at e
    cases q : toDs xs with
    | none => rw [q] at e; cases e
    | some ds =>
      rw [q] at e; cases e
      obtain ⟨p, vs, e1, h1, l1⟩ := r.sqF
      subst e1
      exact .lst h1 (dpAll_of ih l1 q)
  | dct ks vs _ _ => intro v d r e; simp only [toD] at e; cases e
  | obj c ns vs _ => intro v d r e; simp only [toD] at e; cases e
  | ref i => intro v d r e; simp only [toD] at e; cases e
  | exn c ns vs _ => intro v d r e; simp only [toD] at e; cases e
/-- two values as data -/
def with2 (t u : T) (f : PyData → PyData → R) : R := match toD t, toD u with
  | some d, some e => if SeqAt.shaped d && SeqAt.shaped e then f d e else .stuck
  | _, _ => .stuck
theorem with2_ok {t u : T} {f : PyData → PyData → R} {C : Prop} (h : wpR K mg W g σ Q (with2 t u f)) (k : ∀ d e, toD t = some d → toD u = some e → SeqAt.shaped d = true → SeqAt.shaped e = true → wpR K mg W g σ Q (f d e) → C) : C := by
  unfold with2 at h
  split at h
  · rename_i d e h1 h2
    split at h
    · rename_i q
      obtain ⟨q1, q2⟩ := Bool.and_eq_true_iff.mp q
      exact k d e h1 h2 q1 q2 h
    · exact h.elim
  · exact h.elim
def fEq : T → T → MH → R := fun t u h => match t, u with
  | .str a, .str b => .ok (.bl (decide (a = b))) h
  | _, _ => with2 t u fun d e => .ok (.bl (PyData.eqv d e)) h
def fNe : T → T → MH → R := fun t u h => match t, u with
  | .str a, .str b => .ok (.bl (!decide (a = b))) h
  | _, _ => with2 t u fun d e => .ok (.bl (!PyData.eqv d e)) h
abbrev rEqA (K : PySem.W.Frag) : R2 := fun x y H Q => rEqD K x y H Q ∨ rEq x y H Q
abbrev rNeA (K : PySem.W.Frag) : R2 := fun x y H Q => rNeD K x y H Q ∨ rNe x y H Q
theorem op_eqA (hu : X.A.units + 64 < cLine) : OpR X (compareOp .Eq) (rEqA X.K) := (op_eqD hu).or op_eq
theorem op_neA (hu : X.A.units + 64 < cLine) : OpR X (compareOp .NotEq) (rNeA X.K) := (op_neD hu).or op_ne
theorem dec_strV {a b : Str} : decide (V.str a = V.str b) = decide (a = b) := by
  by_cases h : a = b
  · subst h; rw [decide_eq_true rfl, decide_eq_true rfl]
  · rw [decide_eq_false h, decide_eq_false fun e => h (by injection e)]
theorem mEqV : OpM X fEq (rEqA X.K) := by
  intro W g σ t u x y Q R r1 r2 h
  unfold fEq at h
  split at h
  · rename_i a b
    rw [rep_str r1, rep_str r2]
    refine .inr ⟨rfl, ?_⟩
    rw [dec_strV]
    exact wpR_here h R rBl
  · exact .inl (with2_ok h fun d e h1 h2 s1 s2 q => ⟨d, e, dp_of t x d r1 h1, dp_of u y e r2 h2, s1, s2, wpR_here q R rBl⟩)
theorem mNeV : OpM X fNe (rNeA X.K) := by
  intro W g σ t u x y Q R r1 r2 h
  unfold fNe at h
  split at h
  · rename_i a b
    rw [rep_str r1, rep_str r2]
    refine .inr ⟨rfl, ?_⟩
    rw [dec_strV]
    exact wpR_here h R rBl
  · exact .inl (with2_ok h fun d e h1 h2 s1 s2 q => ⟨d, e, dp_of t x d r1 h1, dp_of u y e r2 h2, s1, s2, wpR_here q R rBl⟩)
/-! ### is None, is True -/
def fIs (neg : Bool) : T → T → MH → R := fun t u h => match t, u with
  | .bl a, .bl b => .ok (.bl (if neg then !decide (a = b) else decide (a = b))) h
  | .non, .non => .ok (.bl (if neg then false else true)) h
  | .bl _, .non | .int _, .non | .str _, .non | .tup _, .non | .lst _, .non | .frl _, .non | .dct _ _, .non | .obj _ _ _, .non | .ref _, .non | .exn _ _ _, .non => .ok (.bl (if neg then true else false)) h
  | _, _ => .stuck
abbrev rIsV (neg : Bool) : R2 := fun x y H Q => (fun x y H Q => y = .non ∧ Q (.bl (if neg then !decide (x = .non) else decide (x = .non))) H) x y H Q ∨ (fun x y H Q => ∃ a b, x = .bl a ∧ y = .bl b ∧ Q (.bl (if neg then !decide (a = b) else decide (a = b))) H) x y H Q
theorem op_isV : OpR X (compareOp .Is) (rIsV false) := op_isN.or op_is_bl
theorem op_isnotV : OpR X (compareOp .IsNot) (rIsV true) := op_notN.or op_isnot_bl
theorem ref_no {p : Addr} : ¬ (V.ref p = V.non) := by intro h; cases h
theorem mIsV {neg : Bool} : OpM X (fIs neg) (rIsV neg) := by
  intro W g σ t u x y Q R r1 r2 h
  cases u with
  | non =>
    rw [rep_non r2]
    refine .inl ⟨rfl, ?_⟩
    have key : ∀ b : Bool, decide (x = V.non) = b → wpR X.K X.mg W g σ Q (.ok (.bl (if neg then !b else b)) g.h) → Q (.bl (if neg = true then !decide (x = V.non) else decide (x = V.non))) g.H := fun b e q => by
      rw [e]; exact wpR_here q R rBl
    cases t with
    | non => exact key true (by rw [rep_non r1]; rfl) h
    | bl b => exact key false (by rw [rep_bl r1]; rfl) h
    | int b => exact key false (by rw [rep_int r1]; rfl) h
    | str b => exact key false (by rw [rep_str r1]; rfl) h
    | tup b => obtain ⟨p, _, e, _⟩ := r1.sqT; exact key false (by rw [e]; rfl) h
    | lst b => obtain ⟨p, _, e, _⟩ := r1.sqL; exact key false (by rw [e]; rfl) h
    | frl b => obtain ⟨p, _, e, _⟩ := r1.sqF; exact key false (by rw [e]; rfl) h
    | dct a b => simp only [Rep] at r1; obtain ⟨p, _, e, _⟩ := r1; exact key false (by rw [e]; rfl) h
    | obj a b c => simp only [Rep] at r1; obtain ⟨p, _, _, _, e, _⟩ := r1; exact key false (by rw [e]; rfl) h
    | ref i => simp only [Rep] at r1; obtain ⟨p, e, _⟩ := r1; exact key false (by rw [e]; rfl) h
    | exn a b c => simp only [Rep] at r1; obtain ⟨p, _, _, _, e, _⟩ := r1; exact key false (by rw [e]; rfl) h
  | bl b => cases t with
    | bl a => rw [rep_bl r1, rep_bl r2]; exact .inr ⟨a, b, rfl, rfl, wpR_here h R rBl⟩
    | _ => exact h.elim
  | _ => cases t <;> exact h.elim
end
end Mi
end part_Mi1
section part_Mi2
set_option maxRecDepth 100000
set_option maxHeartbeats 2000000
/-! Mi, part 2: tests, conditional expressions, argument lists, displays, subscripts, slices, built-in functions. -/
namespace Mi
open PySem PySem.Spec PyProof.Rows L2
section
variable {X : Cx} {K : PySem.W.Frag} {mg : Str → Option Value} {W : WX} {g : G} {σ : L2.St} {Q : VK}
/-! ### tests -/
def wpT (K : PySem.W.Frag) (mg : Str → Option Value) (W : WX) (g : G) (σ : L2.St) (Q : Bool → Hp → Prop) : R → Prop
  | .ok (.bl b) h' => ∀ g', g'.h = h' → Ext g g' → Rel K mg g' → Q b g'.H
  | .ok _ _ => False
  | .ex x h' => ∀ g' cls d, g'.h = h' → Ext g g' → Rel K mg g' → RepX K mg g' x cls d → W cls d σ g'.H
  | .stuck => False
def tMT (K : PySem.W.Frag) (mg : Str → Option Value) (W : WX) (m : ME) : TT := fun σ H Q => ∃ g s, g.H = H ∧ Rel K mg g ∧ RepS K mg g s σ ∧ wpT K mg W g σ Q (m s g.h)
abbrev ST (X : Cx) (W : WX) (e : Expr) (m : ME) : Prop := PT X e (tMT X.K X.mg W m)
theorem wpT.ext {Q : Bool → Hp → Prop} {g g' : G} {r : R} (h : wpT K mg W g σ Q r) (e : Ext g g') : wpT K mg W g' σ Q r := by
  cases r with
  | ok t h' => cases t with
    | bl b => exact fun g2 q e2 => h g2 q (e.trans e2)
    | _ => exact h
  | ex x h' => exact fun g2 c d q e2 => h g2 c d q (e.trans e2)
  | stuck => exact h
theorem wpT_bind {Q : Bool → Hp → Prop} {Q' : VK} {r : R} {f : T → MH → R} (h : wpT K mg W g σ Q (r.bind f)) (k : ∀ g' t v, Ext g g' → Rel K mg g' → Rep K mg g' t v → wpT K mg W g' σ Q (f t g'.h) → Q' v g'.H) : wpR K mg W g σ Q' r := by
  cases r with
  | ok t h' => exact fun g' v q e R r => k g' t v e R r (by subst q; exact wpT.ext h e)
  | ex x h' => exact h
  | stuck => exact h
theorem wpT_bindT {Q Q' : Bool → Hp → Prop} {r : R} {f : T → MH → R} (h : wpT K mg W g σ Q (r.bind f)) (hb : ∀ t h, (∀ b, t ≠ .bl b) → f t h = .stuck) (k : ∀ g' b, Ext g g' → Rel K mg g' → wpT K mg W g' σ Q (f (.bl b) g'.h) → Q' b g'.H) : wpT K mg W g σ Q' r := by
  cases r with
  | ok t h' =>
    by_cases hx : ∃ b, t = .bl b
    · obtain ⟨b, rfl⟩ := hx
      exact fun g' q e R => k g' b e R (by subst q; exact wpT.ext h e)
    · have z := hb t h' (fun b e => hx ⟨b, e⟩)
      have h2 : wpT K mg W g σ Q (f t h') := h
      rw [z] at h2
      exact h2.elim
  | ex x h' => exact h
  | stuck => exact h
theorem wpT_here {Q : Bool → Hp → Prop} {b : Bool} (h : wpT K mg W g σ Q (.ok (.bl b) g.h)) (R : Rel K mg g) : Q b g.H := h g rfl (Ext.refl g) R
/-- truth -/
def fTru : T → MH → R := fun t h => match t with
  | .non => .ok (.bl false) h
  | .bl b => .ok (.bl b) h
  | .int i => .ok (.bl (i != 0)) h
  | .str s => if s.length ≤ big then .ok (.bl ((s.length : Int) != 0)) h else .stuck
  | .tup xs => .ok (.bl (!xs.isEmpty)) h
  | .lst xs => .ok (.bl (!xs.isEmpty)) h
  | .frl xs => .ok (.bl (!xs.isEmpty)) h
  | .ref i => match h[i]? with
    | some (.lst xs) => .ok (.bl (!xs.isEmpty)) h
    | _ => .stuck
  | _ => .stuck
theorem isEmpty_L {xs : List T} {vs : List V} (r : RepL K mg g xs vs) : xs.isEmpty = vs.isEmpty := by
  have := r.length
  cases xs <;> cases vs <;> simp_all
theorem Rel.lst_at (R : Rel K mg g) {i : Nat} {v : V} {xs : List T} (r : Rep K mg g (.ref i) v) (h : g.h[i]? = some (.lst xs)) : ∃ p vs, v = .ref p ∧ g.rho[i]? = some p ∧ g.H p = some (.lst vs) ∧ RepL K mg g xs vs := by
  simp only [Rep] at r
  obtain ⟨p, rfl, hp⟩ := r
  obtain ⟨vs, h1, h2⟩ := R.obj i p _ hp h
  exact ⟨p, vs, rfl, hp, h1, h2⟩
theorem tru_of {t : T} {v : V} (R : Rel K mg g) (r : Rep K mg g t v) : ∀ b, fTru t g.h = .ok (.bl b) g.h → TruV K v g.H b := by
  intro b h
  unfold fTru at h
  cases t with
  | non => rw [rep_non r]; cases h; rfl
  | bl c => rw [rep_bl r]; cases h; rfl
  | int i => rw [rep_int r]; cases h; rfl
  | str s =>
    rw [rep_str r]
    dsimp only at h
    split at h
    · rename_i q; cases h; exact ⟨big_le q, rfl⟩
    · cases h
  | tup xs => obtain ⟨p, vs, rfl, h1, l1⟩ := r.sqT; cases h; exact .inr (.inl ⟨vs, h1, by rw [isEmpty_L l1]⟩)
  | lst xs => obtain ⟨p, vs, rfl, h1, l1⟩ := r.sqL; cases h; exact .inl ⟨vs, h1, by rw [isEmpty_L l1]⟩
  | frl xs => obtain ⟨p, vs, rfl, h1, l1⟩ := r.sqF; cases h; exact .inl ⟨vs, h1, by rw [isEmpty_L l1]⟩
  | ref i =>
    dsimp only at h
    split at h
    · rename_i xs q
      obtain ⟨p, vs, rfl, _, h1, l1⟩ := R.lst_at r q
      cases h
      exact .inl ⟨vs, SqL.of h1, by rw [isEmpty_L l1]⟩
    · cases h
  | _ => cases h
theorem fTru_ok (t : T) (h : MH) : (∃ b, fTru t h = .ok (.bl b) h) ∨ fTru t h = .stuck := by
  unfold fTru
  cases t with
  | str s => dsimp only; split <;> first | exact .inl ⟨_, rfl⟩ | exact .inr rfl
  | ref i => dsimp only; split <;> first | exact .inl ⟨_, rfl⟩ | exact .inr rfl
  | _ => first | exact .inl ⟨_, rfl⟩ | exact .inr rfl
def mTru (m : ME) : ME := fun s h => (m s h).bind fTru
variable {a b c e : Expr} {ma mb mc : ME} {pos : Pos} {rest : List Expr}
/-- any expression as a test, by its value's truth -/
theorem st_val (ha : SE X W a ma) (he : ∀ whole, isTrue a X.env whole = (do let v ← whole; standAt a.pos; holding [v] (truthy v)) := by intro _; rfl) : ST X W a (mTru ma) := by
  refine weakT (pt_truth ha he) ?_
  rintro σ H Q ⟨g, s, rfl, R, S, h⟩
  refine ⟨g, s, rfl, R, S, wpT_bind h fun g1 t v e1 R1 r1 h1 => ?_⟩
  rcases fTru_ok t g1.h with ⟨b, q⟩ | q
  · rw [q] at h1
    exact ⟨b, tru_of R1 r1 b q, wpT_here h1 R1⟩
  · rw [q] at h1; exact h1.elim
/-- a comparison as a test -/
theorem st_cmp {op : CmpOp} {f : T → T → MH → R} {r : R2} (ho : OpR X (compareOp op) r) (hm : OpM X f r) (hb' : ∀ t u h, (∃ b, f t u h = .ok (.bl b) h) ∨ f t u h = .stuck) (ha : SE X W a ma) (hb : SE X W b mb) (hmk : behindInMarks op b = false) : ST X W (.Compare a [op] [b] pos) (m2 f ma mb) := by
  refine weakT (pt_cmpR ho ha hb hmk) ?_
  rintro σ H Q ⟨g, s, rfl, R, S, h⟩
  refine ⟨g, s, rfl, R, S, wpT_bind h fun g1 t x e1 R1 r1 h1 => ⟨g1, s, rfl, R1, S.mono e1, wpT_bind h1 fun g2 u y e2 R2 r2 h2 => ?_⟩⟩
  refine hm W g2 σ t u x y _ R2 (r1.mono e2) r2 ?_
  rcases hb' t u g2.h with ⟨b, q⟩ | q
  · rw [q] at h2 ⊢
    exact fun g3 v q3 e3 R3 r3 => ⟨b, rep_bl r3, h2 g3 q3 e3 R3⟩
  · rw [q] at h2; exact h2.elim
/-- and, or, not as tests -/
def fAnd (mb : ME) (s : SM) : T → MH → R := fun t h => match t with
  | .bl true => mb s h
  | .bl false => .ok (.bl false) h
  | _ => .stuck
def fOr (mb : ME) (s : SM) : T → MH → R := fun t h => match t with
  | .bl true => .ok (.bl true) h
  | .bl false => mb s h
  | _ => .stuck
def fNot : T → MH → R := fun t h => match t with
  | .bl b => .ok (.bl (!b)) h
  | _ => .stuck
def mAnd (ma mb : ME) : ME := fun s h => (ma s h).bind (fAnd mb s)
def mOr (ma mb : ME) : ME := fun s h => (ma s h).bind (fOr mb s)
def mNot (ma : ME) : ME := fun s h => (ma s h).bind fNot
abbrev SW (X : Cx) (W : WX) (e : Expr) (m : ME) : Prop := PW X e (tMT X.K X.mg W m)
theorem sw_and1 (ha : ST X W a ma) : SW X W (.BoolOp .And [a] pos) ma := pw_and1 ha
theorem sw_or1 (ha : ST X W a ma) : SW X W (.BoolOp .Or [a] pos) ma := pw_or1 ha
theorem weakW {X : Cx} {e : Expr} {t t' : TT} (h : PW X e t) (k : ∀ σ H Q, t' σ H Q → t σ H Q) : PW X e t' := ⟨fun w pins s σ H Q I q => h.run w pins s σ H Q I (k σ H Q q)⟩
theorem sw_and (ha : ST X W a ma) (hb : SW X W (.BoolOp .And (b :: rest) pos) mb) : SW X W (.BoolOp .And (a :: b :: rest) pos) (mAnd ma mb) := by
  refine weakW (pw_and ha hb) ?_
  rintro σ H Q ⟨g, s, rfl, R, S, h⟩
  refine ⟨g, s, rfl, R, S, wpT_bindT h (fun t h k => by cases t <;> first | exact absurd rfl (k _) | rfl) fun g1 b e1 R1 h1 => ?_⟩
  cases b with
  | true => exact iteT ⟨g1, s, rfl, R1, S.mono e1, h1⟩
  | false => exact iteF (wpT_here h1 R1)
theorem sw_or (ha : ST X W a ma) (hb : SW X W (.BoolOp .Or (b :: rest) pos) mb) : SW X W (.BoolOp .Or (a :: b :: rest) pos) (mOr ma mb) := by
  refine weakW (pw_or ha hb) ?_
  rintro σ H Q ⟨g, s, rfl, R, S, h⟩
  refine ⟨g, s, rfl, R, S, wpT_bindT h (fun t h k => by cases t <;> first | exact absurd rfl (k _) | rfl) fun g1 b e1 R1 h1 => ?_⟩
  cases b with
  | true => exact iteT (wpT_here h1 R1)
  | false => exact iteF ⟨g1, s, rfl, R1, S.mono e1, h1⟩
theorem sw_st (h : SW X W e ma) : ST X W e ma := h.pt
theorem st_not (ha : ST X W a ma) : ST X W (.UnaryOp .Not a pos) (mNot ma) := by
  refine weakT (pt_not ha) ?_
  rintro σ H Q ⟨g, s, rfl, R, S, h⟩
  exact ⟨g, s, rfl, R, S, wpT_bindT h (fun t h k => by cases t <;> first | exact absurd rfl (k _) | rfl) fun g1 b e1 R1 h1 => wpT_here h1 R1⟩
/-- a if c else b -/
def fIf (ma mb : ME) (s : SM) : T → MH → R := fun t h => match t with
  | .bl true => ma s h
  | .bl false => mb s h
  | _ => .stuck
def mIf (mc ma mb : ME) : ME := fun s h => (mc s h).bind (fIf ma mb s)
theorem wpR_bindT {Q' : Bool → Hp → Prop} {r : R} {f : T → MH → R} (h : wpR K mg W g σ Q (r.bind f)) (hb : ∀ t h, (∀ b, t ≠ .bl b) → f t h = .stuck) (k : ∀ g' b, Ext g g' → Rel K mg g' → wpR K mg W g' σ Q (f (.bl b) g'.h) → Q' b g'.H) : wpT K mg W g σ Q' r := by
  cases r with
  | ok t h' =>
    by_cases hx : ∃ b, t = .bl b
    · obtain ⟨b, rfl⟩ := hx
      exact fun g' q e R => k g' b e R (by subst q; exact wpR.ext h e)
    · have z := hb t h' (fun b e => hx ⟨b, e⟩)
      have h2 : wpR K mg W g σ Q (f t h') := h
      rw [z] at h2
      exact h2.elim
  | ex x h' => exact h
  | stuck => exact h
theorem se_if (hc : ST X W c mc) (ha : SE X W a ma) (hb : SE X W b mb) : SE X W (.IfExp c a b pos) (mIf mc ma mb) := by
  refine weakE (pe_ifExp hc ha hb) ?_
  rintro σ H Q ⟨g, s, rfl, R, S, h⟩
  refine ⟨g, s, rfl, R, S, wpR_bindT h (fun t h k => by cases t <;> first | exact absurd rfl (k _) | rfl) fun g1 b e1 R1 h1 => ?_⟩
  cases b with
  | true => exact iteT ⟨g1, s, rfl, R1, S.mono e1, h1⟩
  | false => exact iteF ⟨g1, s, rfl, R1, S.mono e1, h1⟩
/-- x or y, x and y, not x as values -/
def fOrV (mb : ME) (s : SM) : T → MH → R := fun t h => (fTru t h).bind fun k h1 => match k with
  | .bl true => .ok t h1
  | .bl false => mb s h1
  | _ => .stuck
def fAndV (mb : ME) (s : SM) : T → MH → R := fun t h => (fTru t h).bind fun k h1 => match k with
  | .bl true => mb s h1
  | .bl false => .ok t h1
  | _ => .stuck
def fNotV : T → MH → R := fun t h => (fTru t h).bind fNot
def mOrV (ma mb : ME) : ME := fun s h => (ma s h).bind (fOrV mb s)
def mAndV (ma mb : ME) : ME := fun s h => (ma s h).bind (fAndV mb s)
def mNotV (ma : ME) : ME := fun s h => (ma s h).bind fNotV
theorem se_one {op : BoolOp} (h : SE X W a ma) : SE X W (.BoolOp op [a] pos) ma := pe_one h
theorem se_or (ha : SE X W a ma) (hb : SE X W (.BoolOp .Or (b :: rest) pos) mb) : SE X W (.BoolOp .Or (a :: b :: rest) pos) (mOrV ma mb) := by
  refine weakE (pe_orT ha hb) ?_
  rintro σ H Q ⟨g, s, rfl, R, S, h⟩
  refine ⟨g, s, rfl, R, S, wpR_bind h fun g1 t v e1 R1 r1 h1 => ?_⟩
  unfold fOrV at h1
  rcases fTru_ok t g1.h with ⟨b, q⟩ | q
  · rw [q] at h1
    refine ⟨b, tru_of R1 r1 b q, ?_⟩
    cases b with
    | true => exact iteT (wpR_here h1 R1 r1)
    | false => exact iteF ⟨g1, s, rfl, R1, S.mono e1, h1⟩
  · rw [q] at h1; exact h1.elim
theorem se_and (ha : SE X W a ma) (hb : SE X W (.BoolOp .And (b :: rest) pos) mb) : SE X W (.BoolOp .And (a :: b :: rest) pos) (mAndV ma mb) := by
  refine weakE (pe_andT ha hb) ?_
  rintro σ H Q ⟨g, s, rfl, R, S, h⟩
  refine ⟨g, s, rfl, R, S, wpR_bind h fun g1 t v e1 R1 r1 h1 => ?_⟩
  unfold fAndV at h1
  rcases fTru_ok t g1.h with ⟨b, q⟩ | q
  · rw [q] at h1
    refine ⟨b, tru_of R1 r1 b q, ?_⟩
    cases b with
    | true => exact iteT ⟨g1, s, rfl, R1, S.mono e1, h1⟩
    | false => exact iteF (wpR_here h1 R1 r1)
  · rw [q] at h1; exact h1.elim
theorem se_not (ha : SE X W a ma) : SE X W (.UnaryOp .Not a pos) (mNotV ma) := by
  refine weakE (pe_notT ha) ?_
  rintro σ H Q ⟨g, s, rfl, R, S, h⟩
  refine ⟨g, s, rfl, R, S, wpR_bind h fun g1 t v e1 R1 r1 h1 => ?_⟩
  unfold fNotV at h1
  rcases fTru_ok t g1.h with ⟨b, q⟩ | q
  · rw [q] at h1
    exact ⟨b, tru_of R1 r1 b q, wpR_here h1 R1 rBl⟩
  · rw [q] at h1; exact h1.elim
/-- -x -/
def fNeg : T → MH → R := fun t h => match t with
  | .int i => .ok (.int (-i)) h
  | _ => .stuck
def m1 (f : T → MH → R) (ma : ME) : ME := fun s h => (ma s h).bind f
theorem se_neg (ha : SE X W a ma) : SE X W (.UnaryOp .USub a pos) (m1 fNeg ma) := by
  refine weakE (pe_un un_neg ha) ?_
  rintro σ H Q ⟨g, s, rfl, R, S, h⟩
  refine ⟨g, s, rfl, R, S, wpR_bind h fun g1 t v e1 R1 r1 h1 => ?_⟩
  cases t with
  | int i => rw [rep_int r1]; exact ⟨i, rfl, wpR_here h1 R1 rInt⟩
  | _ => exact h1.elim
/-! ### argument lists, displays -/
inductive RL where
  | ok (ts : List T) (h : MH) | ex (x : Exc) (h : MH) | stuck
abbrev MA := SM → MH → RL
def RL.bind (r : RL) (f : List T → MH → R) : R := match r with
  | .ok t h => f t h
  | .ex x h => .ex x h
  | .stuck => .stuck
def wpL (K : PySem.W.Frag) (mg : Str → Option Value) (W : WX) (g : G) (σ : L2.St) (Q : List V → Hp → Prop) : RL → Prop
  | .ok ts h' => ∀ g' vs, g'.h = h' → Ext g g' → Rel K mg g' → RepL K mg g' ts vs → Q vs g'.H
  | .ex x h' => ∀ g' cls d, g'.h = h' → Ext g g' → Rel K mg g' → RepX K mg g' x cls d → W cls d σ g'.H
  | .stuck => False
def tMA (K : PySem.W.Frag) (mg : Str → Option Value) (W : WX) (m : MA) : TA := fun σ H Q => ∃ g s, g.H = H ∧ Rel K mg g ∧ RepS K mg g s σ ∧ wpL K mg W g σ Q (m s g.h)
abbrev SA (X : Cx) (W : WX) (es : List Expr) (m : MA) : Prop := PA X es (tMA X.K X.mg W m)
def aNil : MA := fun _ h => .ok [] h
def aCons (ma : ME) (mr : MA) : MA := fun s h => match ma s h with
  | .ok t h1 => match mr s h1 with
    | .ok ts h2 => .ok (t :: ts) h2
    | .ex x h2 => .ex x h2
    | .stuck => .stuck
  | .ex x h1 => .ex x h1
  | .stuck => .stuck
theorem sa_nil : SA X W [] aNil := by
  refine weakA pa_nil ?_
  rintro σ H Q ⟨g, s, rfl, R, S, h⟩
  exact h g [] rfl (Ext.refl g) R RepL.nil
theorem wpL.ext {Q : List V → Hp → Prop} {g g' : G} {r : RL} (h : wpL K mg W g σ Q r) (e : Ext g g') : wpL K mg W g' σ Q r := by
  cases r with
  | ok t h' => exact fun g2 v q e2 => h g2 v q (e.trans e2)
  | ex x h' => exact fun g2 c d q e2 => h g2 c d q (e.trans e2)
  | stuck => exact h
theorem sa_cons {es : List Expr} {mr : MA} (ha : SE X W e ma) (hr : SA X W es mr) (hs : starEach (e :: es) X.env = (false, eval e X.env) :: starEach es X.env := by rfl) : SA X W (e :: es) (aCons ma mr) := by
  refine weakA (pa_cons ha hr hs) ?_
  rintro σ H Q ⟨g, s, rfl, R, S, h⟩
  refine ⟨g, s, rfl, R, S, ?_⟩
  unfold aCons at h
  cases q : ma s g.h with
  | ok t h1 =>
    rw [q] at h
    dsimp only at h
    intro g1 v q1 e1 R1 r1
    refine ⟨g1, s, rfl, R1, S.mono e1, ?_⟩
    rw [q1]
    cases q2 : mr s h1 with
    | ok ts h2 =>
      rw [q2] at h
      exact fun g2 vs q3 e2 R2 r2 => h g2 (v :: vs) q3 (e1.trans e2) R2 (RepL.cons (r1.mono e2) r2)
    | ex x h2 =>
      rw [q2] at h
      exact fun g2 c d q3 e2 => h g2 c d q3 (e1.trans e2)
    | stuck => rw [q2] at h; exact h.elim
  | ex x h1 => rw [q] at h; exact h
  | stuck => rw [q] at h; exact h.elim
theorem wpL_of {Q' : List V → Hp → Prop} {r : RL} {f : List T → MH → R} (h : wpR K mg W g σ Q (r.bind f)) (k : ∀ g' ts vs, Ext g g' → Rel K mg g' → RepL K mg g' ts vs → wpR K mg W g' σ Q (f ts g'.h) → Q' vs g'.H) : wpL K mg W g σ Q' r := by
  cases r with
  | ok t h' => exact fun g' v q e R r => k g' t v e R r (by subst q; exact wpR.ext h e)
  | ex x h' => exact h
  | stuck => exact h
def mA (f : List T → MH → R) (mr : MA) : ME := fun s h => (mr s h).bind f
def fTup : List T → MH → R := fun ts h => if ts.length ≤ big then .ok (.tup ts) h else .stuck
def fLst : List T → MH → R := fun ts h => if ts.length ≤ big then .ok (.lst ts) h else .stuck
theorem se_tup {es : List Expr} {mr : MA} {k : Nat} (h : SA X W es mr) : SE X W (.Tuple es k pos) (mA fTup mr) := by
  refine weakE (pe_tup h) ?_
  rintro σ H Q ⟨g, s, rfl, R, S, h⟩
  refine ⟨g, s, rfl, R, S, wpL_of h fun g1 ts vs e1 R1 r1 h1 => ?_⟩
  unfold fTup at h1
  split at h1
  · rename_i q; exact ⟨big_le (by rw [← r1.length]; exact q), fun p hp => wpR_tup h1 R1 r1 hp⟩
  · exact h1.elim
theorem se_lst {es : List Expr} {mr : MA} (h : SA X W es mr) : SE X W (.List es pos) (mA fLst mr) := by
  refine weakE (pe_lst h) ?_
  rintro σ H Q ⟨g, s, rfl, R, S, h⟩
  refine ⟨g, s, rfl, R, S, wpL_of h fun g1 ts vs e1 R1 r1 h1 => ?_⟩
  unfold fLst at h1
  split at h1
  · rename_i q; exact ⟨big_le (by rw [← r1.length]; exact q), fun p hp => wpR_lst h1 R1 r1 hp⟩
  · exact h1.elim
/-! ### a new changeable list -/
theorem ref_lay {o : MO} {p : Addr} {ho : HO} (R : Rel K mg g) (hp : g.H p = none) 
    (ro : ∀ g' : G, Sub g g' → g'.H p = some ho → RepO K mg g' p o) (hno : o ≠ MO.dead) :
    ∃ g' : G, g'.H = upd g.H p ho ∧ g'.h = g.h ++ [o] ∧ Ext g g' ∧ Rel K mg g' ∧ Rep K mg g' (.ref g.h.length) (.ref p) := by
  have len := R.len
  have hn : ∀ i : Nat, g.rho[i]? ≠ some p := fun i e => by
    obtain ⟨u, q⟩ := R.tr i p e
    rw [hp] at q; cases q
  have hs : Sub g ⟨g.rho ++ [p], g.h ++ [o], g.pv, upd g.H p ho⟩ := by
    refine ⟨fun i a h => ?_, fun a u h n => ⟨by show upd g.H p ho a = some u; rw [upd_ne (ne_of_none h hp)]; exact h, ?_⟩⟩
    · show (g.rho ++ [p])[i]? = some a
      rw [List.getElem?_append_left (List.getElem?_eq_some_iff.mp h).1]; exact h
    · rintro (z | ⟨i, o', h1, h2, h3⟩)
      · exact n (.inl z)
      · have h1' : (g.rho ++ [p])[i]? = some a := h1
        have h2' : (g.h ++ [o])[i]? = some o' := h2
        by_cases l : i < g.rho.length
        · rw [List.getElem?_append_left l] at h1'
          rw [List.getElem?_append_left (by omega)] at h2'
          exact n (.inr ⟨i, o', h1', h2', h3⟩)
        · rw [List.getElem?_append_right (by omega)] at h1'
          have e : a = p := by
            have := List.mem_of_getElem? h1'
            simpa using this
          rw [e, hp] at h; cases h
  have hx : ∀ i a, (g.rho ++ [p])[i]? = some a → (g.rho[i]? = some a ∧ i < g.rho.length) ∨ (i = g.rho.length ∧ a = p) := by
    intro i a h
    by_cases l : i < g.rho.length
    · rw [List.getElem?_append_left l] at h; exact .inl ⟨h, l⟩
    · rw [List.getElem?_append_right (by omega)] at h
      have l2 := (List.getElem?_eq_some_iff.mp h).1
      have e := List.mem_of_getElem? h
      refine .inr ⟨?_, by simpa using e⟩
      simp at l2; omega
  refine ⟨⟨g.rho ++ [p], g.h ++ [o], g.pv, upd g.H p ho⟩, rfl, rfl, ⟨hs.rho, rfl, fun a ha => ?_, hs.keep⟩, ⟨?_, ?_, ?_, ?_, ?_, ?_⟩, ?_⟩
  · obtain ⟨u, e⟩ := R.pvt a ha
    show upd g.H p ho a = g.H a
    rw [upd_ne (ne_of_none e hp)]
  · show (g.rho ++ [p]).length = (g.h ++ [o]).length
    rw [List.length_append, List.length_append, len]; rfl
  · intro i j a h1 h2
    rcases hx i a h1 with ⟨q1, l1⟩ | ⟨q1, l1⟩ <;> rcases hx j a h2 with ⟨q2, l2⟩ | ⟨q2, l2⟩
    · exact R.inj i j a q1 q2
    · exact absurd q1 (l2 ▸ hn i)
    · exact absurd q2 (l1 ▸ hn j)
    · omega
  · intro a ha hm
    rcases List.mem_append.mp (show a ∈ g.rho ++ [p] from hm) with q | q
    · exact R.npv a ha q
    · obtain ⟨u, e⟩ := R.pvt a ha
      rw [List.mem_singleton.mp q, hp] at e; cases e
  · intro a ha
    obtain ⟨u, e⟩ := R.pvt a ha
    exact ⟨u, by show upd g.H p ho a = some u; rw [upd_ne (ne_of_none e hp)]; exact e⟩
  · intro i a h1
    rcases hx i a h1 with ⟨q1, l1⟩ | ⟨q1, l1⟩
    · obtain ⟨u, e⟩ := R.tr i a q1
      exact ⟨u, by show upd g.H p ho a = some u; rw [upd_ne (ne_of_none e hp)]; exact e⟩
    · subst l1; exact ⟨ho, upd_same⟩
  · intro i a o' h1 h2
    have h2' : (g.h ++ [o])[i]? = some o' := h2
    rcases hx i a h1 with ⟨q1, l1⟩ | ⟨q1, l1⟩
    · rw [List.getElem?_append_left (by omega)] at h2'
      exact (R.obj i a o' q1 h2').sub hs fun w hw => by
        show upd g.H p ho a = some w
        rw [upd_ne (ne_of_none hw hp)]; exact hw
    · subst l1
      rw [List.getElem?_append_right (by omega)] at h2'
      have : o' = o := by
        have e := List.mem_of_getElem? h2'
        simpa using e
      subst this
      exact ro _ hs upd_same
  · simp only [Rep]
    refine ⟨p, rfl, ?_⟩
    show (g.rho ++ [p])[g.h.length]? = some p
    rw [← len, List.getElem?_append_right (Nat.le_refl _), Nat.sub_self]; rfl
end
end Mi
end part_Mi2
section part_Mi3
set_option maxRecDepth 100000
set_option maxHeartbeats 2000000
/-! Mi, part 3: built-in functions, subscripts, slices, methods of built-in types, stores. -/
namespace Mi
open PySem PySem.Spec PyProof.Rows L2
section
variable {X : Cx} {K : PySem.W.Frag} {mg : Str → Option Value} {W : WX} {g : G} {σ : L2.St} {Q : VK}
variable {a b c e : Expr} {ma mb mc : ME} {mr : MA} {pos p apos : Pos} {es : List Expr} {x : Str}
/-! ### a changeable object is written -/
theorem put_sub {i : Nat} {q : Addr} {o o' : MO} {ho : HO} (R : Rel K mg g) (h1 : g.rho[i]? = some q) (h2 : g.h[i]? = some o) (h3 : o ≠ MO.dead) (h4 : o' ≠ MO.dead) :
    Sub g { g with h := g.h.set i o', H := upd g.H q ho } := by
  have hq : g.hid q := .inr ⟨i, o, h1, h2, h3⟩
  refine ⟨fun _ _ h => h, fun a u h n => ⟨?_, ?_⟩⟩
  · show upd g.H q ho a = some u
    rw [upd_ne (fun e => n (by rw [e]; exact hq))]; exact h
  · rintro (z | ⟨j, w, z1, z2, z3⟩)
    · exact n (.inl z)
    · have z2' : (g.h.set i o')[j]? = some w := z2
      by_cases e : i = j
      · subst e
        rw [h1] at z1
        cases z1
        exact n hq
      · rw [List.getElem?_set_ne e] at z2'
        exact n (.inr ⟨j, w, z1, z2', z3⟩)
theorem Rel.put {i : Nat} {q : Addr} {o o' : MO} {ho : HO} (R : Rel K mg g) (h1 : g.rho[i]? = some q) (h2 : g.h[i]? = some o) (h3 : o ≠ MO.dead) (h4 : o' ≠ MO.dead)
    (ro : ∀ g' : G, Sub g g' → g'.H q = some ho → RepO K mg g' q o') :
    ∃ g' : G, g'.H = upd g.H q ho ∧ g'.h = g.h.set i o' ∧ Ext g g' ∧ Rel K mg g' := by
  have hs := put_sub (ho := ho) R h1 h2 h3 h4
  have hq : g.hid q := .inr ⟨i, o, h1, h2, h3⟩
  have hpv : ∀ a ∈ g.pv, a ≠ q := fun a ha e => R.npv a ha (by rw [e]; exact List.mem_of_getElem? h1)
  refine ⟨{ g with h := g.h.set i o', H := upd g.H q ho }, rfl, rfl, ⟨hs.rho, rfl, fun a ha => ?_, hs.keep⟩, ⟨?_, R.inj, R.npv, fun a ha => ?_, fun j a ha => ?_, fun j a w z1 z2 => ?_⟩⟩
  · show upd g.H q ho a = g.H a
    rw [upd_ne (hpv a ha)]
  · show g.rho.length = (g.h.set i o').length
    rw [List.length_set]; exact R.len
  · obtain ⟨u, e⟩ := R.pvt a ha
    exact ⟨u, by show upd g.H q ho a = some u; rw [upd_ne (hpv a ha)]; exact e⟩
  · by_cases e : a = q
    · subst e; exact ⟨ho, upd_same⟩
    · obtain ⟨u, eu⟩ := R.tr j a ha
      exact ⟨u, by show upd g.H q ho a = some u; rw [upd_ne e]; exact eu⟩
  · have z2' : (g.h.set i o')[j]? = some w := z2
    by_cases e : i = j
    · subst e
      have z1' : g.rho[i]? = some a := z1
      rw [h1] at z1'
      cases z1'
      have l : i < g.h.length := (List.getElem?_eq_some_iff.mp h2).1
      rw [List.getElem?_set_self l] at z2'
      cases z2'
      exact ro _ hs upd_same
    · rw [List.getElem?_set_ne e] at z2'
      have ne : a ≠ q := fun z => e (R.inj i j q h1 (z ▸ z1))
      exact (R.obj j a w z1 z2').sub hs fun u hu => by
        show upd g.H q ho a = some u
        rw [upd_ne ne]; exact hu
/-! ### built-in functions -/
def CallM (X : Cx) (f : List T → MH → R) (r : List V → Hp → VK → Prop) : Prop :=
  ∀ (W : WX) g σ ts vs Q, Rel X.K X.mg g → RepL X.K X.mg g ts vs → wpR X.K X.mg W g σ Q (f ts g.h) → r vs g.H Q
theorem useA {f : List T → MH → R} {r : List V → Hp → VK → Prop} (hm : CallM X f r) {H : Hp} (h : tM X.K X.mg W (mA f mr) σ H Q) : tCB r (tMA X.K X.mg W mr) σ H Q := by
  obtain ⟨g, s, rfl, R, S, h⟩ := h
  exact ⟨g, s, rfl, R, S, wpL_of h fun g1 ts vs e1 R1 r1 h1 => hm W g1 σ ts vs Q R1 r1 h1⟩
theorem se_callB {f : List T → MH → R} {r : List V → Hp → VK → Prop} {id : String} (hc : CallR X (.builtin id) r) (hm : CallM X f r) (hmg : X.mg x = none) (ha : SA X W (e :: es) mr) (hg : Gl X x := by rfl) (hv : bootBuiltins x = some (.builtin id) := by decide +kernel)
    (hn : x ≠ "__name__" := by decide) (hdb : (x == ("__debug__" : Str)) = false := by decide)
    (he : starEach (e :: es) X.env = (false, eval e X.env) :: starEach es X.env := by rfl) (hpl : (backTo pos (starEach es X.env)).any (·.1) = false := by rfl) : SE X W (.Call (.Name x p) (e :: es) [] pos) (mA f mr) :=
  weakE (pe_callB hc hg hmg hv ha hn hdb he hpl) fun _ _ _ h => useA hm h
theorem se_callTy {f : List T → MH → R} {r : List V → Hp → VK → Prop} {id : String} (hc : CallR X (.type id) r) (hm : CallM X f r) (hmg : X.mg x = none) (ha : SA X W (e :: es) mr) (hg : Gl X x := by rfl) (hv : bootBuiltins x = some (.type id) := by decide +kernel)
    (hn : x ≠ "__name__" := by decide) (hdb : (x == ("__debug__" : Str)) = false := by decide)
    (he : starEach (e :: es) X.env = (false, eval e X.env) :: starEach es X.env := by rfl) (hpl : (backTo pos (starEach es X.env)).any (·.1) = false := by rfl) : SE X W (.Call (.Name x p) (e :: es) [] pos) (mA f mr) :=
  weakE (pe_callTy hc hg hmg hv ha hn hdb he hpl) fun _ _ _ h => useA hm h
/-- the items of a list or tuple that stands -/
def seqOf (t : T) (h : MH) : Option (List T) := match t with
  | .tup xs => some xs
  | .lst xs => some xs
  | .frl xs => some xs
  | .ref i => match h[i]? with
    | some (.lst xs) => some xs
    | _ => none
  | _ => none
theorem seq_of {t : T} {v : V} {xs : List T} (R : Rel K mg g) (r : Rep K mg g t v) (h : seqOf t g.h = some xs) : ∃ q vs, v = .ref q ∧ (SqL K g.H q vs ∨ SqT K g.H q vs) ∧ RepL K mg g xs vs := by
  unfold seqOf at h
  cases t with
  | tup ys => cases h; obtain ⟨q, vs, e, h1, l1⟩ := r.sqT; exact ⟨q, vs, e, .inr h1, l1⟩
  | lst ys => cases h; obtain ⟨q, vs, e, h1, l1⟩ := r.sqL; exact ⟨q, vs, e, .inl h1, l1⟩
  | frl ys => cases h; obtain ⟨q, vs, e, h1, l1⟩ := r.sqF; exact ⟨q, vs, e, .inl h1, l1⟩
  | ref i =>
    dsimp only at h
    split at h
    · rename_i ys q
      cases h
      obtain ⟨q, vs, e, _, h1, l1⟩ := R.lst_at r q
      exact ⟨q, vs, e, .inl (SqL.of h1), l1⟩
    · cases h
  | _ => cases h
def isTupT : T → Bool
  | .tup _ => true
  | _ => false
/-- len -/
def fLen : List T → MH → R := fun ts h => match ts with
  | [.str s] => if s.length ≤ big then .ok (.int s.length) h else .stuck
  | [.dct ks vs] => .ok (.int ks.length) h
  | [t] => match seqOf t h with
    | some xs => .ok (.int xs.length) h
    | none => .stuck
  | _ => .stuck
abbrev rLenAll (K : PySem.W.Frag) : List V → Hp → VK → Prop := fun xs H Q => (∃ x n, xs = [x] ∧ LenV K x H n ∧ Q (.int n) H) ∨ (∃ d kvs, xs = [.ref d] ∧ H d = some (.dK kvs) ∧ Q (.int kvs.length) H)
theorem call_lenAll : CallR X (.builtin "len") (rLenAll X.K) := call_len.or call_lenD
theorem rep_str1 {s : Str} {vs : List V} (r : RepL K mg g [.str s] vs) : vs = [.str s] := by
  obtain ⟨v, e, h⟩ := r.one
  rw [e, rep_str h]
theorem mLen : CallM X fLen (rLenAll X.K) := by
  intro W g σ ts vs Q R r h
  unfold fLen at h
  split at h
  · rename_i s
    rw [rep_str1 r]
    split at h
    · rename_i q; exact .inl ⟨.str s, s.length, rfl, ⟨big_le q, rfl⟩, wpR_here h R rInt⟩
    · exact h.elim
  · rename_i ks us
    obtain ⟨v, rfl, rv⟩ := r.one
    simp only [Rep] at rv
    obtain ⟨q, kvs, rfl, ⟨h1, _⟩, e2, l1⟩ := rv
    have : ks.length = kvs.length := by rw [e2, List.length_map]
    rw [this] at h
    exact .inr ⟨q, kvs, rfl, h1, wpR_here h R rInt⟩
  · rename_i t _ _
    obtain ⟨v, rfl, rv⟩ := r.one
    split at h
    · rename_i xs q
      obtain ⟨p, vs, rfl, h1, l1⟩ := seq_of R rv q
      rw [l1.length] at h
      refine .inl ⟨.ref p, vs.length, rfl, ?_, wpR_here h R rInt⟩
      rcases h1 with h1 | h1
      · exact .inl ⟨vs, h1, rfl⟩
      · exact .inr ⟨vs, h1, rfl⟩
    · exact h.elim
  · exact h.elim
/-- int(x), str(n), tuple(xs), list(xs) -/
def fInt : List T → MH → R := fun ts h => match ts with
  | [.int i] => .ok (.int i) h
  | [.bl b] => .ok (.int (if b then 1 else 0)) h
  | [.str s] => match PySem.intText? s with
    | some n => if s.length ≤ 640 then .ok (.int n) h else .stuck
    | none => .stuck
  | _ => .stuck
abbrev rIntAll : List V → Hp → VK → Prop := fun xs H Q => ((∃ i, xs = [.int i] ∧ Q (.int i) H) ∨ ∃ k, xs = [.bl k] ∧ Q (.int (if k then 1 else 0)) H) ∨ (∃ a n, xs = [.str a] ∧ PySem.intText? a = some n ∧ a.length ≤ 640 ∧ Q (.int n) H)
theorem call_intAll : CallR X (.type "int") rIntAll := call_int1.or call_int_str
theorem mInt : CallM X fInt rIntAll := by
  intro W g σ ts vs Q R r h
  unfold fInt at h
  split at h
  · obtain ⟨v, rfl, rv⟩ := r.one; rw [rep_int rv]; exact .inl (.inl ⟨_, rfl, wpR_here h R rInt⟩)
  · obtain ⟨v, rfl, rv⟩ := r.one; rw [rep_bl rv]; exact .inl (.inr ⟨_, rfl, wpR_here h R rInt⟩)
  · rename_i s
    rw [rep_str1 r]
    split at h
    · rename_i n q
      split at h
      · rename_i z; exact .inr ⟨s, n, rfl, q, z, wpR_here h R rInt⟩
      · exact h.elim
    · exact h.elim
  · exact h.elim
def fStrI : List T → MH → R := fun ts h => match ts with
  | [.int i] => if i.natAbs.log2 < 1920 then .ok (.str (toString i)) h else .stuck
  | _ => .stuck
theorem mStrI : CallM X fStrI (fun xs H Q => ∃ i, xs = [.int i] ∧ i.natAbs.log2 < 1920 ∧ Q (.str (toString i)) H) := by
  intro W g σ ts vs Q R r h
  unfold fStrI at h
  split at h
  · obtain ⟨v, rfl, rv⟩ := r.one
    rw [rep_int rv]
    split at h
    · rename_i q; exact ⟨_, rfl, q, wpR_here h R rStr⟩
    · exact h.elim
  · exact h.elim
def fTuple : List T → MH → R := fun ts h => match ts with
  | [t] => match seqOf t h with
    | some xs => .ok (.tup xs) h
    | none => .stuck
  | _ => .stuck
def fList : List T → MH → R := fun ts h => match ts with
  | [t] => match seqOf t h with
    | some xs => .ok (.lst xs) h
    | none => .stuck
  | _ => .stuck
theorem seq_tup {t : T} {v : V} {xs : List T} (r : Rep K mg g t v) (h : seqOf t g.h = some xs) {q : Addr} {vs : List V} (e : v = .ref q) (hT : SqT K g.H q vs) (hL : ¬ SqL K g.H q vs) : Rep K mg g (.tup xs) v ∨ True := .inr trivial
theorem mTuple : CallM X fTuple (fun xs H Q => ∃ p ys, xs = [.ref p] ∧ ((SqL X.K H p ys ∧ ∀ l, H l = none → Q (.ref l) (upd H l (.tup ys))) ∨ (SqT X.K H p ys ∧ Q (.ref p) H))) := by
  intro W g σ ts vs Q R r h
  unfold fTuple at h
  split at h
  · rename_i t
    obtain ⟨v, rfl, rv⟩ := r.one
    split at h
    · rename_i xs q
      cases t with
      | tup ys =>
        cases q
        obtain ⟨p, vs, rfl, h1, l1⟩ := rv.sqT
        exact ⟨p, vs, rfl, .inr ⟨h1, wpR_here h R rv⟩⟩
      | lst ys =>
        cases q
        obtain ⟨p, vs, rfl, h1, l1⟩ := rv.sqL
        exact ⟨p, vs, rfl, .inl ⟨h1, fun l hl => wpR_tup h R l1 hl⟩⟩
      | frl ys =>
        cases q
        obtain ⟨p, vs, rfl, h1, l1⟩ := rv.sqF
        exact ⟨p, vs, rfl, .inl ⟨h1, fun l hl => wpR_tup h R l1 hl⟩⟩
      | ref i =>
        unfold seqOf at q
        dsimp only at q
        split at q
        · rename_i ys z
          cases q
          obtain ⟨p, vs, rfl, _, h1, l1⟩ := R.lst_at rv z
          exact ⟨p, vs, rfl, .inl ⟨SqL.of h1, fun l hl => wpR_tup h R l1 hl⟩⟩
        · cases q
      | _ => cases q
    · exact h.elim
  · exact h.elim
theorem mList : CallM X fList (fun xs H Q => ∃ p ys, xs = [.ref p] ∧ (SqL X.K H p ys ∨ SqT X.K H p ys) ∧ ∀ l, H l = none → Q (.ref l) (upd H l (.lst ys))) := by
  intro W g σ ts vs Q R r h
  unfold fList at h
  split at h
  · obtain ⟨v, rfl, rv⟩ := r.one
    split at h
    · rename_i xs q
      obtain ⟨p, vs, rfl, h1, l1⟩ := seq_of R rv q
      exact ⟨p, vs, rfl, h1, fun l hl => wpR_lst h R l1 hl⟩
    · exact h.elim
  · exact h.elim
/-- lists of one kind of thing -/
def blsOf : List T → Option (List Bool)
  | [] => some []
  | .bl b :: ts => (blsOf ts).map (b :: ·)
  | _ :: _ => none
def intsOf : List T → Option (List Int)
  | [] => some []
  | .int b :: ts => (intsOf ts).map (b :: ·)
  | _ :: _ => none
def strsOf : List T → Option (List Str)
  | [] => some []
  | .str b :: ts => (strsOf ts).map (b :: ·)
  | _ :: _ => none
theorem bls_of : ∀ {ts : List T} {vs : List V} {bs : List Bool}, RepL K mg g ts vs → blsOf ts = some bs → vs = bs.map V.bl
  | [], vs, bs, r, h => by
    simp only [RepL] at r
    simp only [blsOf] at h
    cases h; exact r
  | t :: ts, vs, bs, r, h => by
    simp only [RepL] at r
    obtain ⟨v, w, rfl, r1, r2⟩ := r
    cases t with
    | bl b =>
      simp only [blsOf] at h
      cases q : blsOf ts with
      | none => rw [q] at h; cases h
      | some cs =>
        rw [q] at h; cases h
        rw [rep_bl r1, bls_of r2 q]; rfl
    | _ => simp only [blsOf] at h; cases h
theorem ints_of : ∀ {ts : List T} {vs : List V} {bs : List Int}, RepL K mg g ts vs → intsOf ts = some bs → vs = bs.map V.int
  | [], vs, bs, r, h => by
    simp only [RepL] at r
    simp only [intsOf] at h
    cases h; exact r
  | t :: ts, vs, bs, r, h => by
    simp only [RepL] at r
    obtain ⟨v, w, rfl, r1, r2⟩ := r
    cases t with
    | int b =>
      simp only [intsOf] at h
      cases q : intsOf ts with
      | none => rw [q] at h; cases h
      | some cs =>
        rw [q] at h; cases h
        rw [rep_int r1, ints_of r2 q]; rfl
    | _ => simp only [intsOf] at h; cases h
theorem strs_of : ∀ {ts : List T} {vs : List V} {bs : List Str}, RepL K mg g ts vs → strsOf ts = some bs → vs = bs.map V.str
  | [], vs, bs, r, h => by
    simp only [RepL] at r
    simp only [strsOf] at h
    cases h; exact r
  | t :: ts, vs, bs, r, h => by
    simp only [RepL] at r
    obtain ⟨v, w, rfl, r1, r2⟩ := r
    cases t with
    | str b =>
      simp only [strsOf] at h
      cases q : strsOf ts with
      | none => rw [q] at h; cases h
      | some cs =>
        rw [q] at h; cases h
        rw [rep_str r1, strs_of r2 q]; rfl
    | _ => simp only [strsOf] at h; cases h
/-- a new or standing list (no tuple) -/
def lstOf (t : T) (h : MH) : Option (List T) := match t with
  | .lst xs => some xs
  | .frl xs => some xs
  | .ref i => match h[i]? with
    | some (.lst xs) => some xs
    | _ => none
  | _ => none
theorem lst_of {t : T} {v : V} {xs : List T} (R : Rel K mg g) (r : Rep K mg g t v) (h : lstOf t g.h = some xs) : ∃ q vs, v = .ref q ∧ SqL K g.H q vs ∧ RepL K mg g xs vs := by
  unfold lstOf at h
  cases t with
  | lst ys => cases h; exact r.sqL
  | frl ys => cases h; exact r.sqF
  | ref i =>
    dsimp only at h
    split at h
    · rename_i ys q
      cases h
      obtain ⟨q, vs, e, _, h1, l1⟩ := R.lst_at r q
      exact ⟨q, vs, e, SqL.of h1, l1⟩
    · cases h
  | _ => cases h
def fBls (f : List Bool → Bool) : List T → MH → R := fun ts h => match ts with
  | [t] => match lstOf t h with
    | some xs => match blsOf xs with
      | some bs => .ok (.bl (f bs)) h
      | none => .stuck
    | none => .stuck
  | _ => .stuck
theorem mBls {f : List Bool → Bool} : CallM X (fBls f) (fun vs H Q => ∃ (a : Addr) (bs : List Bool), vs = [V.ref a] ∧ SqL X.K H a (bs.map V.bl) ∧ Q (.bl (f bs)) H) := by
  intro W g σ ts vs Q R r h
  unfold fBls at h
  split at h
  · obtain ⟨v, rfl, rv⟩ := r.one
    split at h
    · rename_i xs q
      obtain ⟨p, vs, rfl, h1, l1⟩ := lst_of R rv q
      split at h
      · rename_i bs z
        rw [bls_of l1 z] at h1
        exact ⟨p, bs, rfl, h1, wpR_here h R rBl⟩
      · exact h.elim
    · exact h.elim
  · exact h.elim
def fAll := fBls fun bs => bs.all id
def fAny := fBls fun bs => bs.any id
theorem mAll : CallM X fAll (rAll X.K) := mBls
theorem mAny : CallM X fAny (rAny X.K) := mBls
def fSum : List T → MH → R := fun ts h => match ts with
  | [t] => match lstOf t h with
    | some xs => match intsOf xs with
      | some ns => .ok (.int ns.sum) h
      | none => .stuck
    | none => .stuck
  | _ => .stuck
theorem mSum : CallM X fSum (rSum X.K) := by
  intro W g σ ts vs Q R r h
  unfold fSum at h
  split at h
  · obtain ⟨v, rfl, rv⟩ := r.one
    split at h
    · rename_i xs q
      obtain ⟨p, vs, rfl, h1, l1⟩ := lst_of R rv q
      split at h
      · rename_i bs z
        rw [ints_of l1 z] at h1
        exact ⟨p, bs, rfl, h1, wpR_here h R rInt⟩
      · exact h.elim
    · exact h.elim
  · exact h.elim
/-- max, min of two ints -/
def fMax2 : List T → MH → R := fun ts h => match ts with
  | [.int i, .int j] => .ok (.int (if j > i then j else i)) h
  | _ => .stuck
def fMin2 : List T → MH → R := fun ts h => match ts with
  | [.int i, .int j] => .ok (.int (if j < i then j else i)) h
  | _ => .stuck
theorem rep_int2 {i j : Int} {vs : List V} (r : RepL K mg g [.int i, .int j] vs) : vs = [.int i, .int j] := by
  simp only [RepL] at r
  obtain ⟨v, w, rfl, r1, v2, w2, rfl, r2, rfl⟩ := r
  rw [rep_int r1, rep_int r2]
theorem mMax2 : CallM X fMax2 (fun xs H Q => ∃ i j, xs = [.int i, .int j] ∧ Q (.int (if j > i then j else i)) H) := by
  intro W g σ ts vs Q R r h
  unfold fMax2 at h
  split at h
  · exact ⟨_, _, rep_int2 r, wpR_here h R rInt⟩
  · exact h.elim
theorem mMin2 : CallM X fMin2 (fun xs H Q => ∃ i j, xs = [.int i, .int j] ∧ Q (.int (if j < i then j else i)) H) := by
  intro W g σ ts vs Q R r h
  unfold fMin2 at h
  split at h
  · exact ⟨_, _, rep_int2 r, wpR_here h R rInt⟩
  · exact h.elim
/-! ### subscripts -/
def fIx : T → T → MH → R := fun t u h => match u with
  | .int i => match t with
    | .str s => if s.length ≤ big then (match atI s.cps.toList i with
      | some c => .ok (.str ⟨#[c]⟩) h
      | none => .stuck) else .stuck
    | _ => match seqOf t h with
      | some xs => match atI xs i with
        | some z => .ok z h
        | none => .stuck
      | none => .stuck
  | _ => .stuck
theorem at_of {xs : List T} {vs : List V} {i : Int} {t : T} (r : RepL K mg g xs vs) (h : atI xs i = some t) : ∃ v, atI vs i = some v ∧ Rep K mg g t v := by
  unfold atI at h ⊢
  rw [← r.length]
  cases q : ixN xs.length i with
  | none => rw [q] at h; cases h
  | some j =>
    rw [q] at h
    exact r.get h
theorem mIx : OpM X fIx (rIx X.K) := by
  intro W g σ t u x y Q R r1 r2 h
  unfold fIx at h
  split at h
  · rename_i i
    rw [rep_int r2]
    split at h
    · rename_i s
      rw [rep_str r1]
      split at h
      · rename_i q
        split at h
        · rename_i c z
          exact .inr (.inr ⟨s, i, c, rfl, rfl, big_le q, z, wpR_here h R rStr⟩)
        · exact h.elim
      · exact h.elim
    · split at h
      · rename_i xs q
        obtain ⟨p, vs, rfl, h1, l1⟩ := seq_of R r1 q
        split at h
        · rename_i z hz
          obtain ⟨v, e1, rv⟩ := at_of l1 hz
          rcases h1 with h1 | h1
          · exact .inl ⟨p, vs, i, v, rfl, rfl, h1, e1, wpR_here h R rv⟩
          · exact .inr (.inl ⟨p, vs, i, v, rfl, rfl, h1, e1, wpR_here h R rv⟩)
        · exact h.elim
      · exact h.elim
  · exact h.elim
theorem se_ix (ha : SE X W a ma) (hb : SE X W b mb) (hs : PlainIx b := by exact fun _ _ => rfl) : SE X W (.Subscript a b pos) (m2 fIx ma mb) :=
  weakE (pe_ix ix_seq ha hb hs) fun _ _ _ h => use2 mIx h
/-! ### slices -/
abbrev MO' := SM → MH → R
def wpO (K : PySem.W.Frag) (mg : Str → Option Value) (W : WX) (g : G) (σ : L2.St) (Q : Option Int → Hp → Prop) : R → Prop
  | .ok (.int i) h' => ∀ g', g'.h = h' → Ext g g' → Rel K mg g' → Q (some i) g'.H
  | .ok .non h' => ∀ g', g'.h = h' → Ext g g' → Rel K mg g' → Q none g'.H
  | .ok _ _ => False
  | .ex x h' => ∀ g' cls d, g'.h = h' → Ext g g' → Rel K mg g' → RepX K mg g' x cls d → W cls d σ g'.H
  | .stuck => False
def tMO (K : PySem.W.Frag) (mg : Str → Option Value) (W : WX) (m : ME) : TO := fun σ H Q => ∃ g s, g.H = H ∧ Rel K mg g ∧ RepS K mg g s σ ∧ wpO K mg W g σ Q (m s g.h)
theorem weakO {X : Cx} {e : Option Expr} {t t' : TO} (h : PO X e t) (k : ∀ σ H Q, t' σ H Q → t σ H Q) : PO X e t' := ⟨fun pins s σ H Q I q => h.run pins s σ H Q I (k σ H Q q)⟩
def fPart : T → MH → R := fun t h => match t with
  | .int i => .ok (.int i) h
  | _ => .stuck
theorem so_none : PO X none (tMO X.K X.mg W (mC .non)) := by
  refine weakO po_none ?_
  rintro σ H Q ⟨g, s, rfl, R, S, h⟩
  exact h g rfl (Ext.refl g) R
theorem wpO_bind {Q : Option Int → Hp → Prop} {Q' : VK} {r : R} (h : wpO K mg W g σ Q (r.bind fPart)) (k : ∀ g' i v, Ext g g' → Rel K mg g' → Rep K mg g' (.int i) v → Q (some i) g'.H → Q' v g'.H) : wpR K mg W g σ Q' r := by
  cases r with
  | ok t h' =>
    cases t with
    | int i => exact fun g' v q e R r => k g' i v e R r (h g' q e R)
    | _ => exact h.elim
  | ex x h' => exact h
  | stuck => exact h.elim
theorem so_some (ha : SE X W a ma) : PO X (some a) (tMO X.K X.mg W (m1 fPart ma)) := by
  refine weakO (po_some ha) ?_
  rintro σ H Q ⟨g, s, rfl, R, S, h⟩
  exact ⟨g, s, rfl, R, S, wpO_bind h fun g1 i v e1 R1 r1 q => ⟨i, rep_int r1, q⟩⟩
def cutT (xs : List T) (lo hi : Option Int) : List T := (xs.drop (HT.sIx xs.length 0 lo)).take (HT.sIx xs.length xs.length hi - HT.sIx xs.length 0 lo)
theorem cut_of {xs : List T} {vs : List V} {lo hi : Option Int} (r : RepL K mg g xs vs) : RepL K mg g (cutT xs lo hi) (cutV vs lo hi) := by
  unfold cutT cutV
  rw [r.length]
  exact (r.drop _).take _
def oInt : T → Option Int
  | .int i => some i
  | _ => none
def fSl : T → T → T → MH → R := fun t l u h => match t with
  | .str s => if s.length ≤ big then .ok (.str (cutS s (oInt l) (oInt u))) h else .stuck
  | .tup xs => .ok (.tup (cutT xs (oInt l) (oInt u))) h
  | _ => match lstOf t h with
    | some xs => .ok (.lst (cutT xs (oInt l) (oInt u))) h
    | none => .stuck
def mSl (mt ml mu : ME) : ME := fun s h => (mt s h).bind fun t h1 => (ml s h1).bind fun l h2 => (mu s h2).bind fun u h3 => fSl t l u h3
/-- what a slice's part is, as a value of the mirror -/
theorem wpR_part {Q' : Option Int → Hp → Prop} {r : R} {f : T → MH → R} (h : wpR K mg W g σ Q (r.bind f)) (hok : ∀ t h', r = .ok t h' → t = .non ∨ ∃ i, t = .int i) (k : ∀ g' t, Ext g g' → Rel K mg g' → wpR K mg W g' σ Q (f t g'.h) → Q' (oInt t) g'.H) : wpO K mg W g σ Q' r := by
  cases r with
  | ok t h' =>
    rcases hok t h' rfl with e | ⟨i, e⟩
    · subst e; exact fun g' q e R => k g' .non e R (by subst q; exact wpR.ext h e)
    · subst e; exact fun g' q e R => k g' (.int i) e R (by subst q; exact wpR.ext h e)
  | ex x h' => exact h
  | stuck => exact h
def PartM (m : ME) : Prop := ∀ s h t h', m s h = .ok t h' → t = .non ∨ ∃ i, t = .int i
theorem part_none : PartM (mC .non) := fun s h t h' e => by cases e; exact .inl rfl
theorem part_some {m : ME} : PartM (m1 fPart m) := fun s h t h' e => by
  unfold m1 R.bind fPart at e
  split at e
  · split at e
    · cases e; exact .inr ⟨_, rfl⟩
    · cases e
  · cases e
  · cases e
theorem se_slice {lo hi : Option Expr} {p2 : Pos} {ml mu : ME} (ha : SE X W a ma) (hl : PO X lo (tMO X.K X.mg W ml)) (hu : PO X hi (tMO X.K X.mg W mu)) (pl : PartM ml) (pu : PartM mu) :
    SE X W (.Subscript a (.Slice lo hi none p2) pos) (mSl ma ml mu) := by
  refine weakE (pe_slice (sl_str.or (sl_tupA.or sl_list)) ha hl hu) ?_
  rintro σ H Q ⟨g, s, rfl, R, S, h⟩
  refine ⟨g, s, rfl, R, S, wpR_bind h fun g1 t v e1 R1 r1 h1 => ⟨g1, s, rfl, R1, S.mono e1, wpR_part h1 (pl s g1.h) fun g2 l e2 R2 h2 => ⟨g2, s, rfl, R2, S.mono (e1.trans e2), wpR_part h2 (pu s g2.h) fun g3 u e3 R3 h3 => ?_⟩⟩⟩
  have r3 := (r1.mono e2).mono e3
  unfold fSl at h3
  split at h3
  · rename_i z
    rw [rep_str r3]
    split at h3
    · rename_i q; exact .inl ⟨z, rfl, big_le q, wpR_here h3 R3 rStr⟩
    · exact h3.elim
  · rename_i xs
    have r3' := r3
    obtain ⟨p, vs, rfl, hp, lp⟩ := r3.sqT
    refine .inr (.inl ⟨p, vs, rfl, hp, fun hw => ?_, fun hw q hq => wpR_tup h3 R3 (cut_of lp) hq⟩)
    have e : cutT xs (oInt l) (oInt u) = xs := by
      unfold cutT
      rw [lp.length, hw.1, hw.2]
      rw [List.drop_zero, Nat.sub_zero, ← lp.length, List.take_length]
    rw [e] at h3
    exact wpR_here h3 R3 r3'
  · split at h3
    · rename_i xs q
      obtain ⟨p, vs, rfl, hp, lp⟩ := lst_of R3 r3 q
      exact .inr (.inr ⟨p, vs, rfl, hp, fun q hq => wpR_lst h3 R3 (cut_of lp) hq⟩)
    · exact h3.elim
/-! ### methods of built-in types -/
def tyOK (T' : String) (t : T) (h : MH) : Bool := match t with
  | .str _ => T' == "str"
  | .lst _ => T' == "list"
  | .frl _ => T' == "list"
  | .dct _ _ => T' == "dict"
  | .ref i => match h[i]? with
    | some (.lst _) => T' == "list"
    | some (.dct _ _) => T' == "dict"
    | _ => false
  | _ => false
theorem tyV_of {T' : String} {t : T} {v : V} (R : Rel K mg g) (r : Rep K mg g t v) (h : tyOK T' t g.h = true) : tyV K T' v g.H := by
  unfold tyOK at h
  cases t with
  | str s => rw [rep_str r]; exact beq_iff_eq.mp h
  | lst xs => obtain ⟨p, vs, rfl, h1, _⟩ := r.sqL; exact .inl ⟨beq_iff_eq.mp h, vs, h1⟩
  | frl xs => obtain ⟨p, vs, rfl, h1, _⟩ := r.sqF; exact .inl ⟨beq_iff_eq.mp h, vs, h1⟩
  | dct ks vs => simp only [Rep] at r; obtain ⟨q, kvs, rfl, ⟨h1, _⟩, _⟩ := r; exact .inr (.inr (.inl ⟨beq_iff_eq.mp h, .inl ⟨kvs, h1⟩⟩))
  | ref i =>
    dsimp only at h
    split at h
    · rename_i xs q
      obtain ⟨p, vs, rfl, _, h1, _⟩ := R.lst_at r q
      exact .inl ⟨beq_iff_eq.mp h, vs, SqL.of h1⟩
    · rename_i ks ts q
      simp only [Rep] at r
      obtain ⟨p, rfl, hp⟩ := r
      obtain ⟨kvs, h1, _⟩ := R.obj i p _ hp q
      exact .inr (.inr (.inl ⟨beq_iff_eq.mp h, .inl ⟨kvs, h1⟩⟩))
    · cases h
  | _ => cases h
def MeM (X : Cx) (f : T → List T → MH → R) (r : V → List V → Hp → VK → Prop) : Prop :=
  ∀ (W : WX) g σ t ts x vs Q, Rel X.K X.mg g → Rep X.K X.mg g t x → RepL X.K X.mg g ts vs → wpR X.K X.mg W g σ Q (f t ts g.h) → r x vs g.H Q
def mMe (T' : String) (f : T → List T → MH → R) (mo : ME) (mr : MA) : ME := fun s h => (mo s h).bind fun t h1 => if tyOK T' t h1 then (mr s h1).bind fun ts h2 => f t ts h2 else .stuck
theorem se_bm {T' id : String} {name : Str} {f : T → List T → MH → R} {r : V → List V → Hp → VK → Prop} (pa : PlainAttrs T') (slot : Slot T' name id) (hty : typeOf (.builtin id) = pure (.type "method_descriptor")) (hm : MtR X id r) (hf : MeM X f r) (ho : SE X W a ma) (ha : SA X W (e :: es) mr)
    (hbase : attributeBase a name X.env (eval a X.env) = eval a X.env := by rfl)
    (hfew : ((backTo pos (starEach (e :: es) X.env)).all (fun x => !x.1) && (backToKw pos (keywordEach [] X.env)).all (fun x => x.1.isSome)
      && decide ((e :: es).length + ([] : List Keyword).length + (if ([] : List Keyword).isEmpty then 0 else 1) < 30)) = true := by rfl)
    (hline : (apos.endLine == pos.line) = true := by rfl) (hs : starEach (e :: es) X.env = (false, eval e X.env) :: starEach es X.env := by rfl) (hplain : (backTo pos (starEach es X.env)).any (·.1) = false := by rfl) :
    SE X W (.Call (.Attribute a name apos) (e :: es) [] pos) (mMe T' f ma mr) := by
  refine weakE (pe_bm pa slot hty hm ho ha hbase hfew hline hs hplain) ?_
  rintro σ H Q ⟨g, s, rfl, R, S, h⟩
  refine ⟨g, s, rfl, R, S, wpR_bind h fun g1 t v e1 R1 r1 h1 => ?_⟩
  split at h1
  · rename_i q
    exact ⟨tyV_of R1 r1 q, g1, s, rfl, R1, S.mono e1, wpL_of h1 fun g2 ts vs e2 R2 r2 h2 => hf W g2 σ t ts v vs Q R2 (r1.mono e2) r2 h2⟩
  · exact h1.elim
theorem se_bm0 {T' id : String} {name : Str} {f : T → List T → MH → R} {r : V → List V → Hp → VK → Prop} (pa : PlainAttrs T') (slot : Slot T' name id) (hty : typeOf (.builtin id) = pure (.type "method_descriptor")) (hm : MtR X id r) (hf : MeM X f r) (ho : SE X W a ma)
    (hbase : attributeBase a name X.env (eval a X.env) = eval a X.env := by rfl) (hline : (apos.endLine == pos.line) = true := by rfl) :
    SE X W (.Call (.Attribute a name apos) [] [] pos) (mMe T' f ma aNil) := by
  refine weakE (pe_bm0 pa slot hty hm ho hbase hline) ?_
  rintro σ H Q ⟨g, s, rfl, R, S, h⟩
  refine ⟨g, s, rfl, R, S, wpR_bind h fun g1 t v e1 R1 r1 h1 => ?_⟩
  split at h1
  · rename_i q
    exact ⟨tyV_of R1 r1 q, hf W g1 σ t [] v [] Q R1 r1 RepL.nil h1⟩
  · exact h1.elim
/-- xs.append(v) of a changeable list -/
def liveL (t : T) (h : MH) : Option (Nat × List T) := match t with
  | .ref i => match h[i]? with
    | some (.lst xs) => some (i, xs)
    | _ => none
  | _ => none
theorem live_of {t : T} {v : V} {i : Nat} {xs : List T} (R : Rel K mg g) (r : Rep K mg g t v) (h : liveL t g.h = some (i, xs)) : ∃ p vs, v = .ref p ∧ g.rho[i]? = some p ∧ g.h[i]? = some (.lst xs) ∧ g.H p = some (.lst vs) ∧ RepL K mg g xs vs := by
  unfold liveL at h
  split at h
  · rename_i j
    split at h
    · rename_i ys q
      cases h
      obtain ⟨p, vs, e, e2, h1, l1⟩ := R.lst_at r q
      exact ⟨p, vs, e, e2, q, h1, l1⟩
    · cases h
  · cases h
/-- a changeable list is written -/
theorem wpR_put {t : T} {v : V} {i : Nat} {q : Addr} {xs ys : List T} {ws : List V} (h : wpR K mg W g σ Q (.ok t (g.h.set i (.lst ys)))) (R : Rel K mg g) (h1 : g.rho[i]? = some q) (h2 : g.h[i]? = some (.lst xs)) (r : RepL K mg g ys ws) (rv : Rep K mg g t v) : Q v (upd g.H q (.lst ws)) := by
  obtain ⟨g', e1, e2, ex, R'⟩ := R.put (o' := .lst ys) (ho := .lst ws) h1 h2 (by intro z; cases z) (by intro z; cases z) (fun g2 s2 hq => ⟨ws, hq, r.sub s2⟩)
  rw [← e1]
  exact h g' v e2 ex R' (rv.mono ex)
def fAppend : T → List T → MH → R := fun t ts h => match ts with
  | [y] => match liveL t h with
    | some (i, xs) => if xs.length < big then .ok .non (h.set i (.lst (xs ++ [y]))) else .stuck
    | none => .stuck
  | _ => .stuck
theorem big_lt {n : Nat} (h : n < big) : n < sizeLine := Nat.lt_of_lt_of_le h (big_le (Nat.le_refl _))
theorem meAppend : MeM X fAppend rAppend := by
  intro W g σ t ts x vs Q R r rs h
  unfold fAppend at h
  split at h
  · rename_i y
    obtain ⟨v, rfl, rv⟩ := rs.one
    split at h
    · rename_i i xs q
      obtain ⟨p, ws, rfl, hp, hh, h1, l1⟩ := live_of R r q
      split at h
      · rename_i z
        exact ⟨p, ws, v, rfl, rfl, h1, big_lt (by rw [← l1.length]; exact z), wpR_put h R hp hh (l1.append (RepL.cons rv RepL.nil)) rNon⟩
      · exact h.elim
    · exact h.elim
  · exact h.elim
def fInsert : T → List T → MH → R := fun t ts h => match ts with
  | [.int k, y] => match liveL t h with
    | some (i, xs) => if xs.length < big ∧ 0 ≤ k ∧ k < 1000000 then .ok .non (h.set i (.lst (xs.take k.toNat ++ [y] ++ xs.drop k.toNat))) else .stuck
    | none => .stuck
  | _ => .stuck
theorem meInsert : MeM X fInsert (fun x vs H Q => ∃ (l : Addr) (xs : List V) (i : Int) (y : V), x = .ref l ∧ vs = [.int i, y] ∧ H l = some (.lst xs) ∧ xs.length < sizeLine ∧ 0 ≤ i ∧ i < 2 ^ 63 ∧
    Q .non (upd H l (.lst (xs.take i.toNat ++ [y] ++ xs.drop i.toNat)))) := by
  intro W g σ t ts x vs Q R r rs h
  unfold fInsert at h
  split at h
  · rename_i k y
    simp only [RepL] at rs
    obtain ⟨v0, w0, rfl, rk, v, w1, rfl, rv, rfl⟩ := rs
    rw [rep_int rk]
    split at h
    · rename_i i xs q
      obtain ⟨p, ws, rfl, hp, hh, h1, l1⟩ := live_of R r q
      split at h
      · rename_i z
        refine ⟨p, ws, k, v, rfl, rfl, h1, big_lt (by rw [← l1.length]; exact z.1), z.2.1, by omega, wpR_put h R hp hh ?_ rNon⟩
        exact ((l1.take _).append (RepL.cons rv RepL.nil)).append (l1.drop _)
      · exact h.elim
    · exact h.elim
  · exact h.elim
/-- methods of texts -/
def fS0 (C : Str → Bool) (f : Str → T) : T → List T → MH → R := fun t ts h => match t, ts with
  | .str a, [] => if C a then .ok (f a) h else .stuck
  | _, _ => .stuck
def fS1 (C : Str → Str → Bool) (f : Str → Str → T) : T → List T → MH → R := fun t ts h => match t, ts with
  | .str a, [.str b] => if C a b then .ok (f a b) h else .stuck
  | _, _ => .stuck
theorem meS1 {Cb : Str → Str → Bool} {C : Str → Str → Prop} {f : Str → Str → T} {fv : Str → Str → V} (hC : ∀ a b, Cb a b = true → C a b) (hf : ∀ (K : PySem.W.Frag) mg g a b, Rep K mg g (f a b) (fv a b)) :
    MeM X (fS1 Cb f) (fun x xs H Q => ∃ a b, x = .str a ∧ xs = [.str b] ∧ C a b ∧ Q (fv a b) H) := by
  intro W g σ t ts x vs Q R r rs h
  unfold fS1 at h
  split at h
  · rename_i a b
    rw [rep_str r, rep_str1 rs]
    split at h
    · rename_i q; exact ⟨a, b, rfl, rfl, hC a b q, wpR_here h R (hf _ _ _ a b)⟩
    · exact h.elim
  · exact h.elim
def fRstrip := fS1 (fun a _ => decide (a.length ≤ big)) fun a b => .str (Txt.rstripChars a b)
theorem meRstrip : MeM X fRstrip (fun x xs H Q => ∃ a b, x = .str a ∧ xs = [.str b] ∧ a.length ≤ sizeLine ∧ Q (.str (Txt.rstripChars a b)) H) := meS1 (C := fun a _ => a.length ≤ sizeLine) (fun a b h => big_le (of_decide_eq_true h)) fun _ _ _ _ _ => rStr
def fJoin : T → List T → MH → R := fun t ts h => match t, ts with
  | .str a, [u] => match seqOf u h with
    | some xs => match strsOf xs with
      | some ys => if (ys.map (·.length)).sum + ys.length * a.length ≤ big then .ok (.str (Txt.join a ys)) h else .stuck
      | none => .stuck
    | none => .stuck
  | _, _ => .stuck
theorem meJoin : MeM X fJoin (fun x xs H Q => ∃ a p, ∃ ys : List Str, x = .str a ∧ xs = [.ref p] ∧ (SqL X.K H p (ys.map V.str) ∨ SqT X.K H p (ys.map V.str)) ∧
    (ys.map (·.length)).sum + ys.length * a.length ≤ 16777216 ∧ Q (.str (Txt.join a ys)) H) := by
  intro W g σ t ts x vs Q R r rs h
  unfold fJoin at h
  split at h
  · rename_i a u
    obtain ⟨v, rfl, rv⟩ := rs.one
    rw [rep_str r]
    split at h
    · rename_i xs q
      obtain ⟨p, ws, rfl, h1, l1⟩ := seq_of R rv q
      split at h
      · rename_i ys z
        rw [strs_of l1 z] at h1
        split at h
        · rename_i sz
          exact ⟨a, p, ys, rfl, rfl, h1, Nat.le_trans sz (by decide), wpR_here h R rStr⟩
        · exact h.elim
      · exact h.elim
    · exact h.elim
  · exact h.elim
end
end Mi
end part_Mi3
section part_Mi4
set_option maxRecDepth 100000
set_option maxHeartbeats 2000000
set_option maxHeartbeats 1000000 in
/-! Mi, part 4: what a for or a comprehension walks. -/
namespace Mi
open PySem PySem.Spec PyProof.Rows L2
/-- a source of items: a list, a tuple, a text -/
inductive Sk where
  | L (a : Addr) | Tp (a : Addr) | S (x : Str)
def Sk.v : Sk → V
  | .L a => .ref a
  | .Tp a => .ref a
  | .S x => .str x
def sgn (x : Str) : List V := x.cps.toList.map fun c => V.str ⟨#[c]⟩
def Sk.at (K : PySem.W.Frag) (H : Hp) (vs : List V) : Sk → Prop
  | .L a => SqL K H a vs
  | .Tp a => SqT K H a vs
  | .S x => vs = sgn x
def Sk.iter (it : Addr) (i : Nat) (h : Heap) : Sk → Prop
  | .L a => h.IsListIter it a i
  | .Tp a => h.IsTupleIter it a i
  | .S x => ∃ t, h.IsStrIter it (strIterType x) x t i
/-- what the source's step leans on -/
structure SkD (P : Program) (w : World) (A : Around) (it : Addr) (sk : Sk) (vs : List V) (i : Nat) (h : Heap) (fp : List Addr) (Pv : Nat → Value → Prop) (St : Nat → Heap → Prop) : Prop where
  D : Draws P w A it fp vs.length Pv St
  st : St i h
  rel : ∀ j u, Pv j u → ∃ x, vs[j]? = some x ∧ RelV x u
  back : ∀ j h', St j h' → sk.iter it j h'
  mem : it ∈ fp
theorem sk_it {K : PySem.W.Frag} {sk : Sk} {it : Addr} {i : Nat} {h h' : Heap} (s : sk.iter it i h) (k : ∀ o, h.get? it = some o → h'.get? it = some o) : sk.iter it i h' := by
  cases sk with
  | L a => exact Heap.IsListIter.at s k
  | Tp a => exact Heap.IsTupleIter.at s k
  | S x => obtain ⟨t, o, ho, r⟩ := s; exact ⟨t, o, k o ho, r⟩
theorem sk_obj {sk : Sk} {it : Addr} {i : Nat} {h : Heap} (s : sk.iter it i h) : ∃ o, h.get? it = some o ∧ ∀ v, o.data ≠ .cell v := by
  cases sk with
  | L a => obtain ⟨o, ho, hc, hd⟩ := s; exact ⟨o, ho, fun v q => by rw [hd] at q; cases q⟩
  | Tp a => obtain ⟨o, ho, hc, hd⟩ := s; exact ⟨o, ho, fun v q => by rw [hd] at q; cases q⟩
  | S x => obtain ⟨t, o, ho, hc, hd⟩ := s; exact ⟨o, ho, fun v q => by rw [hd] at q; cases q⟩
section
variable {X : Cx} {pins : List (Addr × Obj)} {σ : L2.St} {H : Hp} {s : Shared}
/-- an iterator's own cell is no list or tuple that is read -/
theorem fp_neL (I : Inv X pins σ H s) {b a : Addr} {vs : List V} (f : FpOk X pins H b) (h : SqL X.K H a vs) : a ≠ b := by
  rintro rfl
  rcases h with h | ⟨o, _, _, h, _⟩
  · rcases h with h | ⟨o, h⟩ <;> rw [f.1] at h <;> cases h
  · have hb := I.mod.kin _ _ h
    rcases f.2.2.2.1 with z | z
    · exact I.ok.noex _ o hb z
    · exact absurd (Nat.lt_of_lt_of_le (Heap.lt_size (I.ok.bs _ o hb).1) z) (Nat.lt_irrefl _)
theorem fp_neT (I : Inv X pins σ H s) {b a : Addr} {vs : List V} (f : FpOk X pins H b) (h : SqT X.K H a vs) : a ≠ b := by
  rintro rfl
  rcases h with h | ⟨o, _, _, h, _⟩
  · rcases h with h | ⟨o, h⟩ <;> rw [f.1] at h <;> cases h
  · have hb := I.mod.kin _ _ h
    rcases f.2.2.2.1 with z | z
    · exact I.ok.noex _ o hb z
    · exact absurd (Nat.lt_of_lt_of_le (Heap.lt_size (I.ok.bs _ o hb).1) z) (Nat.lt_irrefl _)
def Sk.ads : Sk → List Addr
  | .L a => [a]
  | .Tp a => [a]
  | .S _ => []
theorem sk_draws (I : Inv X pins σ H s) (hc : X.calm = true) {sk : Sk} {vs : List V} {it : Addr} {i : Nat} (hs : sk.at X.K H vs) (hi : sk.iter it i s.heap) (f : FpOk X pins H it) :
    ∃ Pv St, SkD X.prog X.w X.A.in1 it sk vs i s.heap (it :: sk.ads) Pv St := by
  have hh : X.A.in1.handled = none := I.ok.hd hc
  cases sk with
  | L a =>
    obtain ⟨its, rv, p, hz⟩ := I.list hs
    have e : its.toArray.size = vs.length := by rw [List.size_toArray]; exact rv.length.symm
    refine ⟨fun j v => its.toArray[j]? = some v, fun i h => h.IsListIter it a i ∧ h.IsList a its.toArray, ⟨e ▸ Draws.list hh it a (fp_neL I f hs) its.toArray, ⟨hi, p.isList⟩, fun j u h => ?_, fun j h' st => st.1, List.mem_cons_self⟩⟩
    have h' : its[j]? = some u := by simpa using h
    have l : j < vs.length := by rw [rv.length]; exact (List.getElem?_eq_some_iff.mp h').1
    obtain ⟨u', e1, r⟩ := rv.get (List.getElem?_eq_getElem l)
    rw [h'] at e1; cases e1
    exact ⟨_, List.getElem?_eq_getElem l, r⟩
  | Tp a =>
    obtain ⟨its, rv, p, hz⟩ := I.tuple hs
    have e : its.toArray.size = vs.length := by rw [List.size_toArray]; exact rv.length.symm
    refine ⟨fun j v => its.toArray[j]? = some v, fun i h => h.IsTupleIter it a i ∧ h.IsTuple a its.toArray, ⟨e ▸ Draws.tuple hh it a (fp_neT I f hs) its.toArray, ⟨hi, show s.heap.IsTuple a its.toArray from p⟩, fun j u h => ?_, fun j h' st => st.1, List.mem_cons_self⟩⟩
    have h' : its[j]? = some u := by simpa using h
    have l : j < vs.length := by rw [rv.length]; exact (List.getElem?_eq_some_iff.mp h').1
    obtain ⟨u', e1, r⟩ := rv.get (List.getElem?_eq_getElem l)
    rw [h'] at e1; cases e1
    exact ⟨_, List.getElem?_eq_getElem l, r⟩
  | S x =>
    obtain ⟨t, hi⟩ := hi
    have hs' : vs = sgn x := hs
    have e : x.cps.size = vs.length := by rw [hs']; unfold sgn; rw [List.length_map, Array.length_toList]
    refine ⟨fun j v => ∃ c u, x.cps[j]? = some c ∧ v = .str ⟨#[c]⟩ u, fun i h => h.IsStrIter it (strIterType x) x t i, ⟨e ▸ Draws.text hh it x t, hi, fun j u h => ?_, fun j h' st => ⟨t, st⟩, List.mem_cons_self⟩⟩
    obtain ⟨c, w, h1, rfl⟩ := h
    refine ⟨.str ⟨#[c]⟩, ?_, ⟨w, rfl⟩⟩
    rw [hs']; unfold sgn
    rw [List.getElem?_map, Array.getElem?_toList, h1]; rfl
/-- iter(v) of a source -/
theorem sk_begins (I : Inv X pins σ H s) {sk : Sk} {vs : List V} {u : Value} (hs : sk.at X.K H vs) (r : RelV sk.v u) :
    ∃ (o : Obj) (Hp' : Heap → Prop), PySem.Begins u o Hp' ∧ Hp' s.heap ∧ ∀ h' it, h'.get? it = some o → sk.iter it 0 h' := by
  cases sk with
  | L a =>
    cases r
    obtain ⟨its, rv, p, hz⟩ := I.list hs
    exact ⟨_, _, begins_list a its.toArray, p.isList, fun h' it e => ⟨_, e, rfl, rfl⟩⟩
  | Tp a =>
    cases r
    obtain ⟨its, rv, p, hz⟩ := I.tuple hs
    exact ⟨_, _, begins_tuple a its.toArray, (show s.heap.IsTuple a its.toArray from p), fun h' it e => ⟨_, e, rfl, rfl⟩⟩
  | S x =>
    obtain ⟨t, rfl⟩ := r
    exact ⟨_, _, begins_text x t, trivial, fun h' it e => ⟨t, _, e, rfl, rfl⟩⟩
theorem ads_ne (I : Inv X pins σ H s) {sk : Sk} {vs : List V} {b : Addr} (f : FpOk X pins H b) (hs : sk.at X.K H vs) : b ∉ sk.ads := by
  cases sk with
  | L a => intro h; exact fp_neL I f hs (List.mem_singleton.mp h).symm
  | Tp a => intro h; exact fp_neT I f hs (List.mem_singleton.mp h).symm
  | S x => intro h; cases h
/-- an item of a walk over pairs, by the library's WalksT -/
theorem walk_item {elts : List Expr} {kk : Nat} {tpos : Pos} {it : Addr} {fp wr : List Addr} {n : Nat} {Pt : Nat → Array Value → Prop} {St : Nat → Heap → Prop} {Mid : Nat → Addr → Heap → Prop} {E : Value → Shared → Prop} {i : Nat} {xs : Nat → List V}
    (I : Inv X pins σ H s) (W : WalksT X.prog X.w X.A it fp wr n Pt St Mid) (hw : ∀ b ∈ wr, FpOk X pins H b) (hi : i < n) (st : St i s.heap) (hrel : ∀ vals, Pt i vals → Vals (xs i) vals.toList) (hz : (xs i).length ≤ sizeLine)
    {R : V → Hp → Heap → Prop} (hR : ∀ T h', s.heap.objs.size ≤ T → H T = none → St (i + 1) h' → (∀ b ∈ wr, upd H T (.tup (xs i)) b = none) → R (.ref T) (upd H T (.tup (xs i))) h') :
    wpAny (model X.prog X.w) X.A (pyNext (.ref it)) (fun r s1 => ∃ u, r = some u ∧
      wpAny (model X.prog X.w) X.A (letOwnedTupleGo (.Tuple elts kk tpos) (.ref it) u) (fun _ s2 => ∃ x H', Inv X pins σ H' s2 ∧ RelV x u ∧ R x H' s2.heap) E s1) E s := by
  refine W.item i s _ E hi st fun T vals h' tk hP hT hTup hMid hk => ?_
  refine ⟨_, rfl, W.go elts kk tpos i T _ _ _ hMid fun h'' hSt hk2 => ?_⟩
  have hTw : T ∉ wr := W.apart i T h' hMid
  have hTup2 : h''.IsTuple T vals := Heap.IsTuple.at hTup fun o e => hk2 T o hTw e
  have new : ObjOk X.prog X.w (upd H T (.tup (xs i))) h'' T (.tup (xs i)) := ⟨hz, vals.toList, hrel vals hP, by
    have e : vals.toList.toArray = vals := by simp
    rw [e]; exact hTup2⟩
  have hn : H T = none := I.hok.fresh hT
  have I1 : Inv X pins σ (upd H T (.tup (xs i))) { s with heap := h'', toks := tk } :=
    I.turnedNew (ch := wr) (fun b ob hb q => hk2 b ob hb (hk b ob hb q)) hw hT new
  refine ⟨.ref T, _, I1, rfl, hR T h'' hT hn hSt fun b hb => ?_⟩
  have : b ≠ T := fun e => hTw (e ▸ hb)
  rw [upd_ne this]
  exact (hw b hb).1
/-- enumerate: the turns -/
def JE (K : PySem.W.Frag) (sk : Sk) (vs : List V) : It :=
  ⟨fun i H => sk.at K H vs ∧ i < vs.length, fun i H v H' => ∃ T x, v = .ref T ∧ H T = none ∧ H' = upd H T (.tup [.int (i : Nat), x]) ∧ vs[i]? = some x, fun i H => sk.at K H vs ∧ vs.length ≤ i⟩
theorem turn_enumG {P : Program} {w : World} {K : PySem.W.Frag} {elts : List Expr} {kk : Nat} {tpos : Pos} (sk : Sk) (vs : List V) (e it : Addr) (hne : e ≠ it) :
    Turn P w K (.Tuple elts kk tpos) (JE K sk vs) [e, it] e (fun i h => i ≤ vs.length ∧ (∃ old, IsEnum h e it ((i : Nat) : Int) old) ∧ sk.iter it i h) where
  mem := by simp
  obj := fun i h st b hb => by
    obtain ⟨_, ⟨old, he⟩, hi⟩ := st
    have e' : b = e ∨ b = it := by simpa using hb
    rcases e' with z | z
    · rw [z]; exact ⟨_, he, fun v q => nomatch q⟩
    · rw [z]; exact sk_obj hi
  keep := fun i h h' st k => let ⟨l, ⟨old, he⟩, hi⟩ := st; ⟨l, ⟨old, k e (by simp) _ he⟩, sk_it (K := K) hi fun o q => k it (by simp) o q⟩
  item := by
    intro X hP hw hK hc i pins s σ H E I hf st hg
    subst hP hw hK
    obtain ⟨_, he, hit⟩ := st
    obtain ⟨hs, hlt⟩ := hg
    obtain ⟨Pv, St, D⟩ := sk_draws I hc hs hit (hf it (by simp))
    have hef : e ∉ it :: sk.ads := by
      intro z
      rcases List.mem_cons.mp z with z | z
      · exact hne z
      · exact ads_ne I (hf e (by simp)) hs z
    have W := WalksT.enumerateD D.D e hne hef D.mem
    refine walk_item (xs := fun i => [.int (i : Nat), vs.getD i .non]) (R := fun x H' h' => (JE X.K sk vs).yld i H x H' ∧ (i + 1 ≤ vs.length ∧ (∃ old, IsEnum h' e it ((i + 1 : Nat) : Int) old) ∧ sk.iter it (i + 1) h') ∧ ∀ b ∈ [e, it], H' b = none)
      I W hf hlt ⟨he, D.st⟩ (fun vals hv => ?_) (by show 2 ≤ sizeLine; rw [sizeLine_eq]; decide) fun T h' hTs hn hSt hbw => ⟨⟨T, vs[i], rfl, hn, ?_, List.getElem?_eq_getElem hlt⟩, ⟨by omega, hSt.1, D.back _ _ hSt.2⟩, hbw⟩
    · obtain ⟨t, x, hx, rfl⟩ := hv
      obtain ⟨y, hy, ry⟩ := D.rel i x hx
      have : vs.getD i .non = y := by rw [List.getD_eq_getElem?_getD, hy]; rfl
      rw [this]
      exact .cons ⟨t, rfl⟩ (.cons ry .nil)
    · have : vs.getD i .non = vs[i] := by rw [List.getD_eq_getElem?_getD, List.getElem?_eq_getElem hlt]; rfl
      rw [this]
  done := by
    intro X hP hw hK hc i pins s σ H E I hf st hg
    subst hP hw hK
    obtain ⟨hle, he, hit⟩ := st
    obtain ⟨hs, hge⟩ := hg
    have ei : i = vs.length := by omega
    subst ei
    obtain ⟨Pv, St, D⟩ := sk_draws I hc hs hit (hf it (by simp))
    have hef : e ∉ it :: sk.ads := by
      intro z
      rcases List.mem_cons.mp z with z | z
      · exact hne z
      · exact ads_ne I (hf e (by simp)) hs z
    have W := WalksT.enumerateD D.D e hne hef D.mem
    refine W.done s _ E ⟨he, D.st⟩ fun h' tk hk => ⟨rfl, ?_⟩
    exact I.turnedL hk hf
  self := fun A i s Q E st hQ => by
    obtain ⟨_, ⟨old, he⟩, _⟩ := st
    exact wpAny_pyIter_enum he hQ
/-- zip: the turns -/
def JZ (K : PySem.W.Frag) (sk sk2 : Sk) (vs ws : List V) : It :=
  ⟨fun i H => sk.at K H vs ∧ sk2.at K H ws ∧ i < vs.length ∧ i < ws.length, fun i H v H' => ∃ T x y, v = .ref T ∧ H T = none ∧ H' = upd H T (.tup [x, y]) ∧ vs[i]? = some x ∧ ws[i]? = some y, fun i H => sk.at K H vs ∧ sk2.at K H ws ∧ (vs.length ≤ i ∨ ws.length ≤ i)⟩
theorem zip_sep (I : Inv X pins σ H s) {sk sk2 : Sk} {vs ws : List V} {z TI TO i1 i2 : Addr} (h1 : sk.at X.K H vs) (h2 : sk2.at X.K H ws) (hf : ∀ b ∈ [z, TI, TO, i1, i2], FpOk X pins H b) (nd : [z, TI, TO, i1, i2].Nodup) :
    ZipSep2 z TI TO i1 i2 (i1 :: sk.ads) (i2 :: sk2.ads) := by
  simp only [List.nodup_cons, List.mem_cons, List.not_mem_nil, or_false, not_or, not_false_eq_true, List.nodup_nil, and_true] at nd
  obtain ⟨⟨a1, a2, a3, a4⟩, ⟨b1, b2, b3⟩, ⟨c1, c2⟩, d1⟩ := nd
  have f : ∀ b, b ∈ [z, TI, TO, i1, i2] → b ∉ sk.ads ∧ b ∉ sk2.ads := fun b hb => ⟨ads_ne I (hf b hb) h1, ads_ne I (hf b hb) h2⟩
  refine ⟨Ne.symm a1, Ne.symm a2, b1, b2, List.mem_cons_self, ?_, ?_, b3, List.mem_cons_self, ?_, ?_, ?_, ?_⟩
  · exact fun q => (List.mem_cons.mp q).elim a3 (f z (by simp)).1
  · exact fun q => (List.mem_cons.mp q).elim c1 (f TO (by simp)).1
  · exact fun q => (List.mem_cons.mp q).elim a4 (f z (by simp)).2
  · exact fun q => (List.mem_cons.mp q).elim c2 (f TO (by simp)).2
  · exact fun q => (List.mem_cons.mp q).elim d1 (f i1 (by simp)).2
  · exact fun q => (List.mem_cons.mp q).elim (Ne.symm d1) (f i2 (by simp)).1
theorem turn_zipG {P : Program} {w : World} {K : PySem.W.Frag} {elts : List Expr} {kk : Nat} {tpos : Pos} (sk sk2 : Sk) (vs ws : List V) (z TI TO i1 i2 : Addr) (nd : [z, TI, TO, i1, i2].Nodup) :
    Turn P w K (.Tuple elts kk tpos) (JZ K sk sk2 vs ws) [z, TI, TO, i1, i2] z (fun i h => i ≤ vs.length ∧ i ≤ ws.length ∧ IsZip h z TI TO .none ∧ IsTupOf2 h TI (.ref i1) (.ref i2) ∧ (∃ x y, IsTupOf2 h TO x y) ∧ sk.iter i1 i h ∧ sk2.iter i2 i h) where
  mem := by simp
  obj := fun i h st b hb => by
    obtain ⟨_, _, hz, hTI, ⟨x, y, hTO⟩, s1, s2⟩ := st
    have e' : b = z ∨ b = TI ∨ b = TO ∨ b = i1 ∨ b = i2 := by simpa using hb
    rcases e' with e | e | e | e | e
    · rw [e]; exact ⟨_, hz, fun v q => nomatch q⟩
    · rw [e]; exact ⟨_, hTI, fun v q => nomatch q⟩
    · rw [e]; exact ⟨_, hTO, fun v q => nomatch q⟩
    · rw [e]; exact sk_obj s1
    · rw [e]; exact sk_obj s2
  keep := fun i h h' st k => let ⟨l1, l2, hz, hTI, ⟨x, y, hTO⟩, s1, s2⟩ := st
    ⟨l1, l2, k z (by simp) _ hz, k TI (by simp) _ hTI, ⟨x, y, k TO (by simp) _ hTO⟩, sk_it (K := K) s1 fun o q => k i1 (by simp) o q, sk_it (K := K) s2 fun o q => k i2 (by simp) o q⟩
  item := by
    intro X hP hw hK hc i pins s σ H E I hf st hg
    subst hP hw hK
    obtain ⟨_, _, hz, hTI, hTO, s1, s2⟩ := st
    obtain ⟨h1, h2, l1, l2⟩ := hg
    obtain ⟨Pv, St, D⟩ := sk_draws I hc h1 s1 (hf i1 (by simp))
    obtain ⟨Pv2, St2, D2⟩ := sk_draws I hc h2 s2 (hf i2 (by simp))
    have W := WalksT.zipD2 (zip_sep I h1 h2 hf nd) D.D D2.D
    refine walk_item (xs := fun i => [vs.getD i .non, ws.getD i .non]) (R := fun x H' h' => (JZ X.K sk sk2 vs ws).yld i H x H' ∧ (i + 1 ≤ vs.length ∧ i + 1 ≤ ws.length ∧ IsZip h' z TI TO .none ∧ IsTupOf2 h' TI (.ref i1) (.ref i2) ∧ (∃ x y, IsTupOf2 h' TO x y) ∧ sk.iter i1 (i + 1) h' ∧ sk2.iter i2 (i + 1) h') ∧ ∀ b ∈ [z, TI, TO, i1, i2], H' b = none)
      I W (fun b hb => hf b ?_) (by omega) ⟨hz, hTI, hTO, D.st, D2.st⟩ (fun vals hv => ?_) (by show 2 ≤ sizeLine; rw [sizeLine_eq]; decide) fun T h' hTs hn hSt hbw => ⟨⟨T, vs[i], ws[i], rfl, hn, ?_, List.getElem?_eq_getElem l1, List.getElem?_eq_getElem l2⟩, ⟨by omega, by omega, hSt.1, hSt.2.1, hSt.2.2.1, D.back _ _ hSt.2.2.2.1, D2.back _ _ hSt.2.2.2.2⟩, fun b hb => ?_⟩
    · have e' : b = z ∨ b = TO ∨ b = i1 ∨ b = i2 := by simpa using hb
      rcases e' with e | e | e | e <;> simp [e]
    · obtain ⟨x, y, hx, hy, rfl⟩ := hv
      obtain ⟨x', hx', rx⟩ := D.rel i x hx
      obtain ⟨y', hy', ry⟩ := D2.rel i y hy
      have e1 : vs.getD i .non = x' := by rw [List.getD_eq_getElem?_getD, hx']; rfl
      have e2 : ws.getD i .non = y' := by rw [List.getD_eq_getElem?_getD, hy']; rfl
      rw [e1, e2]
      exact .cons rx (.cons ry .nil)
    · have e1 : vs.getD i .non = vs[i] := by rw [List.getD_eq_getElem?_getD, List.getElem?_eq_getElem l1]; rfl
      have e2 : ws.getD i .non = ws[i] := by rw [List.getD_eq_getElem?_getD, List.getElem?_eq_getElem l2]; rfl
      rw [e1, e2]
    · by_cases eb : b = TI
      · have lt : TI < s.heap.objs.size := Heap.lt_size hTI
        rw [upd_ne (by rw [eb]; exact Nat.ne_of_lt (Nat.lt_of_lt_of_le lt hTs))]; exact (hf b hb).1
      · have e' : b = z ∨ b = TI ∨ b = TO ∨ b = i1 ∨ b = i2 := by simpa using hb
        exact hbw b (by
          rcases e' with e | e | e | e | e
          · simp [e]
          · exact absurd e eb
          · simp [e]
          · simp [e]
          · simp [e])
  done := by
    intro X hP hw hK hc i pins s σ H E I hf st hg
    subst hP hw hK
    obtain ⟨q1, q2, hz, hTI, hTO, s1, s2⟩ := st
    obtain ⟨h1, h2, l⟩ := hg
    have ei : i = min vs.length ws.length := by omega
    obtain ⟨Pv, St, D⟩ := sk_draws I hc h1 s1 (hf i1 (by simp))
    obtain ⟨Pv2, St2, D2⟩ := sk_draws I hc h2 s2 (hf i2 (by simp))
    have W := WalksT.zipD2 (zip_sep I h1 h2 hf nd) D.D D2.D
    refine W.done s _ E (ei ▸ ⟨hz, hTI, hTO, D.st, D2.st⟩) fun h' tk hk => ⟨rfl, ?_⟩
    refine I.turnedL hk fun b hb => hf b ?_
    have e' : b = z ∨ b = TO ∨ b = i1 ∨ b = i2 := by simpa using hb
    rcases e' with e | e | e | e <;> simp [e]
  self := fun A i s Q E st hQ => by
    obtain ⟨_, _, hz, _⟩ := st
    exact wpAny_pyIter_zip hz hQ
end
/-! ### the mirror's walks -/
structure ItOk (K : PySem.W.Frag) (mg : Str → Option Value) (g0 : G) (xs : List T) (J : It) : Prop where
  go : ∀ i g, Sub g0 g → Rel K mg g → i < xs.length → J.go i g.H
  yld : ∀ i g x H', Sub g0 g → Rel K mg g → i < xs.length → J.yld i g.H x H' → ∃ g', g'.H = H' ∧ g'.h = g.h ∧ Ext g g' ∧ Rel K mg g' ∧ ∃ t, xs[i]? = some t ∧ Rep K mg g' t x
  stop : ∀ i g, Sub g0 g → Rel K mg g → xs.length ≤ i → J.stop i g.H
abbrev MI := SM → MH → RL
def wpI (K : PySem.W.Frag) (mg : Str → Option Value) (W : WX) (g : G) (σ : L2.St) (Rr : It → Hp → Prop) : RL → Prop
  | .ok xs h' => ∀ g' J, g'.h = h' → Ext g g' → Rel K mg g' → ItOk K mg g' xs J → Rr J g'.H
  | .ex x h' => ∀ g' cls d, g'.h = h' → Ext g g' → Rel K mg g' → RepX K mg g' x cls d → W cls d σ g'.H
  | .stuck => False
def tMI (K : PySem.W.Frag) (mg : Str → Option Value) (W : WX) (m : MI) : TI := fun σ H Rr => ∃ g s, g.H = H ∧ Rel K mg g ∧ RepS K mg g s σ ∧ wpI K mg W g σ Rr (m s g.h)
abbrev SI (X : Cx) (W : WX) (tg iter : Expr) (m : MI) : Prop := PI X tg iter (tMI X.K X.mg W m)
theorem weakI {X : Cx} {tg e : Expr} {t t' : TI} (h : PI X tg e t) (k : ∀ σ H Q, t' σ H Q → t σ H Q) : PI X tg e t' := ⟨fun pins s σ H Q I q => h.run pins s σ H Q I (k σ H Q q)⟩
def chrT (x : Str) : List T := x.cps.toList.map fun c => T.str ⟨#[c]⟩
theorem rep_chr {K : PySem.W.Frag} {mg : Str → Option Value} {g : G} (x : Str) : RepL K mg g (chrT x) (sgn x) := by
  have : ∀ l : List Nat, RepL K mg g (l.map fun c => T.str ⟨#[c]⟩) (l.map fun c => V.str ⟨#[c]⟩) := by
    intro l
    induction l with
    | nil => exact RepL.nil
    | cons c l ih => exact RepL.cons rStr ih
  exact this _
/-- the items of a source that stands (no changeable list) -/
def srcOf (t : T) : Option (List T) := match t with
  | .tup xs => some xs
  | .lst xs => some xs
  | .frl xs => some xs
  | .str x => some (chrT x)
  | _ => none
theorem sk_sub {K : PySem.W.Frag} {mg : Str → Option Value} {g : G} {t : T} {v : V} {xs : List T} (r : Rep K mg g t v) (h : srcOf t = some xs) :
    ∃ (sk : Sk) (vs : List V), v = sk.v ∧ RepL K mg g xs vs ∧ ∀ g' : G, Sub g g' → sk.at K g'.H vs := by
  unfold srcOf at h
  cases t with
  | tup ys =>
    cases h
    simp only [Rep] at r
    obtain ⟨p, vs, e, h1, l1⟩ := r
    refine ⟨.Tp p, vs, e, l1, fun g' s => ?_⟩
    rcases h1 with ⟨h1 | ⟨o, h1⟩, n⟩ | h1
    · exact .inl (.inl (s.keep _ _ h1 n).1)
    · exact .inl (.inr ⟨o, (s.keep _ _ h1 n).1⟩)
    · exact .inr h1
  | lst ys =>
    cases h
    simp only [Rep] at r
    obtain ⟨p, vs, e, ⟨h1, n⟩, l1⟩ := r
    exact ⟨.L p, vs, e, l1, fun g' s => .inl (.inl (s.keep _ _ h1 n).1)⟩
  | frl ys =>
    cases h
    simp only [Rep] at r
    obtain ⟨p, vs, e, h1, l1⟩ := r
    refine ⟨.L p, vs, e, l1, fun g' s => ?_⟩
    rcases h1 with ⟨⟨o, h1⟩, n⟩ | h1
    · exact .inl (.inr ⟨o, (s.keep _ _ h1 n).1⟩)
    · exact .inr h1
  | str x =>
    cases h
    exact ⟨.S x, sgn x, rep_str r, rep_chr x, fun g' s => rfl⟩
  | _ => cases h
section
variable {X : Cx} {W : WX} {a b : Expr} {ma mb : ME} {mr : MA} {p pos tpos : Pos} {K : PySem.W.Frag} {mg : Str → Option Value} {g : G} {σ : L2.St}
/-- the turns of a source -/
def Jsk (K : PySem.W.Frag) : Sk → It
  | .L a => Itl K a
  | .Tp a => Itt K a
  | .S x => Its x
def iSrc (K : PySem.W.Frag) (tl : TE) : TI := fun σ H R => tl σ H fun x H1 => ∃ (sk : Sk) (vs : List V), x = sk.v ∧ sk.at K H1 vs ∧ R (Jsk K sk) H1
theorem pi_src {tg l : Expr} {tl : TE} (hl : PE X l tl) : PI X tg l (iSrc X.K tl) := by
  refine ⟨fun pins s σ H R I h => ?_⟩
  refine thn (hl.run pins s σ H _ I h) fun v s1 ⟨x, H1, I1, r1, q1⟩ => ?_
  obtain ⟨sk, vs, e, hq, q⟩ := q1
  subst e
  cases sk with
  | L a =>
    cases r1
    obtain ⟨its, rv, p, hz⟩ := I1.list hq
    refine wpAny_pyIter_list p.isList ?_
    exact pi_one (tk := s1.toks) I1 _ (turn_list a _) ⟨_, Heap.get?_push_size _ rfl, rfl, rfl⟩ q
  | Tp a =>
    cases r1
    obtain ⟨its, rv, p, hz⟩ := I1.tuple hq
    refine wpAny_pyIter_tuple (show s1.heap.IsTuple a its.toArray from p) ?_
    exact pi_one (tk := s1.toks) I1 _ (turn_tuple a _) ⟨_, Heap.get?_push_size _ rfl, rfl, rfl⟩ q
  | S x =>
    obtain ⟨t, rfl⟩ := r1
    cases ha : x.cps.all (· < 128)
    · exact wpAny_pyIter_wide ha (pi_one (tk := s1.toks) I1 _ (turn_str _ x t "str_iterator" (.inr rfl)) ⟨_, Heap.get?_push_size _ rfl, rfl, rfl⟩ q)
    · exact wpAny_pyIter_ascii ha (pi_one (tk := s1.toks) I1 _ (turn_str _ x t "str_ascii_iterator" (.inl rfl)) ⟨_, Heap.get?_push_size _ rfl, rfl, rfl⟩ q)
theorem jsk_ok {sk : Sk} {vs : List V} {xs : List T} (r : RepL K mg g xs vs) (hs : ∀ g' : G, Sub g g' → sk.at K g'.H vs) : ItOk K mg g xs (Jsk K sk) := by
  have key : ∀ (i : Nat) (g1 : G) (x : V), Sub g g1 → Rel K mg g1 → vs[i]? = some x → ∃ g', g'.H = g1.H ∧ g'.h = g1.h ∧ Ext g1 g' ∧ Rel K mg g' ∧ ∃ t, xs[i]? = some t ∧ Rep K mg g' t x := fun i g1 x s R e => by
    obtain ⟨t, e1, r1⟩ := (r.sub s).get' e
    exact ⟨g1, rfl, rfl, Ext.refl _, R, t, e1, r1⟩
  cases sk with
  | L a =>
    refine ⟨fun i g1 s R l => ?_, fun i g1 x H' s R il y => ?_, fun i g1 s R l => ⟨vs, hs g1 s, by rw [← r.length]; exact l⟩⟩
    · rw [r.length] at l; exact ⟨vs, _, hs g1 s, List.getElem?_eq_getElem l⟩
    · obtain ⟨rfl, y⟩ := y; exact key i g1 x s R (y vs (hs g1 s))
  | Tp a =>
    refine ⟨fun i g1 s R l => ?_, fun i g1 x H' s R il y => ?_, fun i g1 s R l => ⟨vs, hs g1 s, by rw [← r.length]; exact l⟩⟩
    · rw [r.length] at l; exact ⟨vs, _, hs g1 s, List.getElem?_eq_getElem l⟩
    · obtain ⟨rfl, y⟩ := y; exact key i g1 x s R (y vs (hs g1 s))
  | S x =>
    have e : vs = sgn x := hs g ⟨fun _ _ h => h, fun _ _ h n => ⟨h, n⟩⟩
    have l0 : xs.length = x.cps.size := by rw [r.length, e]; unfold sgn; rw [List.length_map, Array.length_toList]
    refine ⟨fun i g1 s R l => by rw [l0] at l; exact l, fun i g1 v H' s R il y => ?_, fun i g1 s R l => by rw [l0] at l; exact l⟩
    obtain ⟨rfl, c, hc, rfl⟩ := y
    refine key i g1 _ s R ?_
    rw [e]; unfold sgn
    rw [List.getElem?_map, Array.getElem?_toList, hc]; rfl
def iS : T → MH → RL := fun t h => match srcOf t with
  | some xs => .ok xs h
  | none => .stuck
def R.bindL (r : R) (f : T → MH → RL) : RL := match r with
  | .ok t h => f t h
  | .ex x h => .ex x h
  | .stuck => .stuck
theorem wpI.ext {Rr : It → Hp → Prop} {g g' : G} {r : RL} (h : wpI K mg W g σ Rr r) (e : Ext g g') : wpI K mg W g' σ Rr r := by
  cases r with
  | ok t h' => exact fun g2 v q e2 => h g2 v q (e.trans e2)
  | ex x h' => exact fun g2 c d q e2 => h g2 c d q (e.trans e2)
  | stuck => exact h
theorem wpI_bind {Rr : It → Hp → Prop} {Q' : VK} {r : R} {f : T → MH → RL} (h : wpI K mg W g σ Rr (r.bindL f)) (k : ∀ g' t v, Ext g g' → Rel K mg g' → Rep K mg g' t v → wpI K mg W g' σ Rr (f t g'.h) → Q' v g'.H) : wpR K mg W g σ Q' r := by
  cases r with
  | ok t h' => exact fun g' v q e R r => k g' t v e R r (by subst q; exact wpI.ext h e)
  | ex x h' => exact h
  | stuck => exact h
def mSrc (ma : ME) : MI := fun s h => (ma s h).bindL iS
theorem si_src {tg : Expr} (ha : SE X W a ma) : SI X W tg a (mSrc ma) := by
  refine weakI (pi_src ha) ?_
  rintro σ H Rr ⟨g, s, rfl, R, S, h⟩
  refine ⟨g, s, rfl, R, S, wpI_bind h fun g1 t v e1 R1 r1 h1 => ?_⟩
  unfold iS at h1
  split at h1
  · rename_i xs q
    obtain ⟨sk, vs, e, l, hs⟩ := sk_sub r1 q
    refine ⟨sk, vs, e, hs g1 ⟨fun _ _ h => h, fun _ _ h n => ⟨h, n⟩⟩, h1 g1 _ rfl (Ext.refl _) R1 (jsk_ok l hs)⟩
  · exact h1.elim
end
end Mi
namespace PySem
open Sem (wp)
theorem meets_enumerate_newB1 {v : Value} {o : Obj} {H : Heap → Prop} (B : Begins v o H) :
    Meets (Builtin.«enumerate.__new__» ⟨[.type "enumerate", v], []⟩) (fun _ R s => H s.heap ∧
      R (.ok (.ret (.ref (s.heap.push o).objs.size))) { s with heap := (s.heap.push o).push { cls := .type "enumerate", data := .fields #[.none, .bool false, .ref s.heap.objs.size, rawInt 0, .none, .none] } }) :=
  .of_wp fun prog w A R s h => by
    obtain ⟨hp, g, d, tk, os⟩ := s; obtain ⟨h1, h⟩ := h
    have hsub := sub_enumerate
    have q1 : ∀ {A' : Around} {E : Value → Shared → Prop} {Q : Value → Shared → Prop}, Q (.ref hp.objs.size) ⟨hp.push o, g, d, tk, os⟩ → wpAny (model prog w) A' (pyIter v) Q E ⟨hp, g, d, tk, os⟩ :=
      fun q => B.iter prog w _ _ ⟨hp, g, d, tk, os⟩ _ h1 q
    wp_walk using q1
    refine wpAny_stack_any fun st => wpAny_pure ?_
    split
    · rename_i c _ _ _ _ _
      cases (c == Value.type "enumerate")
      · wp_walk using q1
        exact ⟨_, rfl, h⟩
      · wp_walk using q1
        exact ⟨_, rfl, h⟩
    · wp_walk using q1
      exact ⟨_, rfl, h⟩
section
variable {prog : Program} {w : World} {A : Around} {E : Value → Shared → Prop} {s : Shared}
theorem enum_begins1 {v : Value} {o : Obj} {H : Heap → Prop} {Q : Value → Shared → Prop} (B : Begins v o H) (h1 : H s.heap)
    (h : ∀ h', IsEnum h' (s.heap.objs.size + 1) s.heap.objs.size 0 .none → h'.get? s.heap.objs.size = some o → h'.objs.size = s.heap.objs.size + 2 →
      (∀ b o, s.heap.get? b = some o → h'.get? b = some o) → Q (.ref (s.heap.objs.size + 1)) { s with heap := h' }) :
    wpAny (model prog w) A (call (.type "enumerate") [v]) Q E s := by
  refine callType_new F.called_enumerate (by decide) (F.typeCall_enumerate_1 _) (F.newCall_enumerate_1 _) (fun obj => F.args_object_init_2 obj _) F.entry_enumerate_new
    (meets_enumerate_newB1 B) ⟨h1, ?_⟩
  have hz : (s.heap.push o).objs.size = s.heap.objs.size + 1 := Heap.size_push ..
  show _ ∧ _
  rw [hz]
  have he : IsEnum ((s.heap.push o).push { cls := .type "enumerate", data := .fields #[.none, .bool false, .ref s.heap.objs.size, rawInt 0, .none, .none] }) (s.heap.objs.size + 1) s.heap.objs.size 0 .none := by
    have := Heap.get?_push_size (s.heap.push o) (o := { cls := .type "enumerate", data := .fields #[.none, .bool false, .ref s.heap.objs.size, rawInt 0, .none, .none] }) rfl
    rw [hz] at this; exact this
  refine ⟨⟨_, he, rfl⟩, h _ he (Heap.get?_push_of_some _ (Heap.get?_push_size _ B.free)) (by rw [Heap.size_push, hz]) fun b o x => Heap.get?_push_of_some _ (Heap.get?_push_of_some _ x)⟩
end
end PySem
namespace Mi
open PySem PySem.Spec PyProof.Rows L2
section
variable {X : Cx} {W : WX} {a b : Expr} {ma mb : ME} {mr : MA} {p pos tpos : Pos} {K : PySem.W.Frag} {mg : Str → Option Value} {g : G} {σ : L2.St} {elts : List Expr} {kk : Nat}
def iEnumG (K : PySem.W.Frag) (ta : TA) : TI := fun σ H R => ta σ H fun us H1 => ∃ (sk : Sk) (vs : List V), us = [sk.v] ∧ sk.at K H1 vs ∧ R (JE K sk vs) H1
theorem pi_enumG {ta : TA} (hm : X.mg "enumerate" = none) (ha : PA X [a] ta) (hg : Gl X "enumerate" := by rfl) (hs : starEach [a] X.env = [(false, eval a X.env)] := by rfl) :
    PI X (.Tuple elts kk tpos) (.Call (.Name "enumerate" p) [a] [] pos) (iEnumG X.K ta) := by
  refine ⟨fun pins s σ H R I h => ?_⟩
  refine Call_ (ld_blt I hg hm boot_enumerate (PyProof.Rows.callWith_type1 (thn (ha.run pos pins s σ H _ I h) fun us s1 ⟨vs, H1, I1, r1, q1⟩ => ?_) hs rfl))
  obtain ⟨sk, ws, ex, hq, q⟩ := q1
  subst ex
  cases r1 with
  | cons r rr =>
    cases rr
    obtain ⟨o, Hb, B, hB, hit⟩ := sk_begins I1 hq r
    refine PySem.enum_begins1 B hB fun h' he hi hsz hk => wpAny_pyIter_enum he ?_
    have I2 : Inv X pins σ H1 { s1 with heap := h' } := I1.kept (t' := s1.toks) hk
    refine ⟨s1.heap.objs.size + 1, [s1.heap.objs.size + 1, s1.heap.objs.size], _, _, H1, rfl, I2, turn_enumG sk ws (s1.heap.objs.size + 1) s1.heap.objs.size (Nat.succ_ne_self _), ⟨Nat.zero_le _, ⟨.none, he⟩, hit h' _ hi⟩, fun b hb => ?_, q⟩
    have e' : b = s1.heap.objs.size + 1 ∨ b = s1.heap.objs.size := by simpa using hb
    have hle : s1.heap.objs.size ≤ b := by
      rcases e' with z | z
      · rw [z]; exact Nat.le_add_right _ _
      · rw [z]; exact Nat.le_refl _
    exact I1.fpOk hle (I1.hok.fresh hle)
def iZipG (K : PySem.W.Frag) (ta : TA) : TI := fun σ H R => ta σ H fun us H1 => ∃ (sk sk2 : Sk) (vs ws : List V), us = [sk.v, sk2.v] ∧ sk.at K H1 vs ∧ sk2.at K H1 ws ∧ R (JZ K sk sk2 vs ws) H1
theorem pi_zipG {ta : TA} (hm : X.mg "zip" = none) (ha : PA X [a, b] ta) (hg : Gl X "zip" := by rfl)
    (hs : starEach [a, b] X.env = (false, eval a X.env) :: starEach [b] X.env := by rfl) (hpl : (backTo pos (starEach [b] X.env)).any (·.1) = false := by rfl) :
    PI X (.Tuple elts kk tpos) (.Call (.Name "zip" p) [a, b] [] pos) (iZipG X.K ta) := by
  refine ⟨fun pins s σ H R I h => ?_⟩
  refine Call_ (ld_blt I hg hm PyProof.Rows.boot_zip (PyProof.Rows.callWith_type1 (thn (ha.run pos pins s σ H _ I h) fun us s1 ⟨vs, H1, I1, r1, q1⟩ => ?_) hs hpl))
  obtain ⟨sk, sk2, xs, ys, ex, hqx, hqy, q⟩ := q1
  subst ex
  cases r1 with
  | cons r rr =>
    cases rr with
    | cons r' rr =>
      cases rr
      obtain ⟨o, Hb, B, hB, hit⟩ := sk_begins I1 hqx r
      obtain ⟨o2, Hb2, B2, hB2, hit2⟩ := sk_begins I1 hqy r'
      refine PySem.zip_begins2 B B2 hB hB2 fun h' hz hTI hTO h1 h2 hsz hk => wpAny_pyIter_zip hz ?_
      have I2 : Inv X pins σ H1 { s1 with heap := h' } := I1.kept (t' := s1.toks) hk
      refine ⟨s1.heap.objs.size + 4, [s1.heap.objs.size + 4, s1.heap.objs.size + 2, s1.heap.objs.size + 3, s1.heap.objs.size, s1.heap.objs.size + 1], _, _, H1, rfl, I2, turn_zipG sk sk2 xs ys _ _ _ _ _ (by simp), ⟨Nat.zero_le _, Nat.zero_le _, hz, hTI, ⟨_, _, hTO⟩, hit h' _ h1, hit2 h' _ h2⟩, fun c hcm => ?_, q⟩
      have e' : c = s1.heap.objs.size + 4 ∨ c = s1.heap.objs.size + 2 ∨ c = s1.heap.objs.size + 3 ∨ c = s1.heap.objs.size ∨ c = s1.heap.objs.size + 1 := by simpa using hcm
      have hle : s1.heap.objs.size ≤ c := by
        rcases e' with z | z | z | z | z
        · rw [z]; exact Nat.le_add_right _ _
        · rw [z]; exact Nat.le_add_right _ _
        · rw [z]; exact Nat.le_add_right _ _
        · rw [z]; exact Nat.le_refl _
        · rw [z]; exact Nat.le_add_right _ _
      exact I1.fpOk hle (I1.hok.fresh hle)
def enumT : Nat → List T → List T
  | _, [] => []
  | n, x :: xs => .tup [.int (n : Int), x] :: enumT (n + 1) xs
theorem enumT_get : ∀ (xs : List T) (n i : Nat), (enumT n xs)[i]? = (xs[i]?).map fun x => T.tup [.int ((n + i : Nat) : Int), x]
  | [], _, _ => by simp [enumT]
  | x :: xs, n, 0 => by simp [enumT]
  | x :: xs, n, i + 1 => by
    simp only [enumT, List.getElem?_cons_succ]
    rw [enumT_get xs (n + 1) i]
    have : n + 1 + i = n + (i + 1) := by omega
    rw [this]
theorem enumT_len : ∀ (xs : List T) (n : Nat), (enumT n xs).length = xs.length
  | [], _ => rfl
  | x :: xs, n => by simp [enumT, enumT_len xs (n + 1)]
theorem yld_tup {R : Rel K mg g} {p : Addr} {xs : List T} {vs : List V} (hp : g.H p = none) (r : RepL K mg g xs vs) : ∃ g', g'.H = upd g.H p (.tup vs) ∧ g'.h = g.h ∧ Ext g g' ∧ Rel K mg g' ∧ Rep K mg g' (.tup xs) (.ref p) :=
  ⟨g.lay p (.tup vs), rfl, rfl, lay_ext R hp, R.lay hp, rep_tup R hp r⟩
theorem je_ok {sk : Sk} {vs : List V} {xs : List T} (r : RepL K mg g xs vs) (hs : ∀ g' : G, Sub g g' → sk.at K g'.H vs) : ItOk K mg g (enumT 0 xs) (JE K sk vs) := by
  refine ⟨fun i g1 s R l => ⟨hs g1 s, by rw [enumT_len, r.length] at l; exact l⟩, fun i g1 x H' s R il y => ?_, fun i g1 s R l => ⟨hs g1 s, by rw [enumT_len, r.length] at l; exact l⟩⟩
  obtain ⟨q, z, rfl, hq, rfl, hz⟩ := y
  obtain ⟨t, e1, r1⟩ := (r.sub s).get' hz
  obtain ⟨g', e2, e3, e4, R', r'⟩ := yld_tup (R := R) (xs := [.int (i : Int), t]) hq (RepL.cons rInt (RepL.cons r1 RepL.nil))
  refine ⟨g', e2, e3, e4, R', _, ?_, r'⟩
  rw [enumT_get, e1]
  simp
def zipT (xs ys : List T) : List T := (xs.zip ys).map fun q => .tup [q.1, q.2]
theorem jz_ok {sk sk2 : Sk} {vs ws : List V} {xs ys : List T} (r : RepL K mg g xs vs) (r2 : RepL K mg g ys ws) (hs : ∀ g' : G, Sub g g' → sk.at K g'.H vs) (hs2 : ∀ g' : G, Sub g g' → sk2.at K g'.H ws) : ItOk K mg g (zipT xs ys) (JZ K sk sk2 vs ws) := by
  have ln : (zipT xs ys).length = min vs.length ws.length := by unfold zipT; rw [List.length_map, List.length_zip, r.length, r2.length]
  refine ⟨fun i g1 s R l => ⟨hs g1 s, hs2 g1 s, by omega, by omega⟩, fun i g1 x H' s R il y => ?_, fun i g1 s R l => ⟨hs g1 s, hs2 g1 s, by omega⟩⟩
  obtain ⟨q, z, z2, rfl, hq, rfl, hz, hz2⟩ := y
  obtain ⟨t, e1, r1⟩ := (r.sub s).get' hz
  obtain ⟨t2, f1, rr1⟩ := (r2.sub s).get' hz2
  obtain ⟨g', e2, e3, e4, R', r'⟩ := yld_tup (R := R) (xs := [t, t2]) hq (RepL.cons r1 (RepL.cons rr1 RepL.nil))
  refine ⟨g', e2, e3, e4, R', _, ?_, r'⟩
  unfold zipT
  have z : (xs.zip ys)[i]? = some (t, t2) := List.getElem?_zip_eq_some.mpr ⟨e1, f1⟩
  rw [List.getElem?_map, z]
  rfl
def RL.bindL (r : RL) (f : List T → MH → RL) : RL := match r with
  | .ok t h => f t h
  | .ex x h => .ex x h
  | .stuck => .stuck
theorem wpI_bindL {Rr : It → Hp → Prop} {Q' : List V → Hp → Prop} {r : RL} {f : List T → MH → RL} (h : wpI K mg W g σ Rr (r.bindL f)) (k : ∀ g' ts vs, Ext g g' → Rel K mg g' → RepL K mg g' ts vs → wpI K mg W g' σ Rr (f ts g'.h) → Q' vs g'.H) : wpL K mg W g σ Q' r := by
  cases r with
  | ok t h' => exact fun g' v q e R r => k g' t v e R r (by subst q; exact wpI.ext h e)
  | ex x h' => exact h
  | stuck => exact h
def iEn : List T → MH → RL := fun ts h => match ts with
  | [t] => match srcOf t with
    | some xs => .ok (enumT 0 xs) h
    | none => .stuck
  | _ => .stuck
def iZp : List T → MH → RL := fun ts h => match ts with
  | [t, u] => match srcOf t, srcOf u with
    | some xs, some ys => .ok (zipT xs ys) h
    | _, _ => .stuck
  | _ => .stuck
def mIA (f : List T → MH → RL) (mr : MA) : MI := fun s h => (mr s h).bindL f
theorem sub_refl (g : G) : Sub g g := ⟨fun _ _ h => h, fun _ _ h n => ⟨h, n⟩⟩
theorem si_enum (hm : X.mg "enumerate" = none) (ha : SA X W [a] mr) (hg : Gl X "enumerate" := by rfl) (hs : starEach [a] X.env = [(false, eval a X.env)] := by rfl) :
    SI X W (.Tuple elts kk tpos) (.Call (.Name "enumerate" p) [a] [] pos) (mIA iEn mr) := by
  refine weakI (pi_enumG hm ha hg hs) ?_
  rintro σ H Rr ⟨g, s, rfl, R, S, h⟩
  refine ⟨g, s, rfl, R, S, wpI_bindL h fun g1 ts vs e1 R1 r1 h1 => ?_⟩
  unfold iEn at h1
  split at h1
  · obtain ⟨v, rfl, rv⟩ := r1.one
    split at h1
    · rename_i xs q
      obtain ⟨sk, ws, e, l, hs⟩ := sk_sub rv q
      exact ⟨sk, ws, by rw [e], hs g1 (sub_refl _), h1 g1 _ rfl (Ext.refl _) R1 (je_ok l hs)⟩
    · exact h1.elim
  · exact h1.elim
theorem si_zip (hm : X.mg "zip" = none) (ha : SA X W [a, b] mr) (hg : Gl X "zip" := by rfl)
    (hs : starEach [a, b] X.env = (false, eval a X.env) :: starEach [b] X.env := by rfl) (hpl : (backTo pos (starEach [b] X.env)).any (·.1) = false := by rfl) :
    SI X W (.Tuple elts kk tpos) (.Call (.Name "zip" p) [a, b] [] pos) (mIA iZp mr) := by
  refine weakI (pi_zipG hm ha hg hs hpl) ?_
  rintro σ H Rr ⟨g, s, rfl, R, S, h⟩
  refine ⟨g, s, rfl, R, S, wpI_bindL h fun g1 ts vs e1 R1 r1 h1 => ?_⟩
  unfold iZp at h1
  split at h1
  · simp only [RepL] at r1
    obtain ⟨v, w', rfl, rv, v2, w2, rfl, rv2, rfl⟩ := r1
    split at h1
    · rename_i xs ys q q2
      obtain ⟨sk, ws, e, l, hs⟩ := sk_sub rv q
      obtain ⟨sk2, ws2, e2, l2, hs2⟩ := sk_sub rv2 q2
      exact ⟨sk, sk2, ws, ws2, by rw [e, e2], hs g1 (sub_refl _), hs2 g1 (sub_refl _), h1 g1 _ rfl (Ext.refl _) R1 (jz_ok l l2 hs hs2)⟩
    · exact h1.elim
  · exact h1.elim
/-! ### range -/
def intsT (lo : Int) : Nat → List T
  | 0 => []
  | n + 1 => .int lo :: intsT (lo + 1) n
theorem intsT_len : ∀ (n : Nat) (lo : Int), (intsT lo n).length = n
  | 0, _ => rfl
  | n + 1, lo => by simp [intsT, intsT_len n (lo + 1)]
theorem intsT_get : ∀ (n : Nat) (lo : Int) (i : Nat), i < n → (intsT lo n)[i]? = some (.int (lo + i))
  | 0, _, _, h => absurd h (Nat.not_lt_zero _)
  | n + 1, lo, 0, h => by simp [intsT]
  | n + 1, lo, i + 1, h => by
    simp only [intsT, List.getElem?_cons_succ]
    rw [intsT_get n (lo + 1) i (by omega)]
    have : lo + 1 + (i : Int) = lo + ((i + 1 : Nat) : Int) := by omega
    rw [this]
theorem jr_ok {lo : Int} {n : Nat} : ItOk K mg g (intsT lo n) (Itr lo n) := by
  refine ⟨fun i g1 s R l => by rw [intsT_len] at l; exact l, fun i g1 x H' s R il y => ?_, fun i g1 s R l => by rw [intsT_len] at l; exact l⟩
  obtain ⟨rfl, rfl⟩ := y
  rw [intsT_len] at il
  exact ⟨g1, rfl, rfl, Ext.refl _, R, _, intsT_get n lo i il, rInt⟩
def rgOk (i : Int) : Bool := decide (-1000000 ≤ i) && decide (i ≤ 1000000)
def iRg1 : List T → MH → RL := fun ts h => match ts with
  | [.int n] => if rgOk n then .ok (intsT 0 n.toNat) h else .stuck
  | _ => .stuck
def iRg2 : List T → MH → RL := fun ts h => match ts with
  | [.int a, .int b] => if rgOk a && rgOk b then .ok (intsT a (b - a).toNat) h else .stuck
  | _ => .stuck
theorem rg_b {i : Int} (h : rgOk i = true) : -(2 ^ 62) ≤ i ∧ i < 2 ^ 62 := by
  unfold rgOk at h
  simp only [Bool.and_eq_true, decide_eq_true_eq] at h
  omega
theorem si_range1 {tg : Expr} (hm : X.mg "range" = none) (ha : SA X W [a] mr) (hg : Gl X "range" := by rfl) (hs : starEach [a] X.env = [(false, eval a X.env)] := by rfl) :
    SI X W tg (.Call (.Name "range" p) [a] [] pos) (mIA iRg1 mr) := by
  refine weakI (pi_range1 hg hm ha hs) ?_
  rintro σ H Rr ⟨g, s, rfl, R, S, h⟩
  refine ⟨g, s, rfl, R, S, wpI_bindL h fun g1 ts vs e1 R1 r1 h1 => ?_⟩
  unfold iRg1 at h1
  split at h1
  · rename_i n
    obtain ⟨v, rfl, rv⟩ := r1.one
    rw [rep_int rv]
    split at h1
    · rename_i q
      obtain ⟨b1, b2⟩ := rg_b q
      exact ⟨n, rfl, b1, b2, h1 g1 _ rfl (Ext.refl _) R1 jr_ok⟩
    · exact h1.elim
  · exact h1.elim
theorem si_range2 {tg : Expr} (hm : X.mg "range" = none) (ha : SA X W [a, b] mr) (hg : Gl X "range" := by rfl) (hs : starEach [a, b] X.env = [(false, eval a X.env), (false, eval b X.env)] := by rfl) (hs2 : starEach [b] X.env = [(false, eval b X.env)] := by rfl) :
    SI X W tg (.Call (.Name "range" p) [a, b] [] pos) (mIA iRg2 mr) := by
  refine weakI (pi_range2 hg hm ha hs hs2) ?_
  rintro σ H Rr ⟨g, s, rfl, R, S, h⟩
  refine ⟨g, s, rfl, R, S, wpI_bindL h fun g1 ts vs e1 R1 r1 h1 => ?_⟩
  unfold iRg2 at h1
  split at h1
  · rename_i i j
    rw [rep_int2 r1]
    split at h1
    · rename_i q
      obtain ⟨q1, q2⟩ := Bool.and_eq_true_iff.mp q
      exact ⟨i, j, rfl, ⟨(rg_b q1).1, (rg_b q1).2, (rg_b q2).1, (rg_b q2).2⟩, h1 g1 _ rfl (Ext.refl _) R1 jr_ok⟩
    · exact h1.elim
  · exact h1.elim
end
end Mi
end part_Mi4
section part_Mi5
set_option maxRecDepth 100000
set_option maxHeartbeats 2000000
/-! Mi, part 5: targets, comprehensions, statements. -/
namespace Mi
open PySem PySem.Spec PyProof.Rows L2
inductive GR where
  | ok (s : SM) (h : MH) | stuck
abbrev MG := T → SM → MH → GR
section
variable {X : Cx} {K : PySem.W.Frag} {mg : Str → Option Value} {W : WX} {g : G} {σ : L2.St} {Q : VK} {D : Ends}
variable {a b c e : Expr} {ma mb mc me mt : ME} {mr : MA} {pos p : Pos} {es : List Expr} {x : Str}
/-! ### targets -/
def wpG (K : PySem.W.Frag) (mg : Str → Option Value) (tl : List Nat) (g : G) (σ : L2.St) (Q : L2.St → Hp → Prop) : GR → Prop
  | .ok s' h' => ∀ g' σ', g'.h = h' → Ext g g' → Rel K mg g' → RepS K mg g' s' σ' → (∀ vs : List Nat, (∀ i ∈ tl, i ∈ vs) → wipe σ' vs = wipe σ vs) → Q σ' g'.H
  | .stuck => False
def tMG (K : PySem.W.Frag) (mg : Str → Option Value) (tl : List Nat) (m : MG) : TG := fun v σ H Q => ∃ g s t, g.H = H ∧ Rel K mg g ∧ RepS K mg g s σ ∧ Rep K mg g t v ∧ wpG K mg tl g σ Q (m t s g.h)
abbrev SG (X : Cx) (tg : Expr) (tl : List Nat) (m : MG) : Prop := PG X tg (tMG X.K X.mg tl m)
theorem weakG {X : Cx} {e : Expr} {t t' : TG} (h : PG X e t) (k : ∀ v σ H Q, t' v σ H Q → t v σ H Q) : PG X e t' := ⟨fun pins s σ H v u Q I r q => h.run pins s σ H v u Q I r (k v σ H Q q)⟩
theorem set_none_comm (σ : L2.St) (i j : Nat) (v : Option V) (h : i ≠ j) : (σ.set i v).set j none = (σ.set j none).set i v := by
  apply List.ext_getElem?
  intro k
  simp only [List.getElem?_set, List.length_set]
  by_cases h1 : j = k <;> by_cases h2 : i = k
  · exact absurd (h2.trans h1.symm) h
  · simp [h1, h2]
  · simp [h1, h2]
  · simp [h1, h2]
theorem wipe_set {σ : L2.St} {i : Nat} {v : Option V} : ∀ {vs : List Nat}, i ∈ vs → wipe (σ.set i v) vs = wipe σ vs
  | [], h => by cases h
  | j :: vs, h => by
    show (wipe (σ.set i v) vs).set j none = (wipe σ vs).set j none
    by_cases hi : i ∈ vs
    · rw [wipe_set hi]
    · have e : i = j := (List.mem_cons.mp h).resolve_right hi
      subst e
      have key : ∀ (ws : List Nat), i ∉ ws → wipe (σ.set i v) ws = (wipe σ ws).set i v := by
        intro ws
        induction ws with
        | nil => intro _; rfl
        | cons w ws ih =>
          intro hw
          show (wipe (σ.set i v) ws).set w none = ((wipe σ ws).set w none).set i v
          rw [ih (fun z => hw (List.mem_cons_of_mem _ z)), set_none_comm _ _ _ _ (fun z => hw (by rw [z]; exact List.mem_cons_self))]
      rw [key vs hi, List.set_set]
theorem wipe_wipe (σ : L2.St) : ∀ vs ws : List Nat, (∀ i ∈ ws, i ∈ vs) → wipe (wipe σ ws) vs = wipe σ vs
  | vs, [], _ => rfl
  | vs, w :: ws, h => by
    show wipe ((wipe σ ws).set w none) vs = wipe σ vs
    rw [wipe_set (h w List.mem_cons_self), wipe_wipe σ vs ws fun i hi => h i (List.mem_cons_of_mem _ hi)]
def gN (i : Nat) : MG := fun t s h => .ok (s.set i (some t)) h
theorem sg_name {i : Nat} (hN : X.N.Nodup) (hi : X.N[i]? = some x := by rfl) (hx : Loc X.env.scope x := by first | exact Or.inl rfl | exact Or.inr rfl) (hf : X.fn x = true ∨ X.env.scope.names.lookup x = some .local := by first | exact .inl rfl | exact .inr rfl) : SG X (.Name x pos) [i] (gN i) := by
  refine weakG (pg_name hN hi hx hf) ?_
  rintro v σ H Q ⟨g, s, t, rfl, R, S, r, h⟩
  exact h g (σ.set i (some v)) rfl (Ext.refl g) R (S.set r i) fun vs hv => wipe_set (hv i List.mem_cons_self)
abbrev MGs := List T → SM → MH → GR
def tMGs (K : PySem.W.Frag) (mg : Str → Option Value) (tl : List Nat) (m : MGs) : TGs := fun vs σ H Q => ∃ g s ts, g.H = H ∧ Rel K mg g ∧ RepS K mg g s σ ∧ RepL K mg g ts vs ∧ wpG K mg tl g σ Q (m ts s g.h)
abbrev SGs (X : Cx) (tg : List Expr) (tl : List Nat) (m : MGs) : Prop := PGs X tg (tMGs X.K X.mg tl m)
theorem weakGs {X : Cx} {e : List Expr} {t t' : TGs} (h : PGs X e t) (k : ∀ v σ H Q, t' v σ H Q → t v σ H Q) : PGs X e t' := ⟨fun pins s σ H v u Q I r q => h.run pins s σ H v u Q I r (k v σ H Q q)⟩
def gsNil : MGs := fun ts s h => match ts with
  | [] => .ok s h
  | _ => .stuck
def gsCons (m : MG) (ms : MGs) : MGs := fun ts s h => match ts with
  | t :: r => match m t s h with
    | .ok s1 h1 => ms r s1 h1
    | .stuck => .stuck
  | [] => .stuck
theorem sgs_nil : SGs X [] [] gsNil := by
  refine weakGs pgs_nil ?_
  rintro vs σ H Q ⟨g, s, ts, rfl, R, S, r, h⟩
  unfold gsNil at h
  split at h
  · simp only [RepL] at r
    exact ⟨r, h g σ rfl (Ext.refl g) R S fun vs _ => rfl⟩
  · exact h.elim
theorem sgs_cons {m : MG} {ms : MGs} {tl tl2 : List Nat} (h1 : SG X e tl m) (h2 : SGs X es tl2 ms) (hs : (assignEach (e :: es) X.env).map (·.2) = assign e X.env :: (assignEach es X.env).map (·.2) := by rfl) : SGs X (e :: es) (tl ++ tl2) (gsCons m ms) := by
  refine weakGs (pgs_cons h1 h2 hs) ?_
  rintro vs σ H Q ⟨g, s, ts, rfl, R, S, r, h⟩
  unfold gsCons at h
  split at h
  · rename_i t r'
    simp only [RepL] at r
    obtain ⟨v, w, rfl, r1, r2⟩ := r
    refine ⟨v, w, rfl, g, s, t, rfl, R, S, r1, ?_⟩
    cases q : m t s g.h with
    | ok s1 h1 =>
      rw [q] at h
      dsimp only at h
      intro g1 σ1 q1 e1 R1 S1 w1
      refine ⟨g1, s1, r', rfl, R1, S1, r2.mono e1, ?_⟩
      rw [q1]
      cases q2 : ms r' s1 h1 with
      | ok s2 h2 =>
        rw [q2] at h
        exact fun g2 σ2 q3 e2 R2 S2 w2 => h g2 σ2 q3 (e1.trans e2) R2 S2 fun vs hv => (w2 vs fun i hi => hv i (List.mem_append_right _ hi)).trans (w1 vs fun i hi => hv i (List.mem_append_left _ hi))
      | stuck => rw [q2] at h; exact h.elim
    | stuck => rw [q] at h; exact h.elim
  · exact h.elim
def gT (n : Nat) (ms : MGs) : MG := fun t s h => match t with
  | .tup xs => if xs.length = n then ms xs s h else .stuck
  | _ => .stuck
theorem sg_tup {ms : MGs} {tl : List Nat} {k n : Nat} (hc : X.calm = true) (h : SGs X es tl ms) (hn : (assignEach es X.env).length = n := by rfl) (hst : (assignEach es X.env).findIdx? (·.1) = none := by rfl) : SG X (.Tuple es k pos) tl (gT n ms) := by
  refine weakG (pg_tup hc h hn hst) ?_
  rintro v σ H Q ⟨g, s, t, rfl, R, S, r, h⟩
  unfold gT at h
  split at h
  · rename_i xs
    split at h
    · rename_i q
      obtain ⟨p, vs, rfl, h1, l1⟩ := r.sqT
      exact ⟨p, vs, rfl, h1, by rw [← l1.length]; exact q, g, s, xs, rfl, R, S, l1, h⟩
    · exact h.elim
  · exact h.elim
/-! ### comprehensions -/
def wipeM (s : SM) : List Nat → SM
  | [] => s
  | v :: vs => (wipeM s vs).set v none
theorem RepS.wipe {s : SM} (S : RepS K mg g s σ) : ∀ vs : List Nat, RepS K mg g (wipeM s vs) (L2.wipe σ vs)
  | [] => S
  | v :: vs => by
    have S1 := RepS.wipe S vs
    refine ⟨by show ((wipeM s vs).set v none).length = ((L2.wipe σ vs).set v none).length; rw [List.length_set, List.length_set, S1.1], fun i t h => ?_⟩
    have h' : ((wipeM s vs).set v none)[i]? = some (some t) := h
    by_cases e : v = i
    · subst e
      rw [List.getElem?_set] at h'
      split at h'
      · split at h' <;> cases h'
      · rename_i q; exact absurd rfl q
    · rw [List.getElem?_set_ne e] at h'
      obtain ⟨w, h1, h2⟩ := S1.2 i t h'
      refine ⟨w, ?_, h2⟩
      show ((L2.wipe σ vs).set v none)[i]? = some (some w)
      rw [List.getElem?_set_ne e]; exact h1
def lcFrom (mgt : MG) (mt me : ME) (s0 : SM) : List T → List T → MH → R
  | [], acc, h => .ok (.lst acc) h
  | x :: xs, acc, h => match mgt x s0 h with
    | .ok s1 h1 => match mt s1 h1 with
      | .ok (.bl true) h2 => match me s1 h2 with
        | .ok y h3 => if acc.length < big then lcFrom mgt mt me s0 xs (acc ++ [y]) h3 else .stuck
        | _ => .stuck
      | .ok (.bl false) h2 => lcFrom mgt mt me s0 xs acc h2
      | _ => .stuck
    | .stuck => .stuck
def RL.bindR (r : RL) (f : List T → MH → R) : R := r.bind f
def mLc (mi : MI) (mgt : MG) (mt me : ME) (own : List Nat) : ME := fun s h => (mi s h).bind fun xs h1 => lcFrom mgt mt me (wipeM s own) xs [] h1
def W0 : WX := fun _ _ _ _ => False
/-- a state of a comprehension's walk -/
structure LcAt (K : PySem.W.Frag) (mg : Str → Option Value) (W : WX) (g1 : G) (Dl : Addr) (σ : L2.St) (Q : VK) (r : List T → List T → MH → R) (xs : List T) (i : Nat) (H : Hp) : Prop where
  ex : ∃ (gi : G) (acc : List T) (accV : List V), gi.H = H ∧ Rel K mg gi ∧ Sub g1 gi ∧ gi.pv = Dl :: g1.pv ∧ (∀ a ∈ g1.pv, gi.H a = g1.H a) ∧ gi.H Dl = some (.lst accV) ∧ RepL K mg gi acc accV ∧ i ≤ xs.length ∧ wpR K mg W g1 σ Q (r (xs.drop i) acc gi.h)
theorem blk_ne {g1 : G} {Dl : Addr} (R : Rel K mg g1) (hD : g1.H Dl = none) : ∀ a ∈ g1.pv, a ≠ Dl := fun a ha e => by
  obtain ⟨u, q⟩ := R.pvt a ha
  rw [e, hD] at q; cases q
/-- an object kept apart is written -/
theorem pv_put {Dl : Addr} {o : HO} (R : Rel K mg g) (hD : Dl ∈ g.pv) : Sub g { g with H := upd g.H Dl o } ∧ Rel K mg { g with H := upd g.H Dl o } := by
  have hs : Sub g { g with H := upd g.H Dl o } := ⟨fun _ _ h => h, fun a u h n => ⟨by
    show upd g.H Dl o a = some u
    rw [upd_ne (fun e => n (.inl (by rw [e]; exact hD)))]; exact h, n⟩⟩
  refine ⟨hs, R.len, R.inj, R.npv, fun a ha => ?_, fun i a ha => ?_, fun i a w h1 h2 => (R.obj i a w h1 h2).sub hs fun u hu => ?_⟩
  · by_cases e : a = Dl
    · subst e; exact ⟨o, upd_same⟩
    · obtain ⟨u, q⟩ := R.pvt a ha; exact ⟨u, by show upd g.H Dl o a = some u; rw [upd_ne e]; exact q⟩
  · obtain ⟨u, q⟩ := R.tr i a ha
    have e : a ≠ Dl := fun e => R.npv Dl hD (by rw [← e]; exact List.mem_of_getElem? ha)
    exact ⟨u, by show upd g.H Dl o a = some u; rw [upd_ne e]; exact q⟩
  · have e : a ≠ Dl := fun e => R.npv Dl hD (by rw [← e]; exact List.mem_of_getElem? h1)
    show upd g.H Dl o a = some u
    rw [upd_ne e]; exact hu
/-- a new object is kept apart -/
theorem pv_new {Dl : Addr} {o : HO} (R : Rel K mg g) (hD : g.H Dl = none) : Sub g ⟨g.rho, g.h, Dl :: g.pv, upd g.H Dl o⟩ ∧ Rel K mg ⟨g.rho, g.h, Dl :: g.pv, upd g.H Dl o⟩ := by
  have hs : Sub g ⟨g.rho, g.h, Dl :: g.pv, upd g.H Dl o⟩ := ⟨fun _ _ h => h, fun a u h n => ⟨by
    show upd g.H Dl o a = some u
    rw [upd_ne (ne_of_none h hD)]; exact h, fun z => by
      rcases z with z | z
      · rcases List.mem_cons.mp z with e | z
        · rw [e, hD] at h; cases h
        · exact n (.inl z)
      · exact n (.inr z)⟩⟩
  have hn : ∀ (i : Nat) a, g.rho[i]? = some a → a ≠ Dl := fun i a ha e => by
    obtain ⟨u, q⟩ := R.tr i a ha
    rw [e, hD] at q; cases q
  refine ⟨hs, R.len, R.inj, fun a ha hm => ?_, fun a ha => ?_, fun i a ha => ?_, fun i a w h1 h2 => (R.obj i a w h1 h2).sub hs fun u hu => ?_⟩
  · rcases List.mem_cons.mp (show a ∈ Dl :: g.pv from ha) with e | z
    · obtain ⟨i, hi⟩ := List.mem_iff_getElem?.mp (show a ∈ g.rho from hm)
      exact hn i a hi e
    · exact R.npv a z hm
  · rcases List.mem_cons.mp (show a ∈ Dl :: g.pv from ha) with e | z
    · subst e; exact ⟨o, upd_same⟩
    · obtain ⟨u, q⟩ := R.pvt a z
      exact ⟨u, by show upd g.H Dl o a = some u; rw [upd_ne (ne_of_none q hD)]; exact q⟩
  · obtain ⟨u, q⟩ := R.tr i a ha
    exact ⟨u, by show upd g.H Dl o a = some u; rw [upd_ne (hn i a ha)]; exact q⟩
  · show upd g.H Dl o a = some u
    rw [upd_ne (hn i a h1)]; exact hu
/-- what was kept apart becomes a value -/
theorem pv_out {Dl : Addr} {ps : List Addr} (R : Rel K mg g) (hp : g.pv = Dl :: ps) (hn : Dl ∉ ps) : Sub g { g with pv := ps } ∧ Rel K mg { g with pv := ps } ∧ ¬ G.hid { g with pv := ps } Dl := by
  have hs : Sub g { g with pv := ps } := ⟨fun _ _ h => h, fun a u h n => ⟨h, fun z => n (by
    rcases z with z | z
    · exact .inl (by rw [hp]; exact List.mem_cons_of_mem _ z)
    · exact .inr z)⟩⟩
  refine ⟨hs, ⟨R.len, R.inj, fun a ha => R.npv a (by rw [hp]; exact List.mem_cons_of_mem _ ha), fun a ha => R.pvt a (by rw [hp]; exact List.mem_cons_of_mem _ ha), R.tr, fun i a w h1 h2 => (R.obj i a w h1 h2).sub hs fun u hu => hu⟩, ?_⟩
  rintro (z | ⟨i, o, h1, _⟩)
  · exact hn z
  · exact R.npv Dl (by rw [hp]; exact List.mem_cons_self) (List.mem_of_getElem? h1)
theorem lc_run {mgt : MG} {tl vs : List Nat} {J : It} {xs : List T} {g1 : G} {s : SM} (R1 : Rel K mg g1) (S1 : RepS K mg g1 s σ) (it : ItOk K mg g1 xs J) (htl : ∀ i ∈ tl, i ∈ vs)
    (h : wpR K mg W g1 σ Q (lcFrom mgt mt me (wipeM s vs) xs [] g1.h)) (Dl : Addr) (hD : g1.H Dl = none) :
    ∃ Wd : Nat → Nat → Hp → Prop, (∃ m, Wd 0 m (upd g1.H Dl (.lst []))) ∧ ∀ i m H, Wd i m H →
      (J.stop i H ∧ Q (.ref Dl) H) ∨ (J.go i H ∧ ∃ Nx : Hp → Prop, (∀ H', Nx H' → ∃ m', m' < m ∧ Wd (i + 1) m' H') ∧ ∀ x H', J.yld i H x H' → tMG K mg tl mgt x (wipe σ vs) H' fun σ2 H2 => wipe σ2 vs = wipe σ vs ∧ tMT K mg W0 mt σ2 H2 fun b H3 =>
        if b = true then tM K mg W0 me σ2 H3 fun y H4 => ∃ acc, H4 Dl = some (.lst acc) ∧ acc.length < sizeLine ∧ Nx (upd H4 Dl (.lst (acc ++ [y]))) else Nx H3) := by
  have hpn : Dl ∉ g1.pv := fun z => blk_ne R1 hD Dl z rfl
  refine ⟨fun i m H => m = xs.length - i ∧ LcAt K mg W g1 Dl σ Q (lcFrom mgt mt me (wipeM s vs)) xs i H, ⟨xs.length, rfl, ?_⟩, fun i m H hW => ?_⟩
  · obtain ⟨s1, r1⟩ := pv_new (o := .lst []) R1 hD
    exact ⟨⟨_, [], [], rfl, r1, s1, rfl, fun a ha => by
      show upd g1.H Dl (.lst []) a = g1.H a
      rw [upd_ne (blk_ne R1 hD a ha)], upd_same, RepL.nil, Nat.zero_le _, by rw [List.drop_zero]; exact h⟩⟩
  · obtain ⟨rfl, ⟨gi, acc, accV, rfl, Ri, si, hpv, hpk, hDi, la, hi, hw⟩⟩ := hW
    by_cases hlt : i < xs.length
    · refine .inr ⟨it.go i gi si Ri hlt, fun H' => LcAt K mg W g1 Dl σ Q (lcFrom mgt mt me (wipeM s vs)) xs (i + 1) H', fun H' hn => ⟨xs.length - (i + 1), by omega, rfl, hn⟩, fun x H' hy => ?_⟩
      obtain ⟨g', rfl, eh, e1, R', t, ht, rt⟩ := it.yld i gi x H' si Ri hlt hy
      have edrop : xs.drop i = t :: xs.drop (i + 1) := by
        rw [List.drop_eq_getElem_cons hlt]
        have : xs[i] = t := by
          have := List.getElem?_eq_getElem hlt
          rw [ht] at this; exact (Option.some.inj this).symm
        rw [this]
      rw [edrop] at hw
      unfold lcFrom at hw
      have S' : RepS K mg g' (wipeM s vs) (wipe σ vs) := ((S1.sub si).mono e1).wipe vs
      refine ⟨g', wipeM s vs, t, rfl, R', S', rt, ?_⟩
      rw [eh]
      cases q : mgt t (wipeM s vs) gi.h with
      | stuck => rw [q] at hw; exact hw.elim
      | ok s2 h2 =>
        rw [q] at hw
        dsimp only at hw
        intro g2 σ2 q2 e2 R2 S2 w2
        refine ⟨(w2 vs htl).trans (wipe_wipe σ vs vs fun _ z => z), g2, s2, rfl, R2, S2, ?_⟩
        rw [q2]
        have chain : ∀ g3 : G, Ext g' g3 → Sub g1 g3 ∧ g3.pv = Dl :: g1.pv ∧ (∀ a ∈ g1.pv, g3.H a = g1.H a) ∧ g3.H Dl = some (.lst accV) ∧ RepL K mg g3 acc accV := fun g3 e3 => by
          have e := e1.trans e3
          refine ⟨⟨fun i a z => e.rho i a (si.rho i a z), fun a u z n => let ⟨z1, n1⟩ := si.keep a u z n; e.keep a u z1 n1⟩, e.pv.trans hpv, fun a ha => (e.pvk a (by rw [hpv]; exact List.mem_cons_of_mem _ ha)).trans (hpk a ha), (e.pvk Dl (by rw [hpv]; exact List.mem_cons_self)).trans hDi, la.mono e⟩
        cases q3 : mt s2 h2 with
        | stuck => rw [q3] at hw; exact hw.elim
        | ex x h3 => rw [q3] at hw; exact hw.elim
        | ok tb h3 =>
          cases tb with
          | bl bb =>
            rw [q3] at hw
            intro g3 q4 e3 R3
            cases bb with
            | false =>
              refine iteF ?_
              obtain ⟨c1, c2, c3, c4, c5⟩ := chain g3 (e2.trans e3)
              exact ⟨⟨g3, acc, accV, rfl, R3, c1, c2, c3, c4, c5, hlt, by rw [q4]; exact hw⟩⟩
            | true =>
              refine iteT ⟨g3, s2, rfl, R3, S2.mono e3, ?_⟩
              rw [q4]
              dsimp only at hw
              cases q5 : me s2 h3 with
              | stuck => rw [q5] at hw; exact hw.elim
              | ex x h4 => rw [q5] at hw; exact hw.elim
              | ok y h4 =>
                rw [q5] at hw
                dsimp only at hw
                intro g4 v q6 e4 R4 r4
                split at hw
                · rename_i hl
                  obtain ⟨c1, c2, c3, c4, c5⟩ := chain g4 ((e2.trans e3).trans e4)
                  refine ⟨accV, c4, big_lt (by rw [← la.length]; exact hl), ?_⟩
                  obtain ⟨s5, R5⟩ := pv_put (o := .lst (accV ++ [v])) R4 (by rw [c2]; exact List.mem_cons_self)
                  refine ⟨⟨_, acc ++ [y], accV ++ [v], rfl, R5, ⟨fun i a z => s5.rho i a (c1.rho i a z), fun a u z n => let ⟨z1, n1⟩ := c1.keep a u z n; s5.keep a u z1 n1⟩, c2, fun a ha => ?_, upd_same, (c5.sub s5).append (RepL.cons (Rep.sub s5 y v r4) RepL.nil), hlt, ?_⟩⟩
                  · show upd g4.H Dl _ a = g1.H a
                    rw [upd_ne (blk_ne R1 hD a ha)]; exact c3 a ha
                  · show wpR K mg W g1 σ Q (lcFrom mgt mt me (wipeM s vs) (xs.drop (i + 1)) (acc ++ [y]) g4.h)
                    rw [q6]; exact hw
                · exact hw.elim
          | _ => rw [q3] at hw; exact hw.elim
    · have e : i = xs.length := by omega
      subst e
      refine .inl ⟨it.stop _ gi si Ri (Nat.le_refl _), ?_⟩
      rw [List.drop_length] at hw
      unfold lcFrom at hw
      obtain ⟨s5, R5, n5⟩ := pv_out Ri hpv hpn
      refine hw { gi with pv := g1.pv } (.ref Dl) rfl ⟨si.rho, rfl, hpk, fun a u z n => let ⟨z1, n1⟩ := si.keep a u z n; s5.keep a u z1 n1⟩ R5 ?_
      simp only [Rep]
      exact ⟨Dl, accV, rfl, ⟨hDi, n5⟩, la.sub s5⟩
theorem wpI_lc {r : RL} {f : List T → MH → R} {Rr : It → Hp → Prop} (h : wpR K mg W g σ Q (r.bind f)) (k : ∀ g' xs J, Ext g g' → Rel K mg g' → ItOk K mg g' xs J → wpR K mg W g' σ Q (f xs g'.h) → Rr J g'.H) : wpI K mg W g σ Rr r := by
  cases r with
  | ok t h' => exact fun g' J q e R it => k g' t J e R it (by subst q; exact wpR.ext h e)
  | ex x h' => exact h
  | stuck => exact h
theorem use_lc {mi : MI} {mgt : MG} {tl vs : List Nat} (htl : ∀ i ∈ tl, i ∈ vs) {H : Hp} (h : tM K mg W (mLc mi mgt mt me vs) σ H Q) : tLc (tMI K mg W mi) (tMG K mg tl mgt) (tMT K mg W0 mt) (tM K mg W0 me) vs σ H Q := by
  obtain ⟨g, s, rfl, R, S, h⟩ := h
  exact ⟨g, s, rfl, R, S, wpI_lc h fun g1 xs J e1 R1 it h1 => fun Dl hD => lc_run R1 (S.mono e1) it htl h1 Dl hD⟩
def subN (a b : List Nat) : Bool := a.all fun i => b.contains i
theorem subN_ok {a b : List Nat} (h : subN a b = true) : ∀ i ∈ a, i ∈ b := fun i hi => by
  have := List.all_eq_true.mp h i hi
  simpa using this
theorem se_lc {elt tg iter : Expr} {ifs : List Expr} {scope : Scope} {own : List (Str × Nat)} {mi : MI} {mgt : MG} {tl : List Nat} (hc : X.calm = true) (hN : X.N.Nodup) (hi : SI X W tg iter mi) (ok : BlkOk X.N X.env.scope scope own) (htl : subN tl (own.map (·.2)) = true)
    (hg : ∀ (s : Shared) (H : Hp) (C : Addr) (cl : List (Str × Addr)) (fp : List Addr), SG (X.blk s H scope (compEnvC scope cl C X.env) fp) tg tl mgt)
    (ht : ∀ (s : Shared) (H : Hp) (C : Addr) (cl : List (Str × Addr)) (fp : List Addr), PTs (X.blk s H scope (compEnvC scope cl C X.env) fp) ifs (tMT X.K X.mg W0 mt))
    (he : ∀ (s : Shared) (H : Hp) (C : Addr) (cl : List (Str × Addr)) (fp : List Addr), SE (X.blk s H scope (compEnvC scope cl C X.env) fp) W0 elt me) (hs : ∀ x, foldedSetIterable iter X.env x = pure x := by intro _; rfl) :
    SE X W (.ListComp elt [⟨tg, iter, ifs, 0⟩] scope pos) (mLc mi mgt mt me (own.map (·.2))) :=
  weakE (pe_lc hc hN hi ok hg ht he hs) fun _ _ _ h => use_lc (subN_ok htl) h
theorem weakTs {X : Cx} {ifs : List Expr} {t t' : TT} (h : PTs X ifs t) (k : ∀ σ H Q, t' σ H Q → t σ H Q) : PTs X ifs t' := ⟨fun pins s σ H Q I q => h.run pins s σ H Q I (k σ H Q q)⟩
theorem sts_nil : PTs X [] (tMT X.K X.mg W (mC (.bl true))) := by
  refine weakTs pts_nil ?_
  rintro σ H Q ⟨g, s, rfl, R, S, h⟩
  exact wpT_here h R
theorem sts_one (h : ST X W c mc) : PTs X [c] (tMT X.K X.mg W mc) := pts_one h
end
end Mi
end part_Mi5
section part_Mi6
set_option maxRecDepth 100000
set_option maxHeartbeats 2000000
/-! Mi, part 6: statements, defs, calls. -/
namespace Mi
open PySem PySem.Spec PyProof.Rows L2
section
variable {X : Cx} {K : PySem.W.Frag} {mg : Str → Option Value} {W : WX} {g g' : G} {σ : L2.St} {Q : VK} {D : Ends}
variable {a b c e : Expr} {ma mb mc me mt : ME} {mr : MA} {pos p : Pos} {es : List Expr} {x : Str} {st : Stmt} {rest : List Stmt} {m m' : MS}
abbrev SS (X : Cx) (W : WX) (st : Stmt) (m : MS) : Prop := PS X st (tSM X.K X.mg W m)
abbrev SSs (X : Cx) (W : WX) (sts : List Stmt) (m : MS) : Prop := PSs X sts (tSM X.K X.mg W m)
/-- an expression's outcome within a statement -/
def R.toS (r : R) (s : SM) (f : T → MH → SR) : SR := match r with
  | .ok t h => f t h
  | .ex x h => .ex x s h
  | .stuck => .stuck
theorem wpS_bind {r : R} {s : SM} {f : T → MH → SR} {Q' : VK} (S : RepS K mg g s σ) (h : wpS K mg W g D (r.toS s f)) (k : ∀ g' t v, Ext g g' → Rel K mg g' → Rep K mg g' t v → wpS K mg W g' D (f t g'.h) → Q' v g'.H) : wpR K mg W g σ Q' r := by
  cases r with
  | ok t h' => exact fun g' v q e R r => k g' t v e R r (by subst q; exact wpS.ext h e)
  | ex x h' => exact fun g' cls d q e R r => h g' σ cls d q e R (S.mono e) r
  | stuck => exact h
theorem wpS_bindT {r : R} {s : SM} {f : T → MH → SR} {Q' : Bool → Hp → Prop} (S : RepS K mg g s σ) (h : wpS K mg W g D (r.toS s f)) (hb : ∀ t h, (∀ b, t ≠ .bl b) → f t h = .stuck) (k : ∀ g' b, Ext g g' → Rel K mg g' → wpS K mg W g' D (f (.bl b) g'.h) → Q' b g'.H) : wpT K mg W g σ Q' r := by
  cases r with
  | ok t h' =>
    by_cases hx : ∃ b, t = .bl b
    · obtain ⟨b, rfl⟩ := hx
      exact fun g' q e R => k g' b e R (by subst q; exact wpS.ext h e)
    · have z := hb t h' (fun b e => hx ⟨b, e⟩)
      have h2 : wpS K mg W g D (f t h') := h
      rw [z] at h2
      exact h2.elim
  | ex x h' => exact fun g' cls d q e R r => h g' σ cls d q e R (S.mono e) r
  | stuck => exact h
def mNx : MS := fun s h => .nx s h
theorem sss_nil : SSs X W [] mNx := by
  refine weakSs pss_nil ?_
  rintro D σ H ⟨g, s, rfl, R, S, h⟩
  exact h g σ rfl (Ext.refl g) R S
def mSq (m m' : MS) : MS := fun s h => match m s h with
  | .nx s1 h1 => m' s1 h1
  | r => r
theorem sss_cons (h1 : SS X W st m) (h2 : SSs X W rest m') : SSs X W (st :: rest) (mSq m m') := by
  refine weakSs (pss_cons h1 h2) ?_
  rintro D σ H ⟨g, s, rfl, R, S, h⟩
  refine ⟨g, s, rfl, R, S, ?_⟩
  unfold mSq at h
  cases q : m s g.h with
  | nx s1 h1 =>
    rw [q] at h
    intro g1 σ1 q1 e1 R1 S1
    exact ⟨g1, s1, rfl, R1, S1, by rw [q1]; exact wpS.ext h e1⟩
  | rt t h1 => rw [q] at h; exact h
  | bk s1 h1 => rw [q] at h; exact h
  | ct s1 h1 => rw [q] at h; exact h
  | ex x s1 h1 => rw [q] at h; exact h
  | stuck => rw [q] at h; exact h.elim
theorem sss_one (h1 : SS X W st m) : SSs X W [st] m := pss_one h1
def mPass : MS := mNx
theorem ss_pass : SS X W (.Pass pos) mNx := by
  refine weakS ps_pass ?_
  rintro D σ H ⟨g, s, rfl, R, S, h⟩
  exact h g σ rfl (Ext.refl g) R S
def mBk : MS := fun s h => .bk s h
def mCt : MS := fun s h => .ct s h
theorem ss_break : SS X W (.Break pos) mBk := by
  refine weakS ps_break ?_
  rintro D σ H ⟨g, s, rfl, R, S, h⟩
  exact h g σ rfl (Ext.refl g) R S
theorem ss_continue : SS X W (.Continue pos) mCt := by
  refine weakS ps_continue ?_
  rintro D σ H ⟨g, s, rfl, R, S, h⟩
  exact h g σ rfl (Ext.refl g) R S
/-- a statement that is never reached -/
def mNever : MS := fun _ _ => .stuck
theorem ss_never : SS X W st mNever := by
  refine weakS ps_never ?_
  rintro D σ H ⟨g, s, rfl, R, S, h⟩
  exact h.elim
theorem sss_never {sts : List Stmt} : SSs X W sts mNever := by
  refine weakSs pss_never ?_
  rintro D σ H ⟨g, s, rfl, R, S, h⟩
  exact h.elim
def mEx (me : ME) : MS := fun s h => (me s h).toS s fun _ h1 => .nx s h1
theorem ss_expr (he : SE X W e me) (hs : swapsWith e none pos.line X.env = pure false := by rfl) : SS X W (.Expr e pos) (mEx me) := by
  refine weakS (ps_expr he hs) ?_
  rintro D σ H ⟨g, s, rfl, R, S, h⟩
  exact ⟨g, s, rfl, R, S, wpS_bind S h fun g1 t v e1 R1 r1 h1 => h1 g1 σ rfl (Ext.refl _) R1 (S.mono e1)⟩
def mRet (me : ME) : MS := fun s h => (me s h).toS s fun t h1 => .rt t h1
theorem ss_ret (he : SE X W e me) : SS X W (.Return (some e) pos) (mRet me) := by
  refine weakS (ps_ret he) ?_
  rintro D σ H ⟨g, s, rfl, R, S, h⟩
  exact ⟨g, s, rfl, R, S, wpS_bind S h fun g1 t v e1 R1 r1 h1 => h1 g1 v rfl (Ext.refl _) R1 r1⟩
def mRetN : MS := fun s h => .rt .non h
theorem ss_retN : SS X W (.Return none pos) mRetN := by
  refine weakS ps_retN ?_
  rintro D σ H ⟨g, s, rfl, R, S, h⟩
  exact h g .non rfl (Ext.refl _) R rNon
def fIfS (m m' : MS) (s : SM) : T → MH → SR := fun t h => match t with
  | .bl true => m s h
  | .bl false => m' s h
  | _ => .stuck
def mIfS (mc : ME) (m m' : MS) : MS := fun s h => (mc s h).toS s (fIfS m m' s)
theorem ss_if {A B : List Stmt} (hc : ST X W c mc) (ha : SSs X W A m) (hb : SSs X W B m') : SS X W (.If c A B pos) (mIfS mc m m') := by
  refine weakS (ps_if hc ha hb) ?_
  rintro D σ H ⟨g, s, rfl, R, S, h⟩
  refine ⟨g, s, rfl, R, S, wpS_bindT S h (fun t h k => by cases t <;> first | exact absurd rfl (k _) | rfl) fun g1 b e1 R1 h1 => ?_⟩
  cases b with
  | true => exact iteT ⟨g1, s, rfl, R1, S.mono e1, h1⟩
  | false => exact iteF ⟨g1, s, rfl, R1, S.mono e1, h1⟩
/-! ### assignment -/
def mSet (i : Nat) (me : ME) : MS := fun s h => (me s h).toS s fun t h1 => .nx (s.set i (some t)) h1
theorem use_set {i : Nat} {H : Hp} (h : tSM K mg W (mSet i me) D σ H) : tAsg (tM K mg W me) (gName i) D σ H := by
  obtain ⟨g, s, rfl, R, S, h⟩ := h
  exact ⟨g, s, rfl, R, S, wpS_bind S h fun g1 t v e1 R1 r1 h1 => h1 g1 _ rfl (Ext.refl _) R1 ((S.mono e1).set r1 i)⟩
theorem ss_set {i : Nat} {pos' : Pos} (hN : X.N.Nodup) (he : SE X W e me) (hi : X.N[i]? = some x := by rfl) (hx : Loc X.env.scope x := by first | exact Or.inl rfl | exact Or.inr rfl) (hs : swapsWith e (some (.Name x pos')) pos.line X.env = pure false := by rfl) (hf : X.fn x = true ∨ X.env.scope.names.lookup x = some .local := by first | exact .inl rfl | exact .inr rfl) :
    SS X W (.Assign [.Name x pos'] e pos) (mSet i me) := weakS (ps_set hN hi hx he hs hf) fun _ _ _ h => use_set h
theorem ss_setLc {i : Nat} {py : Pos} {tg iter : Expr} {ifs : List Expr} {scope : Scope} {own : List (Str × Nat)} {mi : MI} {mgt : MG} {tl : List Nat} (hc : X.calm = true) (hN : X.N.Nodup) (hi : SI X W tg iter mi) (ok : BlkOk X.N X.env.scope scope own) (htl : subN tl (own.map (·.2)) = true)
    (hg : ∀ (s : Shared) (H : Hp) (C : Addr) (cl : List (Str × Addr)) (fp : List Addr), SG (X.blk s H scope (compEnvC scope cl C X.env) fp) tg tl mgt)
    (ht : ∀ (s : Shared) (H : Hp) (C : Addr) (cl : List (Str × Addr)) (fp : List Addr), PTs (X.blk s H scope (compEnvC scope cl C X.env) fp) ifs (tMT X.K X.mg W0 mt))
    (he : ∀ (s : Shared) (H : Hp) (C : Addr) (cl : List (Str × Addr)) (fp : List Addr), SE (X.blk s H scope (compEnvC scope cl C X.env) fp) W0 e me)
    (hsw : swapsWith (.ListComp e [⟨tg, iter, ifs, 0⟩] scope p) (some (.Name x py)) pos.line X.env = pure true) (hy : X.N[i]? = some x := by rfl) (hyl : X.env.scope.names.lookup x = some .local := by rfl) (hs : ∀ x, foldedSetIterable iter X.env x = pure x := by intro _; rfl) :
    SS X W (.Assign [.Name x py] (.ListComp e [⟨tg, iter, ifs, 0⟩] scope p) pos) (mSet i (mLc mi mgt mt me (own.map (·.2)))) :=
  weakS (ps_setLc hc hN hy hyl hsw hi ok hg ht he hs) fun D σ H h => use_set (me := mLc mi mgt mt me (own.map (·.2))) h |> fun z => by
    obtain ⟨g, s, rfl, R, S, h⟩ := h
    exact use_lc (W := W) (subN_ok htl) ⟨g, s, rfl, R, S, wpS_bind S h fun g1 t v e1 R1 r1 h1 => h1 g1 _ rfl (Ext.refl _) R1 ((S.mono e1).set r1 i)⟩
/-- a, b = x, y with plain local names -/
def mPar (i j : Nat) (mr : MA) : MS := fun s h => match mr s h with
  | .ok [t, u] h1 => .nx ((s.set i (some t)).set j (some u)) h1
  | .ok _ _ => .stuck
  | .ex x h1 => .ex x s h1
  | .stuck => .stuck
theorem ss_par {i j : Nat} {y : Str} {px py pt : Pos} {kt k2 : Nat} {pt2 : Pos} (hc : X.calm = true) (hN : X.N.Nodup) (ha : SA X W [a, b] mr)
    (hw : swappedStores [.Tuple [.Name x px, .Name y py] kt pt] (.Tuple [a, b] k2 pt2) X.env = pure (some [x, y]) := by rfl) (hi : X.N[i]? = some x := by rfl) (hj : X.N[j]? = some y := by rfl) (hij : i ≠ j := by decide)
    (hx : X.env.scope.names.lookup x = some .local := by rfl) (hy : X.env.scope.names.lookup y = some .local := by rfl) (hs : swapsWithSole [.Tuple [.Name x px, .Name y py] kt pt] (.Tuple [a, b] k2 pt2) pos.line X.env = pure false := by rfl) :
    SS X W (.Assign [.Tuple [.Name x px, .Name y py] kt pt] (.Tuple [a, b] k2 pt2) pos) (mPar i j mr) := by
  refine weakS (ps_par hc hN hi hj hij hx hy ha hw hs) ?_
  rintro D σ H ⟨g, s, rfl, R, S, h⟩
  refine ⟨g, s, rfl, R, S, ?_⟩
  unfold mPar at h
  cases q : mr s g.h with
  | ok ts h1 =>
    rw [q] at h
    match ts, h with
    | [t, u], h =>
      intro g1 vs q1 e1 R1 r1
      simp only [RepL] at r1
      obtain ⟨v, w, rfl, rv, v2, w2, rfl, rv2, rfl⟩ := r1
      exact ⟨v, v2, rfl, h g1 _ q1 e1 R1 (((S.mono e1).set rv i).set rv2 j)⟩
    | [], h => exact h.elim
    | [_], h => exact h.elim
    | _ :: _ :: _ :: _, h => exact h.elim
  | ex x h1 =>
    rw [q] at h
    exact fun g1 cls d q e R r => h g1 σ cls d q e R (S.mono e) r
  | stuck => rw [q] at h; exact h.elim
/-- target = value -/
def mAs (me : ME) (mgt : MG) : MS := fun s h => (me s h).toS s fun t h1 => match mgt t s h1 with
  | .ok s1 h2 => .nx s1 h2
  | .stuck => .stuck
theorem ss_asg {tg : Expr} {tl : List Nat} {mgt : MG} (he : SE X W e me) (hg : SG X tg tl mgt) (hs : swapsWithSole [tg] e pos.line X.env = pure false := by rfl) (hw : swappedStores [tg] e X.env = pure none := by rfl)
    (h1 : (assignEach [tg] X.env).map (·.2) = [assign tg X.env] := by rfl) : SS X W (.Assign [tg] e pos) (mAs me mgt) := by
  refine weakS (ps_asg he hg hs hw h1) ?_
  rintro D σ H ⟨g, s, rfl, R, S, h⟩
  refine ⟨g, s, rfl, R, S, wpS_bind S h fun g1 t v e1 R1 r1 h1 => ⟨g1, s, t, rfl, R1, S.mono e1, r1, ?_⟩⟩
  cases q : mgt t s g1.h with
  | ok s1 h2 =>
    rw [q] at h1
    exact fun g2 σ2 q2 e2 R2 S2 _ => h1 g2 σ2 q2 e2 R2 S2
  | stuck => rw [q] at h1; exact h1.elim
/-- name op= e -/
def mAug (i : Nat) (f : T → T → MH → R) (me : ME) : MS := fun s h => match s[i]? with
  | some (some t) => (me s h).toS s fun u h1 => (f t u h1).toS s fun z h2 => .nx (s.set i (some z)) h2
  | _ => .stuck
theorem ss_aug {i : Nat} {op : Operator} {pos' : Pos} {f : T → T → MH → R} {r : R2} (hN : X.N.Nodup) (ho : OpR X (inplaceOp op) r) (hm : OpM X f r) (he : SE X W e me) (hi : X.N[i]? = some x := by rfl) (hx : Loc X.env.scope x := by first | exact Or.inl rfl | exact Or.inr rfl) (hf : X.fn x = true ∨ X.env.scope.names.lookup x = some .local := by first | exact .inl rfl | exact .inr rfl) :
    SS X W (.AugAssign (.Name x pos') op e pos) (mAug i f me) := by
  refine weakS (ps_aug hN hi hx he (ti := r) (fun pins s σ H x y v u Q I rx ry h => ho pins s σ H x y v u Q I rx ry h) hf) ?_
  rintro D σ H ⟨g, s, rfl, R, S, h⟩
  unfold mAug at h
  split at h
  · rename_i t q
    obtain ⟨v, hv, rv⟩ := S.2 i t q
    refine ⟨v, hv, g, s, rfl, R, S, wpS_bind S h fun g1 u w e1 R1 r1 h1 => ?_⟩
    refine hm W g1 σ t u v w _ R1 (rv.mono e1) r1 (wpS_bind (S.mono e1) h1 fun g2 z y e2 R2 r2 h2 => ?_)
    exact h2 g2 _ rfl (Ext.refl _) R2 (((S.mono e1).mono e2).set r2 i)
  · exact h.elim
/-! ### for -/
def forFrom (mgt : MG) (mb : MS) : List T → SM → MH → SR
  | [], s, h => .nx s h
  | x :: xs, s, h => match mgt x s h with
    | .ok s1 h1 => match mb s1 h1 with
      | .nx s2 h2 => forFrom mgt mb xs s2 h2
      | .ct s2 h2 => forFrom mgt mb xs s2 h2
      | .bk s2 h2 => .nx s2 h2
      | r => r
    | .stuck => .stuck
def mFor (mi : MI) (mgt : MG) (mb : MS) : MS := fun s h => match mi s h with
  | .ok xs h1 => forFrom mgt mb xs s h1
  | .ex x h1 => .ex x s h1
  | .stuck => .stuck
structure FoAt (K : PySem.W.Frag) (mg : Str → Option Value) (W : WX) (g1 : G) (D : Ends) (r : List T → SM → MH → SR) (xs : List T) (i : Nat) (σ : L2.St) (H : Hp) : Prop where
  ex : ∃ (gi : G) (s : SM), gi.H = H ∧ Rel K mg gi ∧ Ext g1 gi ∧ RepS K mg gi s σ ∧ i ≤ xs.length ∧ wpS K mg W gi D (r (xs.drop i) s gi.h)
theorem for_run {mgt : MG} {mb : MS} {tl : List Nat} {J : It} {xs : List T} {g1 : G} {s : SM} (R1 : Rel K mg g1) (S1 : RepS K mg g1 s σ) (it : ItOk K mg g1 xs J) (h : wpS K mg W g1 D (forFrom mgt mb xs s g1.h)) :
    ∃ Wd : Nat → Nat → L2.St → Hp → Prop, (∃ m, Wd 0 m σ g1.H) ∧ ∀ i m σ H, Wd i m σ H →
      (J.stop i H ∧ D.nx σ H) ∨ (J.go i H ∧ ∃ N : L2.St → Hp → Prop, (∀ σ' H', N σ' H' → ∃ m', m' < m ∧ Wd (i + 1) m' σ' H') ∧ ∀ x H', J.yld i H x H' → tMG K mg tl mgt x σ H' fun σ2 H2 => tSM K mg W mb { D with nx := N, ct := N, bk := D.nx } σ2 H2) := by
  refine ⟨fun i m σ H => m = xs.length - i ∧ FoAt K mg W g1 D (forFrom mgt mb) xs i σ H, ⟨xs.length, rfl, ⟨g1, s, rfl, R1, Ext.refl _, S1, Nat.zero_le _, by rw [List.drop_zero]; exact h⟩⟩, fun i m σ H hW => ?_⟩
  obtain ⟨rfl, ⟨gi, s, rfl, Ri, ei, Si, hi, hw⟩⟩ := hW
  by_cases hlt : i < xs.length
  · refine .inr ⟨it.go i gi ei.sub Ri hlt, fun σ' H' => FoAt K mg W g1 D (forFrom mgt mb) xs (i + 1) σ' H', fun σ' H' hn => ⟨xs.length - (i + 1), by omega, rfl, hn⟩, fun x H' hy => ?_⟩
    obtain ⟨g', rfl, eh, e1, R', t, ht, rt⟩ := it.yld i gi x H' ei.sub Ri hlt hy
    have edrop : xs.drop i = t :: xs.drop (i + 1) := by
      rw [List.drop_eq_getElem_cons hlt]
      have : xs[i] = t := by
        have := List.getElem?_eq_getElem hlt
        rw [ht] at this; exact (Option.some.inj this).symm
      rw [this]
    rw [edrop] at hw
    unfold forFrom at hw
    refine ⟨g', s, t, rfl, R', Si.mono e1, rt, ?_⟩
    rw [eh]
    cases q : mgt t s gi.h with
    | stuck => rw [q] at hw; exact hw.elim
    | ok s2 h2 =>
      rw [q] at hw
      dsimp only at hw
      intro g2 σ2 q2 e2 R2 S2 _
      refine ⟨g2, s2, rfl, R2, S2, ?_⟩
      rw [q2]
      cases q3 : mb s2 h2 with
      | nx s3 h3 =>
        rw [q3] at hw
        exact fun g3 σ3 q4 e3 R3 S3 => ⟨g3, s3, rfl, R3, ((ei.trans e1).trans e2).trans e3, S3, hlt, by rw [q4]; exact wpS.ext hw ((e1.trans e2).trans e3)⟩
      | ct s3 h3 =>
        rw [q3] at hw
        exact fun g3 σ3 q4 e3 R3 S3 => ⟨g3, s3, rfl, R3, ((ei.trans e1).trans e2).trans e3, S3, hlt, by rw [q4]; exact wpS.ext hw ((e1.trans e2).trans e3)⟩
      | bk s3 h3 =>
        rw [q3] at hw
        exact fun g3 σ3 q4 e3 R3 S3 => hw g3 σ3 q4 ((e1.trans e2).trans e3) R3 S3
      | rt t3 h3 =>
        rw [q3] at hw
        exact fun g3 v q4 e3 R3 r3 => hw g3 v q4 ((e1.trans e2).trans e3) R3 r3
      | ex x3 s3 h3 =>
        rw [q3] at hw
        exact fun g3 σ3 cls d q4 e3 R3 S3 r3 => hw g3 σ3 cls d q4 ((e1.trans e2).trans e3) R3 S3 r3
      | stuck => rw [q3] at hw; exact hw.elim
  · have e : i = xs.length := by omega
    subst e
    refine .inl ⟨it.stop _ gi ei.sub Ri (Nat.le_refl _), ?_⟩
    rw [List.drop_length] at hw
    exact hw gi σ rfl (Ext.refl _) Ri Si
theorem ss_for {tg iter : Expr} {body : List Stmt} {mi : MI} {mgt : MG} {tl : List Nat} {mb : MS} (hp : PassesOwn (model X.prog X.w) X.A X.env X.xe) (hc : X.calm = true) (hi : SI X W tg iter mi) (hg : SG X tg tl mgt) (hb : SSs X W body mb)
    (hs : ∀ x, foldedSetIterable iter X.env x = pure x := by intro _; rfl) : SS X W (.For tg iter body [] pos) (mFor mi mgt mb) := by
  refine weakS (ps_for hp hc hi hg hb hs) ?_
  rintro D σ H ⟨g, s, rfl, R, S, h⟩
  refine ⟨g, s, rfl, R, S, ?_⟩
  unfold mFor at h
  cases q : mi s g.h with
  | ok xs h1 =>
    rw [q] at h
    exact fun g1 J q1 e1 R1 it => for_run R1 (S.mono e1) it (by rw [q1]; exact wpS.ext h e1)
  | ex x h1 =>
    rw [q] at h
    exact fun g1 cls d q1 e1 R1 r1 => h g1 σ cls d q1 e1 R1 (S.mono e1) r1
  | stuck => rw [q] at h; exact h.elim
/-! ### while: by fuel -/
def whFrom (mc : ME) (mb : MS) : Nat → SM → MH → SR
  | 0, _, _ => .stuck
  | n + 1, s, h => (mc s h).toS s fun t h1 => match t with
    | .bl true => match mb s h1 with
      | .nx s2 h2 => whFrom mc mb n s2 h2
      | .ct s2 h2 => whFrom mc mb n s2 h2
      | .bk s2 h2 => .nx s2 h2
      | r => r
    | .bl false => .nx s h1
    | _ => .stuck
def mWh (n : Nat) (mc : ME) (mb : MS) : MS := fun s h => whFrom mc mb n s h
theorem ss_while {body : List Stmt} {mb : MS} {n : Nat} (hp : PassesOwn (model X.prog X.w) X.A X.env X.xe) (hc : ST X W c mc) (hb : SSs X W body mb) : SS X W (.While c body [] pos) (mWh n mc mb) := by
  refine weakS (ps_while hp hc hb) ?_
  rintro D σ H ⟨g0, s0, rfl, R0, S0, h0⟩
  refine ⟨fun m σ H => ∃ (g : G) (s : SM), g.H = H ∧ Rel X.K X.mg g ∧ RepS X.K X.mg g s σ ∧ wpS X.K X.mg W g D (whFrom mc mb m s g.h), ⟨n, g0, s0, rfl, R0, S0, h0⟩, fun m σ H hW => ?_⟩
  obtain ⟨g, s, rfl, R, S, h⟩ := hW
  cases m with
  | zero => exact h.elim
  | succ m =>
    unfold whFrom at h
    refine ⟨g, s, rfl, R, S, wpS_bindT S h (fun t h k => by cases t <;> first | exact absurd rfl (k _) | rfl) fun g1 b e1 R1 h1 => ?_⟩
    cases b with
    | false => exact iteF (h1 g1 σ rfl (Ext.refl _) R1 (S.mono e1))
    | true =>
      refine iteT ⟨fun σ' H' => ∃ (g : G) (s : SM), g.H = H' ∧ Rel X.K X.mg g ∧ RepS X.K X.mg g s σ' ∧ wpS X.K X.mg W g D (whFrom mc mb m s g.h), fun σ' H' hn => ⟨m, Nat.lt_succ_self _, hn⟩, g1, s, rfl, R1, S.mono e1, ?_⟩
      dsimp only at h1
      cases q3 : mb s g1.h with
      | nx s3 h3 =>
        rw [q3] at h1
        exact fun g3 σ3 q4 e3 R3 S3 => ⟨g3, s3, rfl, R3, S3, by rw [q4]; exact wpS.ext h1 e3⟩
      | ct s3 h3 =>
        rw [q3] at h1
        exact fun g3 σ3 q4 e3 R3 S3 => ⟨g3, s3, rfl, R3, S3, by rw [q4]; exact wpS.ext h1 e3⟩
      | bk s3 h3 => rw [q3] at h1; exact h1
      | rt t3 h3 => rw [q3] at h1; exact h1
      | ex x3 s3 h3 => rw [q3] at h1; exact h1
      | stuck => rw [q3] at h1; exact h1.elim
end
end Mi
end part_Mi6
section part_Mi7
set_option maxRecDepth 100000
set_option maxHeartbeats 2000000
/-! Mi, part 7: defs and calls. -/
namespace Mi
open PySem PySem.Spec PyProof.Rows L2
mutual
def closed : T → Bool
  | .non => true
  | .bl _ => true
  | .int _ => true
  | .str _ => true
  | .tup xs => closedL xs
  | .lst xs => closedL xs
  | .frl xs => closedL xs
  | .dct _ vs => closedL vs
  | .obj _ _ vs => closedL vs
  | .ref _ => false
  | .exn _ _ vs => closedL vs
def closedL : List T → Bool
  | [] => true
  | t :: ts => closed t && closedL ts
end
theorem closedL_mem : ∀ {ts : List T}, closedL ts = true → ∀ t ∈ ts, closed t = true
  | [], _, t, h => by cases h
  | u :: ts, h, t, ht => by
    simp only [closedL, Bool.and_eq_true] at h
    rcases List.mem_cons.mp ht with e | e
    · rw [e]; exact h.1
    · exact closedL_mem h.2 t e
section
variable {X : Cx} {K : PySem.W.Frag} {mg : Str → Option Value} {W : WX} {g g' : G} {σ : L2.St} {Q : VK} {D : Ends}
variable {a b c e : Expr} {ma mb mc me mt : ME} {mr : MA} {pos p : Pos} {es : List Expr} {x : Str}
theorem RepL.monoC {P : T → Prop} : ∀ {ts : List T} {vs : List V}, (∀ t ∈ ts, P t) → (∀ t ∈ ts, P t → ∀ v, Rep K mg g t v → Rep K mg g' t v) → RepL K mg g ts vs → RepL K mg g' ts vs
  | [], vs, _, _, h => by simpa only [RepL] using h
  | t :: ts, vs, hp, f, h => by
    simp only [RepL] at h ⊢
    obtain ⟨v, r, e, h1, h2⟩ := h
    exact ⟨v, r, e, f t List.mem_cons_self (hp t List.mem_cons_self) v h1, RepL.monoC (fun t ht => hp t (List.mem_cons_of_mem _ ht)) (fun t ht => f t (List.mem_cons_of_mem _ ht)) h2⟩
/-- a closed tree's representation leans on no changeable object's number -/
theorem Rep.subC (k : ∀ a o, g.H a = some o → ¬ g.hid a → g'.H a = some o ∧ ¬ g'.hid a) : ∀ t, closed t = true → ∀ v, Rep K mg g t v → Rep K mg g' t v := by
  intro t
  induction t using T.ind with
  | non => intro _ v h; simpa only [Rep] using h
  | bl b => intro _ v h; simpa only [Rep] using h
  | int i => intro _ v h; simpa only [Rep] using h
  | str s => intro _ v h; simpa only [Rep] using h
  | tup xs ih =>
    intro c v h; simp only [Rep] at h ⊢; simp only [closed] at c
    obtain ⟨p, vs, e1, h1, h2⟩ := h
    refine ⟨p, vs, e1, ?_, RepL.monoC (closedL_mem c) ih h2⟩
    rcases h1 with ⟨h1, n⟩ | h1
    · rcases h1 with h1 | ⟨o, h1⟩
      · exact .inl ⟨.inl (k _ _ h1 n).1, (k _ _ h1 n).2⟩
      · exact .inl ⟨.inr ⟨o, (k _ _ h1 n).1⟩, (k _ _ h1 n).2⟩
    · exact .inr h1
  | lst xs ih =>
    intro c v h; simp only [Rep] at h ⊢; simp only [closed] at c
    obtain ⟨p, vs, e1, ⟨h1, n⟩, h2⟩ := h
    exact ⟨p, vs, e1, k _ _ h1 n, RepL.monoC (closedL_mem c) ih h2⟩
  | frl xs ih =>
    intro c v h; simp only [Rep] at h ⊢; simp only [closed] at c
    obtain ⟨p, vs, e1, h1, h2⟩ := h
    refine ⟨p, vs, e1, ?_, RepL.monoC (closedL_mem c) ih h2⟩
    rcases h1 with ⟨⟨o, h1⟩, n⟩ | h1
    · exact .inl ⟨⟨o, (k _ _ h1 n).1⟩, (k _ _ h1 n).2⟩
    · exact .inr h1
  | dct ks vs ih1 ih2 =>
    intro c v h; simp only [Rep] at h ⊢; simp only [closed] at c
    obtain ⟨p, kvs, e1, ⟨h1, n⟩, e2, h2⟩ := h
    exact ⟨p, kvs, e1, k _ _ h1 n, e2, RepL.monoC (closedL_mem c) ih2 h2⟩
  | obj cc ns vs ih =>
    intro c v h; simp only [Rep] at h ⊢; simp only [closed] at c
    obtain ⟨p, C, dx, fs, e1, ⟨h1, n⟩, e2, e3, h2⟩ := h
    exact ⟨p, C, dx, fs, e1, k _ _ h1 n, e2, e3, RepL.monoC (closedL_mem c) ih h2⟩
  | ref i => intro c; simp only [closed] at c; cases c
  | exn cc ns vs ih =>
    intro c v h; simp only [Rep] at h ⊢; simp only [closed] at c
    obtain ⟨p, C, d, fs, e1, ⟨h1, n⟩, ⟨h2, n2⟩, e2, e3, h3⟩ := h
    exact ⟨p, C, d, fs, e1, k _ _ h1 n, k _ _ h2 n2, e2, e3, RepL.monoC (closedL_mem c) ih h3⟩
theorem RepL.subC (k : ∀ a o, g.H a = some o → ¬ g.hid a → g'.H a = some o ∧ ¬ g'.hid a) {ts : List T} {vs : List V} (c : closedL ts = true) (h : RepL K mg g ts vs) : RepL K mg g' ts vs :=
  RepL.monoC (closedL_mem c) (fun t _ c v => Rep.subC k t c v) h
/-! ### the hidden places as a list -/
def liveAds : List Addr → List MO → List Addr
  | a :: as, .dead :: os => liveAds as os
  | a :: as, _ :: os => a :: liveAds as os
  | _, _ => []
theorem liveAds_mem : ∀ {as : List Addr} {os : List MO} {a : Addr}, a ∈ liveAds as os ↔ ∃ (i : Nat) (o : MO), as[i]? = some a ∧ os[i]? = some o ∧ o ≠ MO.dead
  | [], os, a => by simp [liveAds]
  | b :: as, [], a => by simp [liveAds]
  | b :: as, o :: os, a => by
    have ih := liveAds_mem (as := as) (os := os) (a := a)
    have split : (∃ (i : Nat) (o' : MO), (b :: as)[i]? = some a ∧ (o :: os)[i]? = some o' ∧ o' ≠ MO.dead) ↔ ((b = a ∧ o ≠ MO.dead) ∨ ∃ (i : Nat) (o' : MO), as[i]? = some a ∧ os[i]? = some o' ∧ o' ≠ MO.dead) := by
      constructor
      · rintro ⟨i, o', h1, h2, h3⟩
        cases i with
        | zero => simp at h1 h2; subst h1 h2; exact .inl ⟨rfl, h3⟩
        | succ i => exact .inr ⟨i, o', by simpa using h1, by simpa using h2, h3⟩
      · rintro (⟨e, h⟩ | ⟨i, o', h1, h2, h3⟩)
        · exact ⟨0, o, by simp [e], by simp, h⟩
        · exact ⟨i + 1, o', by simpa using h1, by simpa using h2, h3⟩
    rw [split, ← ih]
    cases o with
    | dead => simp [liveAds]
    | lst xs => simp [liveAds, eq_comm]
    | dct ks ts => simp [liveAds, eq_comm]
    | ins c ns ts => simp [liveAds, eq_comm]
def G.hidL (g : G) : List Addr := g.pv ++ liveAds g.rho g.h
theorem hidL_mem {a : Addr} : a ∈ g.hidL ↔ g.hid a := by
  unfold G.hidL G.hid
  rw [List.mem_append, liveAds_mem]
/-- the ghost of a call that sees no changeable object -/
def G.pure (g : G) : G := ⟨[], [], g.hidL, g.H⟩
theorem hid_pure {H : Hp} {a : Addr} : G.hid ⟨[], [], g.hidL, H⟩ a ↔ g.hid a := by
  constructor
  · rintro (h | ⟨i, o, h, _⟩)
    · exact hidL_mem.mp h
    · simp at h
  · exact fun h => .inl (hidL_mem.mpr h)
theorem Rel.hid_there (R : Rel K mg g) {a : Addr} (h : g.hid a) : ∃ o, g.H a = some o := by
  rcases h with h | ⟨i, o, h1, _⟩
  · exact R.pvt a h
  · exact R.tr i a h1
theorem Rel.pure (R : Rel K mg g) : Rel K mg g.pure :=
  ⟨rfl, fun i j a h => by simp [G.pure] at h, fun a _ h => by simp [G.pure] at h, fun a ha => R.hid_there (hidL_mem.mp ha), fun i a h => by simp [G.pure] at h, fun i a o h => by simp [G.pure] at h⟩
/-- behind such a call -/
theorem pure_back {gc : G} (R : Rel K mg g) (e : Ext g.pure gc) : Ext g { g with H := gc.H } ∧ Rel K mg { g with H := gc.H } := by
  have kp : ∀ a o, g.H a = some o → gc.H a = some o := fun a o h => by
    by_cases q : g.hid a
    · have := e.pvk a (show a ∈ g.pure.pv from hidL_mem.mpr q)
      rw [this]; exact h
    · exact (e.keep a o h (fun z => q (hid_pure.mp z))).1
  have hs : Sub g { g with H := gc.H } := ⟨fun _ _ h => h, fun a o h n => ⟨kp a o h, n⟩⟩
  refine ⟨⟨hs.rho, rfl, fun a ha => ?_, hs.keep⟩, R.len, R.inj, R.npv, fun a ha => ?_, fun i a ha => ?_, fun i a o h1 h2 => (R.obj i a o h1 h2).sub hs fun u hu => kp a u hu⟩
  · exact e.pvk a (show a ∈ g.pure.pv from hidL_mem.mpr (.inl ha))
  · obtain ⟨o, h⟩ := R.pvt a ha; exact ⟨o, kp a o h⟩
  · obtain ⟨o, h⟩ := R.tr i a ha; exact ⟨o, kp a o h⟩
theorem rep_back {gc : G} (e : Ext g.pure gc) {t : T} {v : V} (c : closed t = true) (r : Rep K mg gc t v) : Rep K mg { g with H := gc.H } t v :=
  Rep.subC (g := gc) (g' := { g with H := gc.H }) (fun a o h n => ⟨h, fun z => n (.inl (by rw [e.pv]; exact hidL_mem.mpr z))⟩) t c v r
theorem rep_fwd {t : T} {v : V} (c : closed t = true) (r : Rep K mg g t v) : Rep K mg g.pure t v :=
  Rep.subC (g := g) (g' := g.pure) (fun a o h n => ⟨h, fun z => n (hid_pure (g := g) (H := g.H) |>.mp z)⟩) t c v r
theorem repL_fwd {ts : List T} {vs : List V} (c : closedL ts = true) (r : RepL K mg g ts vs) : RepL K mg g.pure ts vs :=
  RepL.subC (g := g) (g' := g.pure) (fun a o h n => ⟨h, fun z => n (hid_pure (g := g) (H := g.H) |>.mp z)⟩) c r
theorem repX_back {gc : G} (e : Ext g.pure gc) {x : Exc} {cls : Value} {d : Option Addr} (c : closedL x.vs = true) (r : RepX K mg gc x cls d) : RepX K mg { g with H := gc.H } x cls d := by
  obtain ⟨C, da, fs, e1, e2, e3, ⟨h1, n⟩, e4, h2⟩ := r
  have kn : ∀ a o, gc.H a = some o → ¬ gc.hid a → (G.mk g.rho g.h g.pv gc.H).H a = some o ∧ ¬ (G.mk g.rho g.h g.pv gc.H).hid a := fun a o h n => ⟨h, fun z => n (.inl (by rw [e.pv]; exact hidL_mem.mpr z))⟩
  exact ⟨C, da, fs, e1, e2, e3, kn _ _ h1 n, e4, RepL.subC kn c h2⟩
/-! ### promises -/
abbrev MF := List T → MH → R
def wpD (K : PySem.W.Frag) (mg : Str → Option Value) (g : G) (Q : VK) (E : XK) : R → Prop
  | .ok t h' => ∀ g' v, g'.h = h' → Ext g g' → Rel K mg g' → Rep K mg g' t v → Q v g'.H
  | .ex x h' => ∀ g' cls d, g'.h = h' → Ext g g' → Rel K mg g' → RepX K mg g' x cls d → E cls d g'.H
  | .stuck => False
def spM (K : PySem.W.Frag) (mg : Str → Option Value) (n : Nat) (m : MF) : Sp := fun vs H Q E => ∃ g ts, g.H = H ∧ Rel K mg g ∧ RepL K mg g ts vs ∧ ts.length = n ∧ wpD K mg g Q E (m ts g.h)
theorem spM_len {n : Nat} {m : MF} {vs : List V} {H : Hp} {E : XK} (h : spM K mg n m vs H Q E) : vs.length = n := by
  obtain ⟨g, ts, _, _, r, l, _⟩ := h
  rw [← r.length]; exact l
/-- a def's mirror, by its body's -/
def mDef (N : Nat) (mb : MS) : MF := fun ts h => match mb (ts.map some ++ List.replicate (N - ts.length) none) h with
  | .nx _ h1 => .ok .non h1
  | .rt t h1 => .ok t h1
  | .ex x _ h1 => .ex x h1
  | _ => .stuck
theorem repS_start {N : List Str} {ts : List T} {vs : List V} (r : RepL K mg g ts vs) : RepS K mg g (ts.map some ++ List.replicate (N.length - ts.length) none) (L2.start N vs) := by
  unfold L2.start
  refine ⟨by simp only [List.length_append, List.length_map, List.length_replicate, r.length], fun i t h => ?_⟩
  by_cases l : i < ts.length
  · rw [List.getElem?_append_left (by simpa using l)] at h
    rw [List.getElem?_append_left (by rw [List.length_map, ← r.length]; exact l)]
    rw [List.getElem?_map] at h ⊢
    cases q : ts[i]? with
    | none => rw [q] at h; cases h
    | some u =>
      rw [q] at h
      have h : some (some u) = some (some t) := h
      cases h
      obtain ⟨v, e, rv⟩ := r.get q
      exact ⟨v, by rw [e]; rfl, rv⟩
  · rw [List.getElem?_append_right (by simpa using Nat.le_of_not_lt l)] at h
    have := List.mem_of_getElem? h
    simp at this
/-- THE RULE for a def -/
theorem def_ok {P : Program} {w : World} {base : Heap} {x qual : Str} {params : Arguments} {body : List Stmt} {scope : Scope} {dvs : List V} {kws : List (Str × V)} {f : Addr} {fd : FuncData} {N ps : List Str} {k n : Nat} {mb : MS}
    (F : FunD K x qual params body scope dvs kws f fd) (S : FnScope N ps scope) (hn : ps.length = n)
    (hbody : ∀ (cdv : Value) (A : Around) (outer : List Env) (s : Shared) (H : Hp) (E : XK), Room k (A.deeper (envOfC qual scope s.heap.objs.size f cdv)) →
      SSs (cxOf (L2.CX P w) P w K mg base N qual scope f cdv A outer s H E) (fun cls d _ H => E cls d H) body mb) :
    FnOk P w K mg base (L2.CX P w) (k + 1) f fd ps (spM K mg n (mDef N.length mb)) := by
  refine F.ok S (fun vs H Q E h => (spM_len h).trans hn.symm) fun cdv A outer s H vs Q E hr h => ⟨_, hbody cdv A outer s H E hr, ?_⟩
  obtain ⟨g, ts, rfl, R, r, l, h⟩ := h
  refine ⟨g, _, rfl, R, repS_start r, ?_⟩
  unfold mDef at h
  cases q : mb (ts.map some ++ List.replicate (N.length - ts.length) none) g.h with
  | nx s' h' =>
    rw [q] at h
    exact fun g' σ' q1 e R' S' => h g' .non q1 e R' rNon
  | rt t h' => rw [q] at h; exact fun g' v q1 e R' r' => h g' v q1 e R' r'
  | bk s' h' => rw [q] at h; exact h.elim
  | ct s' h' => rw [q] at h; exact h.elim
  | ex y s' h' => rw [q] at h; exact fun g' σ' cls d q1 e R' S' r' => h g' cls d q1 e R' r'
  | stuck => rw [q] at h; exact h.elim
/-- a weaker level -/
theorem FnOk.up {P : Program} {w : World} {K : PySem.W.Frag} {mg : Str → Option Value} {base : Heap} {CX : CXT} {j k : Nat} {f : Addr} {fd : FuncData} {ps : List Str} {sp : Sp} (F : FnOk P w K mg base CX j f fd ps sp) (h : j ≤ k) : FnOk P w K mg base CX k f fd ps sp := F.mono h
/-! ### calls -/
abbrev FnM (X : Cx) (k : Nat) (f : Addr) (fd : FuncData) (ps : List Str) (n : Nat) (m : MF) : Prop := FnOk X.prog X.w X.K X.mg X.base (L2.CX X.prog X.w) k f fd ps (spM X.K X.mg n m)
/-- a call that may change what the caller sees -/
theorem call_st {n : Nat} {m : MF} {ts : List T} {vs : List V} (R : Rel K mg g) (r : RepL K mg g ts vs) (hn : ts.length = n) (h : wpR K mg W g σ Q (m ts g.h)) : spM K mg n m vs g.H Q (WE W σ) := by
  refine ⟨g, ts, rfl, R, r, hn, ?_⟩
  cases q : m ts g.h with
  | ok t h' => rw [q] at h; exact h
  | ex x h' => rw [q] at h; exact h
  | stuck => rw [q] at h; exact h
def pureR (r : R) (h : MH) : R := match r with
  | .ok t _ => if closed t then .ok t h else .stuck
  | .ex x _ => if closedL x.vs then .ex x h else .stuck
  | .stuck => .stuck
def fP (n : Nat) (m : MF) : List T → MH → R := fun ts h => if ts.length = n ∧ closedL ts = true then pureR (m ts []) h else .stuck
def fS (n : Nat) (m : MF) : List T → MH → R := fun ts h => if ts.length = n then m ts h else .stuck
theorem call_pu {n : Nat} {m : MF} {ts : List T} {vs : List V} (R : Rel K mg g) (r : RepL K mg g ts vs) (h : wpR K mg W g σ Q (fP n m ts g.h)) : spM K mg n m vs g.H Q (WE W σ) := by
  unfold fP at h
  split at h
  · rename_i q
    obtain ⟨hn, hc⟩ := q
    refine ⟨g.pure, ts, rfl, R.pure, repL_fwd hc r, hn, ?_⟩
    show wpD K mg g.pure Q (WE W σ) (m ts [])
    unfold pureR at h
    cases q2 : m ts [] with
    | ok t h' =>
      rw [q2] at h
      dsimp only at h
      split at h
      · rename_i ct
        intro gc v _ e _ rv
        obtain ⟨e1, R1⟩ := pure_back R e
        exact h { g with H := gc.H } v rfl e1 R1 (rep_back e ct rv)
      · exact h.elim
    | ex x h' =>
      rw [q2] at h
      dsimp only at h
      split at h
      · rename_i ct
        intro gc cls d _ e _ rv
        obtain ⟨e1, R1⟩ := pure_back R e
        exact h { g with H := gc.H } cls d rfl e1 R1 (repX_back e ct rv)
      · exact h.elim
    | stuck => rw [q2] at h; exact h.elim
  · exact h.elim
/-- how a value is called -/
def Calls2 (X : Cx) (W : WX) (n : Nat) (m : MF) (f : List T → MH → R) : Prop := ∀ g σ ts vs Q, Rel X.K X.mg g → RepL X.K X.mg g ts vs → wpR X.K X.mg W g σ Q (f ts g.h) → spM X.K X.mg n m vs g.H Q (WE W σ)
theorem calls_st {n : Nat} {m : MF} : Calls2 X W n m (fS n m) := fun g σ ts vs Q R r h => by
  unfold fS at h
  split at h
  · rename_i q; exact call_st R r q h
  · exact h.elim
theorem calls_pu {n : Nat} {m : MF} : Calls2 X W n m (fP n m) := fun g σ ts vs Q R r h => call_pu R r h
/-- the defaults that fill up -/
def withD (dts : List T) (f : List T → MH → R) : List T → MH → R := fun ts h => f (ts ++ dts) h
theorem se_call {f : Addr} {fd : FuncData} {ps : List Str} {n k : Nat} {m : MF} {fm : List T → MH → R} {ds : List Value} {dvs : List V} {dts : List T} (F : FnM X k f fd ps n m) (hr : Room k X.A) (tk : Takes X W) (hm : X.mg x = some (.ref f)) (hk : PySem.W.keepIn X.K (.ref f) = true) (hb : Binds X.K fd ps ds) (hd : Vals dvs ds)
    (hdt : ∀ g, RepL X.K X.mg g dts dvs) (cl : Calls2 X W n m fm) (ha : SA X W (e :: es) mr) (hg : Gl X x := by rfl)
    (hdb : (x == ("__debug__" : Str)) = false := by decide) (he : starEach (e :: es) X.env = (false, eval e X.env) :: starEach es X.env := by rfl) (hpl : (backTo pos (starEach es X.env)).any (·.1) = false := by rfl) :
    SE X W (.Call (.Name x p) (e :: es) [] pos) (mA (withD dts fm) mr) := by
  refine weakE (pe_callSD F hr hg hm hk hb hd (fun σ => passAt tk σ) ha hdb he hpl) ?_
  rintro σ H Q ⟨g, s, rfl, R, S, h⟩
  exact ⟨g, s, rfl, R, S, wpL_of h fun g1 ts vs e1 R1 r1 h1 => cl g1 σ (ts ++ dts) (vs ++ dvs) Q R1 (r1.append (hdt g1)) h1⟩
end
end Mi
end part_Mi7
section part_Mi8
set_option maxRecDepth 100000
set_option maxHeartbeats 2000000
/-! Mi, part 8: times, in, chains, f-strings, isinstance, index, live lists, calls by keywords, globals, freezing. -/
namespace Mi
open PySem PySem.Spec PyProof.Rows L2
section
variable {X : Cx} {K : PySem.W.Frag} {mg : Str → Option Value} {W : WX} {g g' : G} {σ : L2.St} {Q : VK} {D : Ends}
variable {a b c e : Expr} {ma mb mc me mt : ME} {mr : MA} {pos p : Pos} {es : List Expr} {x : Str} {m : MS} {sts : List Stmt}
/-! ### times -/
def mulOk (i j : Int) : Bool := (decide (-18446744073709551616 < i) && decide (i < 18446744073709551616)) || (decide (-18446744073709551616 < j) && decide (j < 18446744073709551616))
theorem mulOk_of {i j : Int} (h : mulOk i j = true) : CMul i j := by
  unfold mulOk at h
  simp only [Bool.or_eq_true, Bool.and_eq_true, decide_eq_true_eq] at h
  unfold CMul
  omega
def strMulOk (s : Str) (i : Int) : Bool := decide (s.length ≤ 1000) && decide (-1000 ≤ i) && decide (i ≤ 1000)
theorem op_mul_str : OpR X (binaryOp .Mult) (fun x y H Q => ∃ s i, x = .str s ∧ y = .int i ∧ strMulOk s i = true ∧ Q (.str (Txt.mul s i)) H) := by
  intro pins s σ H x y v u Q I rx ry h
  obtain ⟨z, i, rfl, rfl, hc, q⟩ := h
  obtain ⟨t, rfl⟩ := rx
  obtain ⟨t', rfl⟩ := ry
  unfold strMulOk at hc
  simp only [Bool.and_eq_true, decide_eq_true_eq] at hc
  obtain ⟨⟨h1, h2⟩, h3⟩ := hc
  exact PySem.SB.mul (PyProof.Rows.mulOk_of 1000 1000 h1 (by omega) (by omega) (by omega) (by omega)) fun t' k => ⟨.str _, H, I.tok _, ⟨_, rfl⟩, q⟩
def repOk (xs : List T) (i : Int) : Bool := decide (-1000 ≤ i) && decide (i ≤ 1000) && decide (xs.length ≤ 100)
def fMul : T → T → MH → R := fun t u h => match t, u with
  | .int i, .int j => if mulOk i j then .ok (.int (i * j)) h else .stuck
  | .str s, .int i => if strMulOk s i then .ok (.str (Txt.mul s i)) h else .stuck
  | .lst xs, .int i => if repOk xs i then .ok (.lst (List.replicate i.toNat xs).flatten) h else .stuck
  | _, _ => .stuck
abbrev rMulV : R2 := fun x y H Q => (rI CMul fun i j => .int (i * j)) x y H Q ∨ (fun x y H Q => (∃ s i, x = .str s ∧ y = .int i ∧ strMulOk s i = true ∧ Q (.str (Txt.mul s i)) H) ∨ rRep x y H Q) x y H Q
theorem op_mulV : OpR X (binaryOp .Mult) rMulV := op_mul.or (op_mul_str.or op_rep)
theorem RepL.rep {xs : List T} {vs : List V} (r : RepL K mg g xs vs) : ∀ n : Nat, RepL K mg g (List.replicate n xs).flatten (List.replicate n vs).flatten
  | 0 => RepL.nil
  | n + 1 => by
    rw [List.replicate_succ, List.replicate_succ, List.flatten_cons, List.flatten_cons]
    exact r.append (RepL.rep r n)
theorem mMulV : OpM X fMul rMulV := by
  intro W g σ t u x y Q R r1 r2 h
  unfold fMul at h
  split at h
  · rename_i i j
    rw [rep_int r1, rep_int r2]
    split at h
    · rename_i q; exact .inl ⟨i, j, rfl, rfl, mulOk_of q, wpR_here h R rInt⟩
    · exact h.elim
  · rename_i s i
    rw [rep_str r1, rep_int r2]
    split at h
    · rename_i q; exact .inr (.inl ⟨s, i, rfl, rfl, q, wpR_here h R rStr⟩)
    · exact h.elim
  · rename_i xs i
    rw [rep_int r2]
    obtain ⟨p, vs, rfl, h1, l1⟩ := rep_lst_at r1
    split at h
    · rename_i q
      unfold repOk at q
      simp only [Bool.and_eq_true, decide_eq_true_eq] at q
      obtain ⟨⟨q1, q2⟩, q3⟩ := q
      refine .inr (.inr ⟨p, i, vs, rfl, rfl, h1, by omega, by omega, ?_, fun p' hp => wpR_lst h R (l1.rep _) hp⟩)
      have h1 : vs.length ≤ 100 := by rw [← l1.length]; exact q3
      have h2 : i.toNat ≤ 1000 := by omega
      have := Nat.mul_le_mul h1 h2
      rw [sizeLine_eq]
      omega
    · exact h.elim
  · exact h.elim
/-! ### in -/
def rInDT (K : PySem.W.Frag) (neg : Bool) : R2 := fun x y H Q => ∃ d ds, Dp K H x d ∧ Dp K H y (.tuple ds) ∧ SeqAt.shaped d = true ∧ SeqAt.shaped (.tuple ds) = true ∧ Q (.bl (if neg then !(ds.any fun z => PyData.eqv z d) else ds.any fun z => PyData.eqv z d)) H
theorem op_inDT (hu : X.A.units + 65 < cLine) : OpR X (compareOp .In) (rInDT X.K false) := by
  intro pins s σ H x y v u Q I rx ry h
  obtain ⟨d, ds, hd, he, sd, se, q⟩ := h
  obtain ⟨as, r1⟩ := Dp.reads I d x v hd rx
  obtain ⟨bs, r2⟩ := Dp.reads I (.tuple ds) y u he ry
  exact SeqAt.in_tuple_reads r2 r1 (SeqAt.canLay_of_shaped se) (SeqAt.canLay_of_shaped sd) (room_in_shaped sd hu) ⟨.bl _, H, I, rfl, q⟩
theorem op_notInDT (hu : X.A.units + 65 < cLine) : OpR X (compareOp .NotIn) (rInDT X.K true) := by
  intro pins s σ H x y v u Q I rx ry h
  obtain ⟨d, ds, hd, he, sd, se, q⟩ := h
  obtain ⟨as, r1⟩ := Dp.reads I d x v hd rx
  obtain ⟨bs, r2⟩ := Dp.reads I (.tuple ds) y u he ry
  exact SeqAt.notIn_tuple_reads r2 r1 (SeqAt.canLay_of_shaped se) (SeqAt.canLay_of_shaped sd) (room_in_shaped sd hu) ⟨.bl _, H, I, rfl, q⟩

def strIn (i j : Str) : Bool := match i.cps.toList with
  | [c] => decide (c ∈ j.cps.toList)
  | _ => !(Builtin.Str.occurrences j i 0 j.length 1).isEmpty
theorem strIn_eq (i j : Str) : strIn i j = !(Builtin.Str.occurrences j i 0 j.length 1).isEmpty := by
  unfold strIn
  split
  · rename_i c q
    have e : i = ⟨#[c]⟩ := by
      cases i with | mk z =>
      simp only at q
      congr 1
      exact Array.toList_inj.mp q
    rw [e]
    exact (PySem.StrLaws.found_one j c).symm
  · rfl
def fIn (neg : Bool) : T → T → MH → R := fun t u h => match u with
  | .str y => match t with
    | .str x => .ok (.bl (if neg then !strIn x y else strIn x y)) h
    | _ => .stuck
  | _ => match toD t, seqOf u h with
    | some d, some xs => match toDs xs with
      | some ds => if SeqAt.shaped d && SeqAt.shaped (.list ds) && SeqAt.shaped (.tuple ds) then .ok (.bl (if neg then !(ds.any fun z => PyData.eqv z d) else ds.any fun z => PyData.eqv z d)) h else .stuck
      | none => .stuck
    | _, _ => .stuck
abbrev rInV (K : PySem.W.Frag) (neg : Bool) : R2 := fun x y H Q => (∃ i j, x = .str i ∧ y = .str j ∧ Q (.bl (if neg then !strIn i j else strIn i j)) H) ∨ (fun x y H Q => (if neg then rNotInD K x y H Q else rInD K x y H Q) ∨ rInDT K neg x y H Q) x y H Q
theorem op_inV (hu : X.A.units + 65 < cLine) : OpR X (compareOp .In) (rInV X.K false) := by
  refine OpR.or ?_ ((op_inD hu).or (op_inDT hu))
  intro pins s σ H x y v u Q I rx ry h
  obtain ⟨i, j, e1, e2, q⟩ := h
  exact op_in_str pins s σ H x y v u Q I rx ry ⟨i, j, e1, e2, by rw [← strIn_eq]; exact q⟩
theorem op_notinV (hu : X.A.units + 65 < cLine) : OpR X (compareOp .NotIn) (rInV X.K true) := by
  refine OpR.or ?_ ((op_notInD hu).or (op_notInDT hu))
  intro pins s σ H x y v u Q I rx ry h
  obtain ⟨i, j, e1, e2, q⟩ := h
  exact op_notin_str pins s σ H x y v u Q I rx ry ⟨i, j, e1, e2, by rw [← strIn_eq]; exact q⟩
theorem dp_seq {t : T} {v : V} {xs : List T} {ds : List PyData} (R : Rel K mg g) (r : Rep K mg g t v) (h : seqOf t g.h = some xs) (hd : toDs xs = some ds) : Dp K g.H v (.list ds) ∨ Dp K g.H v (.tuple ds) := by
  obtain ⟨q, vs, rfl, h1, l1⟩ := seq_of R r h
  have z := dpAll_of (fun t _ v d r e => dp_of t v d r e) l1 hd
  rcases h1 with h1 | h1
  · exact .inl (.lst h1 z)
  · exact .inr (.tup h1 z)
theorem mInV {neg : Bool} : OpM X (fIn neg) (rInV X.K neg) := by
  intro W g σ t u x y Q R r1 r2 h
  unfold fIn at h
  split at h
  · rename_i j
    rw [rep_str r2]
    split at h
    · rename_i i
      rw [rep_str r1]
      exact .inl ⟨i, j, rfl, rfl, wpR_here h R rBl⟩
    · exact h.elim
  · split at h
    · rename_i d xs hd hs
      split at h
      · rename_i ds he
        split at h
        · rename_i q
          simp only [Bool.and_eq_true] at q
          obtain ⟨⟨q1, q2⟩, q3⟩ := q
          rcases dp_seq R r2 hs he with z | z
          · refine .inr (.inl ?_)
            cases neg with
            | false => exact ⟨d, ds, dp_of t x d r1 hd, z, q1, q2, wpR_here h R rBl⟩
            | true => exact ⟨d, ds, dp_of t x d r1 hd, z, q1, q2, wpR_here h R rBl⟩
          · exact .inr (.inr ⟨d, ds, dp_of t x d r1 hd, z, q1, q3, wpR_here h R rBl⟩)
        · exact h.elim
      · exact h.elim
    · exact h.elim
/-! ### chains -/
def mChain (f f' : T → T → MH → R) (ma mb mc : ME) : ME := fun s h => (ma s h).bind fun t h1 => (mb s h1).bind fun u h2 => (f t u h2).bind fun k h3 => match k with
  | .bl true => (mc s h3).bind fun w h4 => f' u w h4
  | .bl false => .ok (.bl false) h3
  | _ => .stuck
def BlM (f : T → T → MH → R) : Prop := ∀ t u h, (∃ b, f t u h = .ok (.bl b) h) ∨ f t u h = .stuck
theorem use_chain {f f' : T → T → MH → R} {r r' : R2} (hm : OpM X f r) (hm' : OpM X f' r') (hb : BlM f) {H : Hp} (h : tM X.K X.mg W (mChain f f' ma mb mc) σ H Q) : tChain r r' (tM X.K X.mg W ma) (tM X.K X.mg W mb) (tM X.K X.mg W mc) σ H Q := by
  obtain ⟨g, s, rfl, R, S, h⟩ := h
  refine ⟨g, s, rfl, R, S, wpR_bind h fun g1 t x e1 R1 r1 h1 => ⟨g1, s, rfl, R1, S.mono e1, wpR_bind h1 fun g2 u y e2 R2 r2 h2 => ?_⟩⟩
  refine hm W g2 σ t u x y _ R2 (r1.mono e2) r2 (wpR_bind h2 fun g3 k z e3 R3 r3 h3 => ?_)
  rcases hb t u g2.h with ⟨b, q⟩ | q
  · cases k with
    | bl kb =>
      refine ⟨kb, rep_bl r3, ?_⟩
      cases kb with
      | false => exact wpR_here h3 R3 rBl
      | true =>
        refine ⟨g3, s, rfl, R3, (S.mono (e1.trans e2)).mono e3, ?_⟩
        exact wpR_bind h3 fun g4 w wv e4 R4 r4 h4 => hm' W g4 σ u w y wv Q R4 ((r2.mono e3).mono e4) r4 h4
    | _ => exact h3.elim
  · rw [q] at h2; exact h2.elim
theorem se_chain {op op' : CmpOp} {f f' : T → T → MH → R} {r r' : R2} (ho : OpR X (compareOp op) r) (hm : OpM X f r) (hb' : BlM f) (ho' : OpR X (compareOp op') r') (hm' : OpM X f' r') (ha : SE X W a ma) (hb : SE X W b mb) (hc : SE X W c mc)
    (hk : lastMarks [op, op'] [b, c] = false := by with_unfolding_all rfl) : SE X W (.Compare a [op, op'] [b, c] pos) (mChain f f' ma mb mc) :=
  weakE (pe_chain ho ho' ha hb hc hk) fun _ _ _ h => use_chain hm hm' hb' h
/-! ### f-strings -/
def fFmt : T → MH → R := fun t h => match t with
  | .str y => if y.length ≤ big then .ok (.str y) h else .stuck
  | .int i => if i.natAbs.log2 < 1920 then .ok (.str (toString i)) h else .stuck
  | _ => .stuck
def fFmtR : T → MH → R := fun t h => match t with
  | .str y => if (reprText y).length ≤ big then .ok (.str (reprText y)) h else .stuck
  | .int i => if i.natAbs.log2 < 1920 then .ok (.str (toString i)) h else .stuck
  | _ => .stuck
theorem se_fmt (ha : SE X W a ma) : SE X W (.FormattedValue a (-1) none pos) (m1 fFmt ma) := by
  refine weakE (pe_fmt ha) ?_
  rintro σ H Q ⟨g, s, rfl, R, S, h⟩
  refine ⟨g, s, rfl, R, S, wpR_bind h fun g1 t x e1 R1 r1 h1 => ?_⟩
  unfold fFmt at h1
  split at h1
  · split at h1
    · rename_i q; exact .inl ⟨_, rep_str r1, big_le q, wpR_here h1 R1 rStr⟩
    · exact h1.elim
  · split at h1
    · rename_i q; exact .inr ⟨_, rep_int r1, q, wpR_here h1 R1 rStr⟩
    · exact h1.elim
  · exact h1.elim
theorem se_fmtR (ha : SE X W a ma) : SE X W (.FormattedValue a 114 none pos) (m1 fFmtR ma) := by
  refine weakE (pe_fmtR ha) ?_
  rintro σ H Q ⟨g, s, rfl, R, S, h⟩
  refine ⟨g, s, rfl, R, S, wpR_bind h fun g1 t x e1 R1 r1 h1 => ?_⟩
  unfold fFmtR at h1
  split at h1
  · split at h1
    · rename_i q; exact .inl ⟨_, rep_str r1, big_le q, wpR_here h1 R1 rStr⟩
    · exact h1.elim
  · split at h1
    · rename_i q; exact .inr ⟨_, rep_int r1, q, wpR_here h1 R1 rStr⟩
    · exact h1.elim
  · exact h1.elim
abbrev SJ (X : Cx) (W : WX) (es : List Expr) (ms : List ME) : Prop := PJ X es (ms.map (tM X.K X.mg W))
theorem sj_nil : SJ X W [] [] := .nil
theorem sj_cons {ms : List ME} (h : SE X W e me) (r : SJ X W es ms) : SJ X W (e :: es) (me :: ms) := .cons h r
def fJ (k : Str → ME) (acc : Str) (s : SM) : T → MH → R := fun t h1 => match t with
  | .str y => if (acc ++ y).length ≤ big then k (acc ++ y) s h1 else .stuck
  | _ => .stuck
def mJ : List ME → Str → ME
  | [], acc => fun _ h => .ok (.str acc) h
  | m :: ms, acc => fun s h => (m s h).bind (fJ (mJ ms) acc s)
theorem use_J : ∀ {ms : List ME} {acc : Str} {H : Hp} {Q : VK}, tM K mg W (mJ ms acc) σ H Q → tJs (ms.map (tM K mg W)) acc σ H fun out H1 => Q (.str out) H1
  | [], acc, H, Q, h => by
    obtain ⟨g, s, rfl, R, S, h⟩ := h
    exact wpR_here h R rStr
  | m :: ms, acc, H, Q, h => by
    obtain ⟨g, s, rfl, R, S, h⟩ := h
    refine ⟨g, s, rfl, R, S, wpR_bind h fun g1 t x e1 R1 r1 h1 => ?_⟩
    unfold fJ at h1
    split at h1
    · rename_i y
      split at h1
      · rename_i q; exact ⟨y, rep_str r1, big_le q, use_J ⟨g1, s, rfl, R1, S.mono e1, h1⟩⟩
      · exact h1.elim
    · exact h1.elim
theorem se_fstr {v1 v2 : Expr} {rest : List Expr} {ms : List ME} (h : SJ X W (v1 :: v2 :: rest) ms) : SE X W (.JoinedStr (v1 :: v2 :: rest) pos) (mJ ms Str.empty) :=
  weakE (pe_joined h) fun _ _ _ h => use_J h
theorem se_fstr1 (h : SE X W e me) : SE X W (.JoinedStr [e] pos) me := pe_joined1 h
/-! ### isinstance of a built-in type -/
inductive Ty5 where
  | non | bl | int | str | tup | lst | dct
  deriving DecidableEq
def Ty5.name : Ty5 → String
  | .non => "NoneType"
  | .bl => "bool"
  | .int => "int"
  | .str => "str"
  | .tup => "tuple"
  | .lst => "list"
  | .dct => "dict"
def tyOfT (t : T) (h : MH) : Option Ty5 := match t with
  | .non => some .non
  | .bl _ => some .bl
  | .int _ => some .int
  | .str _ => some .str
  | .tup _ => some .tup
  | .lst _ => some .lst
  | .frl _ => some .lst
  | .dct _ _ => some .dct
  | .obj _ _ _ => none
  | .exn _ _ _ => none
  | .ref i => match h[i]? with
    | some (.lst _) => some .lst
    | some (.dct _ _) => some .dct
    | _ => none
def isi5 (a c : Ty5) : Bool := decide (a = c) || (decide (a = .bl) && decide (c = .int))
theorem isi5_ok (a c : Ty5) : kitB a.name c.name = some (isi5 a c) := by cases a <;> cases c <;> decide +kernel
theorem tyx_of {t : T} {v : V} {a : Ty5} (R : Rel K mg g) (r : Rep K mg g t v) (h : tyOfT t g.h = some a) : TyX K g.H v (.type a.name) := by
  unfold tyOfT at h
  cases t with
  | non => cases h; rw [rep_non r]; exact .base .non
  | bl b => cases h; rw [rep_bl r]; exact .base (.bl b)
  | int b => cases h; rw [rep_int r]; exact .base (.int b)
  | str b => cases h; rw [rep_str r]; exact .base (.str b)
  | tup xs =>
    cases h
    obtain ⟨q, vs, rfl, h1, l1⟩ := r.sqT
    rcases h1 with h1 | ⟨o, its, n, h1, h2, _⟩
    · rcases h1 with h1 | ⟨o, h1⟩
      · exact .base (.tup h1)
      · exact .fTuple h1
    · exact .kTuple h1 h2
  | lst xs =>
    cases h
    obtain ⟨q, vs, rfl, h1, l1⟩ := rep_lst_at r
    exact .base (.lst h1)
  | frl xs =>
    cases h
    obtain ⟨q, vs, rfl, h1, l1⟩ := r.sqF
    rcases h1 with h1 | ⟨o, its, n, h1, h2, _⟩
    · rcases h1 with h1 | ⟨o, h1⟩
      · exact .base (.lst h1)
      · exact .base (.frz h1)
    · exact .kList h1 h2
  | dct ks vs =>
    cases h
    simp only [Rep] at r
    obtain ⟨p, kvs, rfl, ⟨h1, _⟩, _⟩ := r
    exact .base (.dK h1)
  | obj c ns vs => cases h
  | exn c ns vs => cases h
  | ref i =>
    dsimp only at h
    split at h
    · rename_i xs q
      cases h
      obtain ⟨p, vs, rfl, _, h1, _⟩ := R.lst_at r q
      exact .base (.lst h1)
    · rename_i ks vs q
      cases h
      simp only [Rep] at r
      obtain ⟨p, rfl, hp⟩ := r
      obtain ⟨kvs, h1, _⟩ := R.obj i p _ hp q
      exact .base (.dK h1)
    · cases h
def fIsi (c : Ty5) : T → MH → R := fun t h => match tyOfT t h with
  | some a => .ok (.bl (isi5 a c)) h
  | none => .stuck
theorem se_isi {pa pc : Pos} {y : Str} (c : Ty5) (hmi : X.mg "isinstance" = none) (hmc : X.mg y = none) (ha : SE X W a ma) (hg : Gl X "isinstance" := by rfl) (hgc : Gl X y := by rfl) (hv : bootBuiltins y = some (.type c.name) := by decide +kernel)
    (hn : y ≠ "__name__" := by decide) (hdc : (y == ("__debug__" : Str)) = false := by decide)
    (he : starEach [a, .Name y pc] X.env = (false, eval a X.env) :: starEach [.Name y pc] X.env := by rfl) (he2 : starEach [.Name y pc] X.env = [(false, eval (.Name y pc) X.env)] := by rfl) (hpl : (backTo pos (starEach [.Name y pc] X.env)).any (·.1) = false := by rfl) :
    SE X W (.Call (.Name "isinstance" pa) [a, .Name y pc] [] pos) (m1 (fIsi c) ma) := by
  refine weakE (pe_callB (id := "isinstance") call_isi hg hmi (by decide +kernel) (pa_cons ha (pa_cons (pe_bltn hgc hmc hv (v := .ty c.name) rfl hn hdc) pa_nil he2) he) (by decide) (by decide) he hpl) ?_
  rintro σ H Q ⟨g, s, rfl, R, S, h⟩
  refine ⟨g, s, rfl, R, S, wpR_bind h fun g1 t x e1 R1 r1 h1 => ?_⟩
  unfold fIsi at h1
  split at h1
  · rename_i a' q
    exact ⟨x, .ty c.name, .type a'.name, .type c.name, isi5 a' c, rfl, .ty _, tyx_of R1 r1 q, kit_ty (isi5_ok a' c), wpR_here h1 R1 rBl⟩
  · exact h1.elim
end
end Mi
end part_Mi8
section part_Mi9
set_option maxRecDepth 100000
set_option maxHeartbeats 2000000
/-! Mi, part 9: index, live lists, stores, calls by keywords, globals, freezing. -/
namespace Mi
open PySem PySem.Spec PyProof.Rows L2
section
variable {X : Cx} {K : PySem.W.Frag} {mg : Str → Option Value} {W : WX} {g g' : G} {σ : L2.St} {Q : VK} {D : Ends}
variable {a b c e : Expr} {ma mb mc me mt : ME} {mr : MA} {pos p : Pos} {es : List Expr} {x : Str} {m : MS} {sts : List Stmt}
/-! ### l.index(x) -/
def idxD (d : PyData) : List PyData → Option Nat
  | [] => none
  | z :: ds => if PyData.eqv z d then some 0 else (idxD d ds).map (· + 1)
theorem idxD_ok {d : PyData} : ∀ {ds : List PyData} {j : Nat}, idxD d ds = some j → ∃ z, ds[j]? = some z ∧ PyData.eqv z d = true ∧ ∀ (m : Nat) (z' : PyData), m < j → ds[m]? = some z' → PyData.eqv z' d = false
  | [], j, h => by cases h
  | z :: ds, j, h => by
    unfold idxD at h
    split at h
    · rename_i q
      cases h
      exact ⟨z, rfl, q, fun m z' hm => absurd hm (Nat.not_lt_zero _)⟩
    · rename_i q
      cases e : idxD d ds with
      | none => rw [e] at h; cases h
      | some i =>
        rw [e] at h
        cases h
        obtain ⟨y, h1, h2, h3⟩ := idxD_ok e
        refine ⟨y, h1, h2, fun m z' hm hz => ?_⟩
        cases m with
        | zero =>
          cases (show some z = some z' from hz)
          simpa using q
        | succ m => exact h3 m z' (Nat.lt_of_succ_lt_succ hm) hz
def fIndex : T → List T → MH → R := fun t ts h => match ts with
  | [u] => if isTupT t then .stuck else match toD u, seqOf t h with
    | some d, some xs => match toDs xs with
      | some ds => if SeqAt.shaped d && SeqAt.shaped (.list ds) then (match idxD d ds with
        | some j => .ok (.int (j : Nat)) h
        | none => .stuck) else .stuck
      | none => .stuck
    | _, _ => .stuck
  | _ => .stuck
theorem dp_lstOf {t : T} {v : V} {xs : List T} {ds : List PyData} (R : Rel K mg g) (r : Rep K mg g t v) (hT : isTupT t = false) (h : seqOf t g.h = some xs) (hd : toDs xs = some ds) : ∃ q, v = .ref q ∧ Dp K g.H v (.list ds) := by
  have z : ∀ {vs}, RepL K mg g xs vs → DpAll K g.H vs ds := fun l1 => dpAll_of (fun t _ v d r e => dp_of t v d r e) l1 hd
  cases t with
  | tup ys => cases hT
  | lst ys => cases h; obtain ⟨q, vs, e, h1, l1⟩ := r.sqL; exact ⟨q, e, e ▸ .lst h1 (z l1)⟩
  | frl ys => cases h; obtain ⟨q, vs, e, h1, l1⟩ := r.sqF; exact ⟨q, e, e ▸ .lst h1 (z l1)⟩
  | ref i =>
    unfold seqOf at h
    dsimp only at h
    split at h
    · rename_i ys q
      cases h
      obtain ⟨q, vs, e, _, h1, l1⟩ := R.lst_at r q
      exact ⟨q, e, e ▸ .lst (SqL.of h1) (z l1)⟩
    · cases h
  | _ => cases h
theorem meIndex : MeM X fIndex (rIndexD X.K) := by
  intro W g σ t ts x vs Q R r rs h
  unfold fIndex at h
  split at h
  · rename_i u
    obtain ⟨v, rfl, rv⟩ := rs.one
    split at h
    · exact h.elim
    · rename_i hT
      split at h
      · rename_i d xs hd hs
        split at h
        · rename_i ds he
          split at h
          · rename_i q
            simp only [Bool.and_eq_true] at q
            split at h
            · rename_i j hj
              obtain ⟨z, h1, h2, h3⟩ := idxD_ok hj
              obtain ⟨l, rfl, hl⟩ := dp_lstOf R r (by simpa using hT) hs he
              exact ⟨l, v, d, ds, j, z, rfl, rfl, hl, dp_of u v d rv hd, q.2, q.1, h1, h2, h3, wpR_here h R rInt⟩
            · exact h.elim
          · exact h.elim
        · exact h.elim
      · exact h.elim
  · exact h.elim
/-! ### a new changeable list -/
theorem wpR_new {xs : List T} {vs : List V} {p : Addr} (h : wpR K mg W g σ Q (.ok (.ref g.h.length) (g.h ++ [.lst xs]))) (R : Rel K mg g) (r : RepL K mg g xs vs) (hp : g.H p = none) : Q (.ref p) (upd g.H p (.lst vs)) := by
  obtain ⟨g', e1, e2, ex, R', rr⟩ := ref_lay (o := .lst xs) (ho := .lst vs) R hp (fun g2 s2 hq => ⟨vs, hq, r.sub s2⟩) (by intro z; cases z)
  rw [← e1]
  exact h g' _ e2 ex R' rr
def fLstN : List T → MH → R := fun ts h => if ts.length ≤ big then .ok (.ref h.length) (h ++ [.lst ts]) else .stuck
theorem se_lstN {es : List Expr} {mr : MA} (h : SA X W es mr) : SE X W (.List es pos) (mA fLstN mr) := by
  refine weakE (pe_lst h) ?_
  rintro σ H Q ⟨g, s, rfl, R, S, h⟩
  refine ⟨g, s, rfl, R, S, wpL_of h fun g1 ts vs e1 R1 r1 h1 => ?_⟩
  unfold fLstN at h1
  split at h1
  · rename_i q; exact ⟨big_le (by rw [← r1.length]; exact q), fun p hp => wpR_new h1 R1 r1 hp⟩
  · exact h1.elim
/-! ### l[i] = v of a changeable list -/
def gSt (mo mi : ME) : MG := fun t s h => match mo s h with
  | .ok o h1 => match mi s h1 with
    | .ok (.int k) h2 => match liveL o h2 with
      | some (j, xs) => match ixN xs.length k with
        | some n => .ok s (h2.set j (.lst (xs.set n t)))
        | none => .stuck
      | none => .stuck
    | _ => .stuck
  | _ => .stuck
theorem sg_sub {o i : Expr} {mo mi : ME} (ho : SE X W0 o mo) (hi : SE X W0 i mi)
    (ha : ∀ v, assign (.Subscript o i pos) X.env v = (do
      let ov ← holding [v] (eval o X.env)
      let iv ← holding [v, ov] (eval i X.env)
      standAt pos
      holding [v, ov, iv] (setItem ov iv v)
      release [v, ov, iv] []) := by intro _; rfl) : SG X (.Subscript o i pos) [] (gSt mo mi) := by
  refine weakG (pg_sub ho hi set_list ha) ?_
  rintro v σ H Q ⟨g, s, t, rfl, R, S, rv, h⟩
  refine ⟨g, s, rfl, R, S, ?_⟩
  unfold gSt at h
  cases q : mo s g.h with
  | ok to h1 =>
    rw [q] at h
    dsimp only at h
    rintro g1 vo rfl e1 R1 r1
    refine ⟨g1, s, rfl, R1, S.mono e1, ?_⟩
    cases q2 : mi s g1.h with
    | ok ti h2 =>
      rw [q2] at h
      rintro g2 vi rfl e2 R2 r2
      split at h
      · rename_i k _ q3
        cases q3
        split at h
        · rename_i j xs hl
          split at h
          · rename_i n hn
            obtain ⟨pl, vs, rfl, hp, hh, hH, l1⟩ := live_of R2 (r1.mono e2) hl
            have rv2 := (rv.mono e1).mono e2
            refine ⟨pl, vs, k, n, rfl, rep_int r2, hH, by rw [← l1.length]; exact hn, ?_⟩
            obtain ⟨g3, z1, z2, ex, R'⟩ := R2.put (o' := .lst (xs.set n t)) (ho := .lst (vs.set n v)) hp hh (by intro z; cases z) (by intro z; cases z) (fun g4 s4 hq => ⟨_, hq, (l1.sub s4).set n (Rep.sub s4 t v rv2)⟩)
            rw [← z1]
            exact h g3 σ z2 ((e1.trans e2).trans ex) R' (((S.mono e1).mono e2).mono ex) fun _ _ => rfl
          · exact h.elim
        · exact h.elim
      · exact h.elim
    | ex y h2 => rw [q2] at h; exact h.elim
    | stuck => rw [q2] at h; exact h.elim
  | ex y h1 => rw [q] at h; exact h.elim
  | stuck => rw [q] at h; exact h.elim
end
end Mi
end part_Mi9
section part_Mi10
set_option maxRecDepth 100000
set_option maxHeartbeats 2000000
/-! Mi, part 10: freezing, globals, what a def is (Has), calls by position, by keywords. -/
namespace Mi
open PySem PySem.Spec PyProof.Rows L2
section
variable {X : Cx} {K : PySem.W.Frag} {mg : Str → Option Value} {W : WX} {g g' : G} {σ : L2.St} {Q : VK} {D : Ends}
variable {a b c e : Expr} {ma mb mc me mt : ME} {mr mk : MA} {pos p : Pos} {es : List Expr} {x : Str} {m : MS} {st : Stmt} {sts : List Stmt} {kws : List Keyword}
/-! ### freezing -/
theorem frz_g (R : Rel K mg g) {j : Nat} {q : Addr} {o : MO} (h1 : g.rho[j]? = some q) (h2 : g.h[j]? = some o) (h3 : o ≠ MO.dead) :
    let g' : G := ⟨g.rho, g.h.set j .dead, g.pv, g.H⟩
    Ext g g' ∧ Rel K mg g' ∧ ¬ g'.hid q := by
  intro g'
  have hh : ∀ a, g'.hid a → g.hid a := by
    rintro a (z | ⟨i, o', z1, z2, z3⟩)
    · exact .inl z
    · have z2' : (g.h.set j .dead)[i]? = some o' := z2
      by_cases e : j = i
      · subst e
        rw [List.getElem?_set] at z2'
        split at z2'
        · split at z2'
          · cases z2'; exact absurd rfl z3
          · cases z2'
        · rename_i w; exact absurd rfl w
      · rw [List.getElem?_set_ne e] at z2'
        exact .inr ⟨i, o', z1, z2', z3⟩
  have hs : Sub g g' := ⟨fun _ _ h => h, fun a u h n => ⟨h, fun z => n (hh a z)⟩⟩
  refine ⟨⟨hs.rho, rfl, fun _ _ => rfl, hs.keep⟩, ⟨?_, R.inj, R.npv, R.pvt, R.tr, ?_⟩, ?_⟩
  · show g.rho.length = (g.h.set j .dead).length
    rw [List.length_set]; exact R.len
  · intro i a u z1 z2
    have z2' : (g.h.set j .dead)[i]? = some u := z2
    by_cases e : j = i
    · subst e
      rw [List.getElem?_set] at z2'
      split at z2'
      · split at z2'
        · cases z2'; trivial
        · cases z2'
      · rename_i w; exact absurd rfl w
    · rw [List.getElem?_set_ne e] at z2'
      exact (R.obj i a u z1 z2').sub hs fun w hw => hw
  · rintro (z | ⟨i, o', z1, z2, z3⟩)
    · exact R.npv q z (List.mem_of_getElem? h1)
    · have e : i = j := R.inj i j q z1 h1
      subst e
      have z2' : (g.h.set i .dead)[i]? = some o' := z2
      rw [List.getElem?_set] at z2'
      split at z2'
      · split at z2'
        · cases z2'; exact z3 rfl
        · cases z2'
      · rename_i w; exact w rfl
/-- a changeable object as a value, its number dead -/
def fzT (t : T) (h : MH) : T × MH := match t with
  | .ref j => match h[j]? with
    | some (.lst xs) => (.lst xs, h.set j .dead)
    | some (.dct ks vs) => (.dct ks vs, h.set j .dead)
    | some (.ins c ns vs) => (.obj c ns vs, h.set j .dead)
    | _ => (t, h)
  | _ => (t, h)
theorem fz_ok (R : Rel K mg g) {t : T} {v : V} (r : Rep K mg g t v) : ∃ g' : G, g'.H = g.H ∧ g'.h = (fzT t g.h).2 ∧ Ext g g' ∧ Rel K mg g' ∧ Rep K mg g' (fzT t g.h).1 v := by
  unfold fzT
  split
  · rename_i j
    simp only [Rep] at r
    obtain ⟨q, rfl, hq⟩ := r
    split
    · rename_i xs z
      obtain ⟨vs, h1, l1⟩ := R.obj j q _ hq z
      obtain ⟨e, R', n⟩ := frz_g R hq z (by intro w; cases w)
      exact ⟨⟨g.rho, g.h.set j .dead, g.pv, g.H⟩, rfl, rfl, e, R', by simp only [Rep]; exact ⟨q, vs, rfl, ⟨h1, n⟩, l1.mono e⟩⟩
    · rename_i ks ts z
      obtain ⟨kvs, h1, h2, l1⟩ := R.obj j q _ hq z
      obtain ⟨e, R', n⟩ := frz_g R hq z (by intro w; cases w)
      exact ⟨⟨g.rho, g.h.set j .dead, g.pv, g.H⟩, rfl, rfl, e, R', by simp only [Rep]; exact ⟨q, kvs, rfl, ⟨h1, n⟩, h2, l1.mono e⟩⟩
    · rename_i cc ns ts z
      obtain ⟨C, dx, fs, h1, h2, h3, l1⟩ := R.obj j q _ hq z
      obtain ⟨e, R', n⟩ := frz_g R hq z (by intro w; cases w)
      exact ⟨⟨g.rho, g.h.set j .dead, g.pv, g.H⟩, rfl, rfl, e, R', by simp only [Rep]; exact ⟨q, C, dx, fs, rfl, ⟨h1, n⟩, h2, h3, l1.mono e⟩⟩
    · exact ⟨g, rfl, rfl, Ext.refl g, R, by simp only [Rep]; exact ⟨q, rfl, hq⟩⟩
  · exact ⟨g, rfl, rfl, Ext.refl g, R, r⟩
/-- the slot i is frozen ahead -/
def mFz (i : Nat) (m : MS) : MS := fun s h => match s[i]? with
  | some (some t) => m (s.set i (some (fzT t h).1)) (fzT t h).2
  | _ => m s h
theorem sss_fz (i : Nat) (hm : SSs X W sts m) : SSs X W sts (mFz i m) := by
  refine weakSs hm ?_
  rintro D σ H ⟨g, s, rfl, R, S, h⟩
  unfold mFz at h
  split at h
  · rename_i t q
    obtain ⟨v, e1, r⟩ := S.2 i t q
    obtain ⟨g', e2, e3, ex, R', r'⟩ := fz_ok R r
    refine ⟨g', _, e2, R', ?_, by rw [e3]; exact h.ext ex⟩
    have := (S.mono ex).set r' i
    have e4 : σ.set i (some v) = σ := by
      apply List.ext_getElem?
      intro k
      by_cases w : i = k
      · subst w
        rw [List.getElem?_set]
        split
        · split
          · exact e1.symm
          · rename_i w1 w2
            have := (List.getElem?_eq_some_iff.mp e1).1
            exact absurd this w2
        · rename_i w1; exact absurd rfl w1
      · rw [List.getElem?_set_ne w]
    rw [e4] at this
    exact this
  · exact ⟨g, s, rfl, R, S, h⟩
/-- return, the value frozen -/
def mRetF (me : ME) : MS := fun s h => (me s h).toS s fun t h1 => .rt (fzT t h1).1 (fzT t h1).2
theorem ss_retF (he : SE X W e me) : SS X W (.Return (some e) pos) (mRetF me) := by
  refine weakS (ss_ret he) ?_
  rintro D σ H ⟨g, s, rfl, R, S, h⟩
  refine ⟨g, s, rfl, R, S, ?_⟩
  unfold mRetF at h
  unfold mRet
  cases q : me s g.h with
  | ok t h1 =>
    rw [q] at h
    intro g1 v e1 ex R1 r1
    have e1' : g1.h = h1 := e1
    obtain ⟨g', e2, e3, ex', R', r'⟩ := fz_ok R1 r1
    rw [← e2]
    exact h g' v (by rw [e3, e1']) (ex.trans ex') R' (by rw [← e1']; exact r')
  | ex y h1 => rw [q] at h; exact h
  | stuck => rw [q] at h; exact h
/-! ### globals -/
theorem se_glob {t : T} {v : V} {u : Value} (hm : X.mg x = some u) (hr : RelV v u) (r : ∀ g, Rep X.K X.mg g t v) (hg : Gl X x := by rfl) (hd : (x == ("__debug__" : Str)) = false := by decide) : SE X W (.Name x pos) (mC t) :=
  se_c (pe_glob hg hm hr hd) r
/-! ### defs -/
def Has (P : Program) (w : World) (K : PySem.W.Frag) (mg : Str → Option Value) (base : Heap) (k : Nat) (x qual : Str) (st : Stmt) (ps : List Str) (m : MF) : Prop :=
  ∃ (f : Addr) (fd : FuncData), FunD K x qual (defArgs st) (defBody st) (defScope st) [] [] f fd ∧ mg x = some (.ref f) ∧ FnOk P w K mg base (L2.CX P w) k f fd ps (spM K mg ps.length m)
abbrev HasX (X : Cx) := Has X.prog X.w X.K X.mg X.base
theorem Has.up {P : Program} {w : World} {K : PySem.W.Frag} {mg : Str → Option Value} {base : Heap} {j k : Nat} {x qual : Str} {st : Stmt} {ps : List Str} {m : MF} (h : Has P w K mg base j x qual st ps m) (l : j ≤ k) : Has P w K mg base k x qual st ps m := by
  obtain ⟨f, fd, F, hm, ok⟩ := h
  exact ⟨f, fd, F, hm, ok.mono l⟩
abbrev PosB (st : Stmt) (x qual : Str) (ps : List Str) : Prop := ∀ (kV doc pm : Value) (an : Option Addr) (cdv ct : Value) (us : List Value), us.length = ps.length → bindArgs (PySem.W.fnOf x qual (defArgs st) (defBody st) (defScope st) .none kV doc pm an cdv ct) ⟨us, []⟩ = pure (ps.zip us)
/-- THE RULE for a call by position -/
theorem se_hcall {k : Nat} {qual : Str} {st : Stmt} {ps : List Str} {mf : MF} {fm : List T → MH → R} (h : HasX X k x qual st ps mf) (hr : Room k X.A) (tk : Takes X W) (cl : Calls2 X W ps.length mf fm) (hb : PosB st x qual ps) (ha : SA X W (e :: es) mr) (hg : Gl X x := by rfl)
    (hdb : (x == ("__debug__" : Str)) = false := by decide) (he : starEach (e :: es) X.env = (false, eval e X.env) :: starEach es X.env := by rfl) (hpl : (backTo pos (starEach es X.env)).any (·.1) = false := by rfl) :
    SE X W (.Call (.Name x p) (e :: es) [] pos) (mA fm mr) := by
  obtain ⟨f, fd, F, hm, ok⟩ := h
  have := se_call (dts := []) (p := p) (pos := pos) ok hr tk hm F.kp (F.bindsN hb) .nil (fun _ => RepL.nil) cl ha hg hdb he hpl
  have e1 : withD [] fm = fm := by
    funext ts h
    show fm (ts ++ []) h = fm ts h
    rw [List.append_nil]
  rw [e1] at this
  exact this
/-! ### keywords -/
def pick {α : Type} (is : List Nat) (l : List α) : List α := is.filterMap fun i => l[i]?
theorem pick_vals {vs : List V} {us : List Value} (r : Vals vs us) : ∀ is : List Nat, Vals (pick is vs) (pick is us)
  | [] => .nil
  | i :: is => by
    unfold pick
    simp only [List.filterMap_cons]
    have hl := r.length
    by_cases l : i < vs.length
    · rw [List.getElem?_eq_getElem l, List.getElem?_eq_getElem (by omega)]
      refine .cons ?_ (pick_vals r is)
      obtain ⟨u, e, z⟩ := r.get (List.getElem?_eq_getElem l)
      rw [List.getElem?_eq_getElem (by omega)] at e
      cases e
      exact z
    · rw [List.getElem?_eq_none (by omega), List.getElem?_eq_none (by omega)]
      exact pick_vals r is
theorem pick_repL {ts : List T} {vs : List V} (r : RepL K mg g ts vs) : ∀ is : List Nat, RepL K mg g (pick is ts) (pick is vs)
  | [] => RepL.nil
  | i :: is => by
    unfold pick
    simp only [List.filterMap_cons]
    have hl := r.length
    by_cases l : i < ts.length
    · obtain ⟨v, e, z⟩ := r.get (List.getElem?_eq_getElem l)
      rw [List.getElem?_eq_getElem l, e]
      exact RepL.cons z (pick_repL r is)
    · rw [List.getElem?_eq_none (by omega), List.getElem?_eq_none (by omega)]
      exact pick_repL r is
abbrev KwB (st : Stmt) (x qual : Str) (ps : List Str) (n : Nat) (ks : List Str) (is : List Nat) : Prop := ∀ (kV doc pm : Value) (an : Option Addr) (cdv ct : Value) (us ws : List Value), us.length = n → ws.length = ks.length →
  bindArgs (PySem.W.fnOf x qual (defArgs st) (defBody st) (defScope st) .none kV doc pm an cdv ct) ⟨us, ks.zip ws⟩ = pure (ps.zip (pick is (us ++ ws)))
theorem kbn_of {qual : Str} {st : Stmt} {ps ks : List Str} {n : Nat} {is : List Nat} {f : Addr} {fd : FuncData} (F : FunD K x qual (defArgs st) (defBody st) (defScope st) [] [] f fd) (h : KwB st x qual ps n ks is) : KBn K fd ps n ks (fun us ws => pick is (us ++ ws)) (fun vs zs => pick is (vs ++ zs)) := by
  obtain ⟨oc, od, dV, kV, doc, pm, an, cdv, ct, osl, rfl, _, _, hd, _⟩ := F.ex
  rcases hd with ⟨_, rfl⟩ | ⟨z, _⟩
  · exact ⟨fun s us ws _ l1 l2 M A E Q q => by rw [h kV doc pm an cdv ct us ws l1 l2]; exact wpAny_pure q, fun r rz => pick_vals (r.append rz) is⟩
  · exact absurd rfl z
abbrev SK (X : Cx) (W : WX) (kws : List Keyword) (m : MA) : Prop := PK X kws (tMA X.K X.mg W m)
variable {nm : Option Str} {kpos : Pos}
theorem sk_nil : SK X W [] aNil := by
  refine ⟨fun pos pins s σ H Q I h => pk_nil.run pos pins s σ H Q I ?_⟩
  obtain ⟨g, s', rfl, R, S, h⟩ := h
  exact h g [] rfl (Ext.refl g) R RepL.nil
theorem use_cons {H : Hp} {Q : List V → Hp → Prop} (h : tMA K mg W (aCons ma mr) σ H Q) : tCons (tM K mg W ma) (tMA K mg W mr) σ H Q := by
  obtain ⟨g, s, rfl, R, S, h⟩ := h
  refine ⟨g, s, rfl, R, S, ?_⟩
  unfold aCons at h
  cases q : ma s g.h with
  | ok t h1 =>
    rw [q] at h
    intro g1 v e1 ex R1 r1
    refine ⟨g1, s, rfl, R1, S.mono ex, ?_⟩
    dsimp only at h
    rw [e1]
    cases q2 : mr s h1 with
    | ok ts h2 =>
      rw [q2] at h
      intro g2 vs e2 ex2 R2 r2
      exact h g2 (v :: vs) e2 (ex.trans ex2) R2 (RepL.cons (r1.mono ex2) r2)
    | ex x h2 => 
      rw [q2] at h
      exact fun g2 cls d e2 ex2 R2 r2 => h g2 cls d e2 (ex.trans ex2) R2 r2
    | stuck => rw [q2] at h; exact h.elim
  | ex x h1 => rw [q] at h; exact h
  | stuck => rw [q] at h; exact h.elim
theorem sk_cons (ha : SE X W e me) (hr : SK X W kws mk) : SK X W (⟨nm, e, kpos⟩ :: kws) (aCons me mk) :=
  ⟨fun pos pins s σ H Q I h => (pk_cons ha hr).run pos pins s σ H Q I (use_cons h)⟩
def mKw (n nk : Nat) (is : List Nat) (fm : List T → MH → R) (mr mk : MA) : ME := fun s h => (mr s h).bind fun ts h1 => (mk s h1).bind fun us h2 => if ts.length = n ∧ us.length = nk then fm (pick is (ts ++ us)) h2 else .stuck
section
variable {k n : Nat} {f : Addr} {fd : FuncData} {ps ks : List Str} {sp : Sp} {E : L2.St → XK} {gg : List Value → List Value → List Value} {gV : List V → List V → List V} {CX : CXT} {t tk : TA}
theorem run_fnNS {pins : List (Addr × Obj)} {H : Hp} {s : Shared} {us ws : List Value} {vs zs : List V} (F : FnOk X.prog X.w X.K X.mg X.base CX k f fd ps sp) (hr : Room k X.A) (hb : KBn X.K fd ps n ks gg gV) (hx : PassesAt CX X σ (E σ))
    (I : Inv X pins σ H s) (r : Vals vs us) (rz : Vals zs ws) (l1 : vs.length = n) (l2 : zs.length = ks.length) (h : sp (gV vs zs) H Q (E σ)) : wpAny (model X.prog X.w) X.A (call (.ref f) us (ks.zip ws)) (EP X pins σ Q) X.xe s := by
  have r2 := hb.rel r rz
  refine wpAny_call (codeAny_mono (F.run X.A X.stack s H ⟨us, ks.zip ws⟩ (gg us ws) (gV vs zs) Q (E σ) hr I.env0 (hb.to s us ws I.kIn (r.length.symm.trans l1) (rz.length.symm.trans l2)) r2 h) fun r s' hq => ?_)
  cases r with
  | error e => exact hx pins H s e s' I hq
  | ok fl =>
    cases fl with
    | ret u => exact I.after hq
    | next => exact False.elim hq
    | brk => exact False.elim hq
    | cont => exact False.elim hq
def tCallNS (n m : Nat) (sp : Sp) (gV : List V → List V → List V) (E : L2.St → XK) (t tk : TA) : TE := fun σ H Q => t σ H fun vs H1 => tk σ H1 fun zs H2 => vs.length = n ∧ zs.length = m ∧ sp (gV vs zs) H2 Q (E σ)
theorem pe_callNS (F : FnOk X.prog X.w X.K X.mg X.base CX k f fd ps sp) (hr : Room k X.A) (hg : Gl X x) (hm : X.mg x = some (.ref f)) (hk : PySem.W.keepIn X.K (.ref f) = true) (hb : KBn X.K fd ps n ks gg gV) (hx : ∀ σ, PassesAt CX X σ (E σ))
    (ha : PA X (e :: es) t) (hkw : PK X kws tk) (hall : (backToKw pos (keywordEach kws X.env)).all (·.1.isSome) = true) (hks : (backToKw pos (keywordEach kws X.env)).filterMap (·.1) = ks)
    (hdb : (x == ("__debug__" : Str)) = false) (he : starEach (e :: es) X.env = (false, eval e X.env) :: starEach es X.env)
    (hpl : ((backTo pos (starEach (e :: es) X.env)).any (·.1) || (backToKw pos (keywordEach kws X.env)).any (·.1.isNone)) = false) :
    PE X (.Call (.Name x p) (e :: es) kws pos) (tCallNS n ks.length sp gV E t tk) := by
  refine ⟨fun pins s σ H Q I h => ?_⟩
  refine wpAny_Call_Name_kw (ld_glob I hg hm ?_ hdb)
  refine PySem.W.callWith_KW (h₀ := X.base) I.ok.mod.kin hk hall (thn (ha.run pos pins s σ H _ I h) fun us s1 ⟨vs, H1, I1, r, q⟩ => ?_) hpl he
  refine thn (hkw.run pos pins s1 σ H1 _ I1 q) fun ws s2 ⟨zs, H2, I2, rz, l1, l2, q2⟩ => ⟨I2.kIn, ?_⟩
  rw [hks]
  exact run_fnNS F hr hb (hx σ) I2 r rz l1 l2 q2
theorem pe_callNS0 (F : FnOk X.prog X.w X.K X.mg X.base CX k f fd ps sp) (hr : Room k X.A) (hg : Gl X x) (hm : X.mg x = some (.ref f)) (hk : PySem.W.keepIn X.K (.ref f) = true) (hb : KBn X.K fd ps 0 ks gg gV) (hx : ∀ σ, PassesAt CX X σ (E σ))
    (hkw : PK X kws tk) (hall : (backToKw pos (keywordEach kws X.env)).all (·.1.isSome) = true) (hks : (backToKw pos (keywordEach kws X.env)).filterMap (·.1) = ks)
    (hdb : (x == ("__debug__" : Str)) = false)
    (hpl : ((backTo pos (starEach [] X.env)).any (·.1) || (backToKw pos (keywordEach kws X.env)).any (·.1.isNone)) = false) :
    PE X (.Call (.Name x p) [] kws pos) (tCallNS 0 ks.length sp gV E tNil tk) := by
  refine ⟨fun pins s σ H Q I h => ?_⟩
  refine wpAny_Call_Name_kw (ld_glob I hg hm ?_ hdb)
  refine PySem.W.callWith_KW0 (h₀ := X.base) I.ok.mod.kin hk hall ?_ hpl
  refine thn (hkw.run pos pins s σ H _ I h) fun ws s2 ⟨zs, H2, I2, rz, l1, l2, q2⟩ => ⟨I2.kIn, ?_⟩
  rw [hks]
  exact run_fnNS (us := []) (vs := []) F hr hb (hx σ) I2 .nil rz l1 l2 q2
end
theorem wpL_kw {n nk : Nat} {is : List Nat} {mf : MF} {fm : List T → MH → R} {nn : Nat} (cl : Calls2 X W nn mf fm) {ts : List T} {vs : List V} {s : SM} (R : Rel X.K X.mg g) (S : RepS X.K X.mg g s σ) (r : RepL X.K X.mg g ts vs)
    (h : wpR X.K X.mg W g σ Q ((mk s g.h).bind fun us h2 => if ts.length = n ∧ us.length = nk then fm (pick is (ts ++ us)) h2 else .stuck)) :
    tMA X.K X.mg W mk σ g.H fun zs H2 => vs.length = n ∧ zs.length = nk ∧ spM X.K X.mg nn mf (pick is (vs ++ zs)) H2 Q (WE W σ) := by
  refine ⟨g, s, rfl, R, S, wpL_of h fun g2 us zs e2 R2 r2 h2 => ?_⟩
  split at h2
  · rename_i q
    exact ⟨r.length.symm.trans q.1, r2.length.symm.trans q.2, cl g2 σ _ _ Q R2 (pick_repL ((r.mono e2).append r2) is) h2⟩
  · exact h2.elim
theorem se_hkw {k n : Nat} {qual : Str} {st : Stmt} {ps ks : List Str} {is : List Nat} {mf : MF} {fm : List T → MH → R} (h : HasX X k x qual st ps mf) (hr : Room k X.A) (tk : Takes X W) (cl : Calls2 X W ps.length mf fm) (hb : KwB st x qual ps n ks is) (ha : SA X W (e :: es) mr) (hkw : SK X W kws mk) (hg : Gl X x := by rfl)
    (hall : (backToKw pos (keywordEach kws X.env)).all (·.1.isSome) = true := by rfl) (hks : (backToKw pos (keywordEach kws X.env)).filterMap (·.1) = ks := by rfl)
    (hdb : (x == ("__debug__" : Str)) = false := by decide) (he : starEach (e :: es) X.env = (false, eval e X.env) :: starEach es X.env := by rfl)
    (hpl : ((backTo pos (starEach (e :: es) X.env)).any (·.1) || (backToKw pos (keywordEach kws X.env)).any (·.1.isNone)) = false := by rfl) :
    SE X W (.Call (.Name x p) (e :: es) kws pos) (mKw n ks.length is fm mr mk) := by
  obtain ⟨f, fd, F, hm, ok⟩ := h
  refine weakE (pe_callNS ok hr hg hm F.kp (kbn_of F hb) (fun σ => passAt tk σ) ha hkw hall hks hdb he hpl) ?_
  rintro σ H Q ⟨g, s, rfl, R, S, h⟩
  exact ⟨g, s, rfl, R, S, wpL_of h fun g1 ts vs e1 R1 r1 h1 => wpL_kw cl R1 (S.mono e1) r1 h1⟩
theorem se_hkw0 {k : Nat} {qual : Str} {st : Stmt} {ps ks : List Str} {is : List Nat} {mf : MF} {fm : List T → MH → R} (h : HasX X k x qual st ps mf) (hr : Room k X.A) (tk : Takes X W) (cl : Calls2 X W ps.length mf fm) (hb : KwB st x qual ps 0 ks is) (hkw : SK X W kws mk) (hg : Gl X x := by rfl)
    (hall : (backToKw pos (keywordEach kws X.env)).all (·.1.isSome) = true := by rfl) (hks : (backToKw pos (keywordEach kws X.env)).filterMap (·.1) = ks := by rfl)
    (hdb : (x == ("__debug__" : Str)) = false := by decide)
    (hpl : ((backTo pos (starEach [] X.env)).any (·.1) || (backToKw pos (keywordEach kws X.env)).any (·.1.isNone)) = false := by rfl) :
    SE X W (.Call (.Name x p) [] kws pos) (mKw 0 ks.length is fm aNil mk) := by
  obtain ⟨f, fd, F, hm, ok⟩ := h
  refine weakE (pe_callNS0 ok hr hg hm F.kp (kbn_of F hb) (fun σ => passAt tk σ) hkw hall hks hdb hpl) ?_
  rintro σ H Q ⟨g, s, rfl, R, S, h⟩
  exact wpL_kw (ts := []) cl R S RepL.nil h
end
end Mi
end part_Mi10
section part_Mi11
set_option maxRecDepth 100000
set_option maxHeartbeats 2000000
/-! Mi, part 11: small things for printed walks. -/
namespace Mi
open PySem PySem.Spec PyProof.Rows L2
theorem hu65 {k : Nat} {A : Around} (r : Room k A) : A.units + 65 < cLine := by have := r.un; omega
theorem blCmp {fi : Int → Int → Bool} {fs : List Nat → List Nat → Bool} : BlM (fCmp fi fs) := fun t u h => by
  unfold fCmp
  split
  · exact .inl ⟨_, rfl⟩
  · exact .inl ⟨_, rfl⟩
  · exact .inr rfl
theorem blLt : BlM fLt := blCmp
theorem blLe : BlM fLe := blCmp
theorem blGt : BlM fGt := blCmp
theorem blGe : BlM fGe := blCmp
theorem blEq : BlM fEq := fun t u h => by
  unfold fEq with2
  repeat' split
  all_goals first | exact .inl ⟨_, rfl⟩ | exact .inr rfl
theorem blNe : BlM fNe := fun t u h => by
  unfold fNe with2
  repeat' split
  all_goals first | exact .inl ⟨_, rfl⟩ | exact .inr rfl
theorem blIs {neg : Bool} : BlM (fIs neg) := fun t u h => by
  unfold fIs
  repeat' split
  all_goals first | exact .inl ⟨_, rfl⟩ | exact .inr rfl
theorem blIn {neg : Bool} : BlM (fIn neg) := fun t u h => by
  unfold fIn
  repeat' split
  all_goals first | exact .inl ⟨_, rfl⟩ | exact .inr rfl
/-- nothing is promised -/
theorem fnOk_stuck {P : Program} {w : World} {K : PySem.W.Frag} {mg : Str → Option Value} {base : Heap} {x qual : Str} {params : Arguments} {body : List Stmt} {scope : Scope} {dvs : List V} {kws : List (Str × V)} {f : Addr} {fd : FuncData} {N ps : List Str} {k : Nat}
    (F : FunD K x qual params body scope dvs kws f fd) (S : FnScope N ps scope) : FnOk P w K mg base (L2.CX P w) (k + 1) f fd ps (spM K mg ps.length fun _ _ => .stuck) :=
  F.ok S (fun vs H Q E h => spM_len h) fun cdv A outer s H vs Q E hr h => by
    obtain ⟨g, ts, _, _, _, _, h⟩ := h
    exact h.elim
theorem blkOk_at {X : Cx} {N : List Str} {sc scope : Scope} {own : List (Str × Nat)} (hN : X.N = N) (hs : X.env.scope = sc) (h : blkC N sc scope own = true) : BlkOk X.N X.env.scope scope own := by
  subst hN hs
  exact blkOk_by h
/-- def_ok, what every body wants at hand -/
theorem def_ok2 {P : Program} {w : World} {K : PySem.W.Frag} {mg : Str → Option Value} {base : Heap} {x qual : Str} {params : Arguments} {body : List Stmt} {scope : Scope} {dvs : List V} {kws : List (Str × V)} {f : Addr} {fd : FuncData} {N ps : List Str} {k n : Nat} {mb : MS}
    (F : FunD K x qual params body scope dvs kws f fd) (S : FnScope N ps scope) (hn : ps.length = n)
    (hbody : ∀ (cdv : Value) (A : Around) (outer : List Env) (s : Shared) (H : Hp) (E : XK), Room k (A.deeper (envOfC qual scope s.heap.objs.size f cdv)) →
      Takes (cxOf (L2.CX P w) P w K mg base N qual scope f cdv A outer s H E) (fun cls d _ H => E cls d H) →
      PassesOwn (model P w) (A.deeper (envOfC qual scope s.heap.objs.size f cdv)) (envOfC qual scope s.heap.objs.size f cdv) (cxOf (L2.CX P w) P w K mg base N qual scope f cdv A outer s H E).xe →
      SSs (cxOf (L2.CX P w) P w K mg base N qual scope f cdv A outer s H E) (fun cls d _ H => E cls d H) body mb) :
    FnOk P w K mg base (L2.CX P w) (k + 1) f fd ps (spM K mg n (mDef N.length mb)) :=
  def_ok F S hn fun cdv A outer s H E hr => hbody cdv A outer s H E hr (takes_of rfl rfl rfl rfl) (passes_of rfl)
end Mi
end part_Mi11
section part_Mi12
set_option maxRecDepth 100000
set_option maxHeartbeats 2000000
/-! Mi, part 12: constants of the module, the law's promise, the head's facts. -/
namespace Mi
open PySem PySem.Spec PyProof.Rows L2
/-! the value u, read in K, is the tree t -/
mutual
def kT (K : PySem.W.Frag) : T → Value → Bool
  | .non, .none => true
  | .bl b, .bool c => decide (b = c)
  | .int i, .int j _ => decide (i = j)
  | .str x, .str y _ => decide (x = y)
  | .tup xs, .ref a => match K.lookup a with
    | some ⟨.type c, _, .seq its _, _⟩ => decide (c = "tuple") && (decide (its.size ≤ sizeLine) && kTs K xs its.toList)
    | _ => false
  | .frl xs, .ref a => match K.lookup a with
    | some ⟨.type c, none, .seq its _, _⟩ => decide (c = "list") && (decide (its.size ≤ sizeLine) && kTs K xs its.toList)
    | _ => false
  | _, _ => false
def kTs (K : PySem.W.Frag) : List T → List Value → Bool
  | [], [] => true
  | t :: ts, u :: us => kT K t u && kTs K ts us
  | _, _ => false
end
def kV (K : PySem.W.Frag) (x : Str) (t : T) : Bool := match PySem.W.nsIn K mainGlobals x with
  | some (some u) => kT K t u
  | _ => false
theorem bb {a b : Bool} (h : (a && b) = true) : a = true ∧ b = true := Bool.and_eq_true_iff.mp h
theorem kTs_of {K : PySem.W.Frag} {mg : Str → Option Value} : ∀ {ts : List T} {us : List Value}, (∀ t ∈ ts, ∀ u, kT K t u = true → ∃ v, RelV v u ∧ ∀ g, Rep K mg g t v) → kTs K ts us = true → ∃ vs, Vals vs us ∧ ∀ g, RepL K mg g ts vs
  | [], [], _, _ => ⟨[], .nil, fun _ => RepL.nil⟩
  | [], _ :: _, _, h => by simp [kTs] at h
  | _ :: _, [], _, h => by simp [kTs] at h
  | t :: ts, u :: us, f, h => by
    simp only [kTs] at h
    obtain ⟨h1, h2⟩ := bb h
    obtain ⟨v, r, q⟩ := f t List.mem_cons_self u h1
    obtain ⟨vs, rs, qs⟩ := kTs_of (fun t ht => f t (List.mem_cons_of_mem _ ht)) h2
    exact ⟨v :: vs, .cons r rs, fun g => RepL.cons (q g) (qs g)⟩
theorem kT_of {K : PySem.W.Frag} {mg : Str → Option Value} : ∀ (t : T) (u : Value), kT K t u = true → ∃ v, RelV v u ∧ ∀ g, Rep K mg g t v := by
  intro t
  induction t using T.ind with
  | non => intro u h; cases u <;> first | exact ⟨.non, rfl, fun g => rNon⟩ | (simp [kT] at h)
  | bl b => intro u h; cases u <;> first | (simp [kT] at h; subst h; exact ⟨.bl _, rfl, fun g => rBl⟩) | (simp [kT] at h)
  | int i => intro u h; cases u <;> first | (simp [kT] at h; subst h; exact ⟨.int _, ⟨_, rfl⟩, fun g => rInt⟩) | (simp [kT] at h)
  | str x => intro u h; cases u <;> first | (simp [kT] at h; subst h; exact ⟨.str _, ⟨_, rfl⟩, fun g => rStr⟩) | (simp [kT] at h)
  | tup xs ih =>
    intro u h
    cases u with
    | ref a =>
      simp only [kT] at h
      split at h
      · rename_i c dd its n sl q
        obtain ⟨h1, h2⟩ := bb h
        obtain ⟨h2, h3⟩ := bb h2
        obtain ⟨vs, rs, qs⟩ := kTs_of ih h3
        refine ⟨.ref a, rfl, fun g => ?_⟩
        simp only [Rep]
        exact ⟨a, vs, rfl, .inr ⟨_, its, n, q, congrArg Value.type (of_decide_eq_true h1), rfl, of_decide_eq_true h2, rs⟩, qs g⟩
      · cases h
    | _ => simp [kT] at h
  | lst xs ih => intro u h; cases u <;> simp [kT] at h
  | frl xs ih =>
    intro u h
    cases u with
    | ref a =>
      simp only [kT] at h
      split at h
      · rename_i c its n sl q
        obtain ⟨h1, h2⟩ := bb h
        obtain ⟨h2, h3⟩ := bb h2
        obtain ⟨vs, rs, qs⟩ := kTs_of ih h3
        refine ⟨.ref a, rfl, fun g => ?_⟩
        simp only [Rep]
        exact ⟨a, vs, rfl, .inr ⟨_, its, n, q, congrArg Value.type (of_decide_eq_true h1), rfl, rfl, of_decide_eq_true h2, rs⟩, qs g⟩
      · cases h
    | _ => simp [kT] at h
  | dct ks vs _ _ => intro u h; cases u <;> simp [kT] at h
  | obj c ns vs _ => intro u h; cases u <;> simp [kT] at h
  | ref i => intro u h; cases u <;> simp [kT] at h
  | exn c ns vs _ => intro u h; cases u <;> simp [kT] at h
abbrev GlobAt (K : PySem.W.Frag) (mg : Str → Option Value) (x : Str) (t : T) : Prop := ∃ (v : V) (u : Value), mg x = some u ∧ RelV v u ∧ ∀ g, Rep K mg g t v
theorem kV_of {K : PySem.W.Frag} {mg : Str → Option Value} {h : Heap} {x : Str} {t : T} (X : K.In h) (G : h.Ns mainGlobals mg) (e : kV K x t = true) : GlobAt K mg x t := by
  unfold kV at e
  split at e
  · rename_i u q
    obtain ⟨v, r, z⟩ := kT_of t u e
    exact ⟨v, u, PySem.W.mg_of X G q, r, z⟩
  · cases e
/-- the law's promise -/
theorem law_sp {K : PySem.W.Frag} {mg : Str → Option Value} {m : MF} {ns : List Int} {H : Hp} {a : Addr} (hm : ∃ h', m [.frl (ns.map T.int)] [] = .ok (.bl true) h') (hO : Only H) (hS : SqL K H a (ns.map V.int)) :
    spM K mg 1 m [.ref a] H (fun v _ => v = .bl true) (fun _ _ _ => False) := by
  obtain ⟨h', e⟩ := hm
  refine ⟨⟨[], [], [], H⟩, [.frl (ns.map T.int)], rfl, ⟨rfl, fun i j a h => by simp at h, fun a h => by simp at h, fun a h => by simp at h, fun i a h => by simp at h, fun i a o h => by simp at h⟩, RepL.cons ?_ RepL.nil, rfl, ?_⟩
  · have nh : ¬ G.hid ⟨[], [], [], H⟩ a := by
      rintro (z | ⟨i, o, z, _⟩)
      · simp at z
      · simp at z
    simp only [Rep]
    refine ⟨a, ns.map V.int, rfl, ?_, RepL.ints ns⟩
    rcases hS with (hS | hS) | hS
    · rcases hO a with z | ⟨o, xs, z⟩
      · have hS' : H a = some (HO.lst (ns.map V.int)) := hS
        rw [z] at hS'; cases hS'
      · have hS' : H a = some (HO.lst (ns.map V.int)) := hS
        rw [z] at hS'; cases hS'
    · exact .inl ⟨hS, nh⟩
    · exact .inr hS
  · rw [e]
    exact fun g' v _ _ _ r => rep_bl r
/-- a def without exceptions -/
theorem fnOk_nox {P : Program} {w : World} {K : PySem.W.Frag} {mg : Str → Option Value} {base : Heap} {k : Nat} {f : Addr} {fd : FuncData} {ps : List Str} {sp : Sp} (F : FnOk P w K mg base (L2.CX P w) k f fd ps sp) :
    FnOk P w K mg base CX0 k f fd ps (fun vs H Q _ => sp vs H Q fun _ _ _ => False) :=
  ⟨fun vs H Q E q => F.len vs H Q _ q, fun A outer s H args us vs Q E hr he hb hv hs => codeAny_mono (F.run A outer s H args us vs Q _ hr he hb hv hs) fun r s' hq => by
    cases r with
    | ok fl => cases fl <;> exact hq
    | error e =>
      obtain ⟨_, _, _, _, _, _, _, _, _, _, _, _, z⟩ := hq
      exact z.elim⟩
theorem funD_one {K : PySem.W.Frag} {x qual : Str} {params : Arguments} {body : List Stmt} {scope : Scope} {dvs dvs' : List V} {kws kws' : List (Str × V)} {f : Addr} {fd fd' : FuncData} (F : FunD K x qual params body scope dvs kws f fd) (F' : FunD K x qual params body scope dvs' kws' f fd') : fd = fd' := by
  obtain ⟨_, _, _, _, _, _, _, _, _, _, rfl, h, _⟩ := F.ex
  obtain ⟨_, _, _, _, _, _, _, _, _, _, rfl, h', _⟩ := F'.ex
  rw [h] at h'
  injection h' with h'
  injection h' with _ _ h' _
  injection h'
/-- the law's def, as the head wants it -/
theorem law_at {P : Program} {w : World} {K : PySem.W.Frag} {mg : Str → Option Value} {base : Heap} {k : Nat} {x qual : Str} {st : Stmt} {ps : List Str} {m : MF} {f : Addr} {fd : FuncData} (F : FunD K x qual (defArgs st) (defBody st) (defScope st) [] [] f fd) (hm : mg x = some (.ref f)) (h : Has P w K mg base k x qual st ps m) :
    FnOk P w K mg base CX0 k f fd ps (fun vs H Q _ => spM K mg ps.length m vs H Q fun _ _ _ => False) := by
  obtain ⟨f', fd', F', hm', ok⟩ := h
  cases hm.symm.trans hm'
  cases funD_one F F'
  exact fnOk_nox ok
/-! ### the head's facts -/
theorem says_d {fa : List He.Fa} {fn : List He.DefD} {ex : PySem.W.Frag → Bool} {w : World} {h : Heap} {K : PySem.W.Frag} (c : He.SaysX fa fn [] [] ex w h K) : He.SaysD fa fn K := congrArg Prod.fst c.t
end Mi
end part_Mi12
section part_Mi13
set_option maxRecDepth 100000
set_option maxHeartbeats 2000000
/-! Mi, part 13: two roads to one expression; objects: made, read, written, their methods. -/
namespace Mi
open PySem PySem.Spec PyProof.Rows L2
section
variable {X : Cx} {K : PySem.W.Frag} {mg : Str → Option Value} {W : WX} {g g' : G} {σ : L2.St} {Q : VK} {D : Ends}
variable {a b c e : Expr} {ma mb mc me mt m1' m2' : ME} {mr mk : MA} {pos p apos : Pos} {es : List Expr} {x : Str} {m m' : MS} {st : Stmt} {sts : List Stmt} {kws : List Keyword}
/-! ### alternatives -/
def R.orElse (r r' : R) : R := match r with
  | .stuck => r'
  | r => r
def mAlt (ma mb : ME) : ME := fun s h => (ma s h).orElse (mb s h)
theorem se_alt (ha : SE X W e ma) (hb : SE X W e mb) : SE X W e (mAlt ma mb) := by
  refine ⟨fun pins s σ H Q I h => ?_⟩
  obtain ⟨g, t, e1, R, S, h⟩ := h
  unfold mAlt at h
  cases q : ma t g.h with
  | ok u h1 => rw [q] at h; exact ha.run pins s σ H Q I ⟨g, t, e1, R, S, by rw [q]; exact h⟩
  | ex y h1 => rw [q] at h; exact ha.run pins s σ H Q I ⟨g, t, e1, R, S, by rw [q]; exact h⟩
  | stuck => rw [q] at h; exact hb.run pins s σ H Q I ⟨g, t, e1, R, S, h⟩
theorem st_alt (ha : ST X W e ma) (hb : ST X W e mb) : ST X W e (mAlt ma mb) := by
  refine ⟨fun pins s σ H Q I h => ?_⟩
  obtain ⟨g, t, e1, R, S, h⟩ := h
  unfold mAlt at h
  cases q : ma t g.h with
  | ok u h1 => rw [q] at h; exact ha.run pins s σ H Q I ⟨g, t, e1, R, S, by rw [q]; exact h⟩
  | ex y h1 => rw [q] at h; exact ha.run pins s σ H Q I ⟨g, t, e1, R, S, by rw [q]; exact h⟩
  | stuck => rw [q] at h; exact hb.run pins s σ H Q I ⟨g, t, e1, R, S, h⟩
/-! ### the attributes of an object -/
def fldOf (f : Str) : List Str → List T → Option T
  | n :: ns, t :: ts => if n = f then some t else fldOf f ns ts
  | _, _ => none
def putOf (f : Str) (y : T) : List Str → List T → List Str × List T
  | n :: ns, t :: ts => if n = f then (n :: ns, y :: ts) else (n :: (putOf f y ns ts).1, t :: (putOf f y ns ts).2)
  | _, _ => ([f], [y])
/-- class, names, values of an object, changeable or not -/
def objOf (t : T) (h : MH) : Option (Str × List Str × List T) := match t with
  | .obj c ns ts => some (c, ns, ts)
  | .ref i => match h[i]? with
    | some (.ins c ns ts) => some (c, ns, ts)
    | _ => none
  | _ => none
theorem obj_of {t : T} {v : V} {c : Str} {ns : List Str} {ts : List T} (R : Rel K mg g) (r : Rep K mg g t v) (h : objOf t g.h = some (c, ns, ts)) :
    ∃ p C dx fs, v = .ref p ∧ g.H p = some (.ins C dx fs) ∧ mg c = some (.ref C) ∧ fs.map (·.1) = ns ∧ RepL K mg g ts (fs.map (·.2)) := by
  unfold objOf at h
  cases t with
  | obj c' ns' ts' =>
    cases h
    simp only [Rep] at r
    obtain ⟨p, C, dx, fs, e1, ⟨h1, _⟩, e2, e3, h2⟩ := r
    exact ⟨p, C, dx, fs, e1, h1, e2, e3, h2⟩
  | ref i =>
    dsimp only at h
    split at h
    · rename_i c' ns' ts' q
      cases h
      simp only [Rep] at r
      obtain ⟨p, rfl, hp⟩ := r
      obtain ⟨C, dx, fs, h1, h2, h3, h4⟩ := R.obj i p _ hp q
      exact ⟨p, C, dx, fs, rfl, h1, h2, h3, h4⟩
    · cases h
  | _ => cases h
theorem fld_of {f : Str} : ∀ {ns : List Str} {ts : List T} {fs : List (Str × V)} {t : T}, fs.map (·.1) = ns → RepL K mg g ts (fs.map (·.2)) → fldOf f ns ts = some t → ∃ v, fs.lookup f = some v ∧ Rep K mg g t v
  | [], ts, fs, t, _, _, h => by simp [fldOf] at h
  | n :: ns, [], fs, t, _, _, h => by simp [fldOf] at h
  | n :: ns, u :: ts, [], t, e, _, _ => by cases e
  | n :: ns, u :: ts, (k, y) :: fs, t, e, r, h => by
    rw [List.map_cons] at e r
    injection e with e1 e2
    have e1 : k = n := e1
    subst e1
    simp only [RepL] at r
    obtain ⟨v, w, q, r1, r2⟩ := r
    injection q with q1 q2
    subst q1 q2
    unfold fldOf at h
    split at h
    · rename_i z
      subst z
      cases h
      exact ⟨y, by simp [List.lookup_cons], r1⟩
    · rename_i z
      obtain ⟨v', h1, h2⟩ := fld_of e2 r2 h
      exact ⟨v', by rw [List.lookup_cons]; simp [show (f == k) = false from beq_eq_false_iff_ne.mpr (Ne.symm z), h1], h2⟩
theorem put_of {f : Str} {y : T} {w : V} (rw' : Rep K mg g y w) : ∀ {ns : List Str} {ts : List T} {fs : List (Str × V)}, fs.map (·.1) = ns → RepL K mg g ts (fs.map (·.2)) →
    (putF f w fs).map (·.1) = (putOf f y ns ts).1 ∧ RepL K mg g (putOf f y ns ts).2 ((putF f w fs).map (·.2))
  | [], ts, [], _, r => ⟨rfl, RepL.cons rw' RepL.nil⟩
  | [], ts, _ :: _, e, _ => by cases e
  | _ :: _, _, [], e, _ => by cases e
  | n :: ns, [], (k, z) :: fs, _, r => by
    have := r.length
    simp at this
  | n :: ns, u :: ts, (k, z) :: fs, e, r => by
    rw [List.map_cons] at e r
    injection e with e1 e2
    have e1 : k = n := e1
    subst e1
    simp only [RepL] at r
    obtain ⟨v, w', q, r1, r2⟩ := r
    injection q with q1 q2
    subst q1 q2
    obtain ⟨h1, h2⟩ := put_of rw' e2 r2
    unfold putF putOf
    by_cases c : k = f
    · rw [if_pos c, if_pos c]
      exact ⟨by rw [List.map_cons, e2], RepL.cons rw' r2⟩
    · rw [if_neg c, if_neg c]
      exact ⟨by rw [List.map_cons, h1], RepL.cons r1 h2⟩
def fFld (cs : List Str) (f : Str) : T → MH → R := fun t h => match objOf t h with
  | some (c, ns, ts) => if cs.contains c then (match fldOf f ns ts with
    | some u => .ok u h
    | none => .stuck) else .stuck
  | none => .stuck
/-- what the classes must be for their attributes to be read plainly -/
def FldC (K : PySem.W.Frag) (mg : Str → Option Value) (cs : List Str) (f : Str) : Prop := ∀ c ∈ cs, ∀ C, mg c = some (.ref C) → Cls K C ∧ NoAttr K C f
theorem se_fld {cs : List Str} {f : Str} (hC : FldC X.K X.mg cs f) (ha : SE X W a ma) (hb : attributeBase a f X.env (eval a X.env) = eval a X.env := by rfl) : SE X W (.Attribute a f pos) (m1 (fFld cs f) ma) := by
  refine weakE (pe_fld ha hb) ?_
  rintro σ H Q ⟨g, s, rfl, R, S, h⟩
  refine ⟨g, s, rfl, R, S, wpR_bind h fun g1 t v e1 R1 r1 h1 => ?_⟩
  unfold fFld at h1
  split at h1
  · rename_i cc ns ts q
    split at h1
    · rename_i hc
      split at h1
      · rename_i u hu
        obtain ⟨p, C, dx, fs, rfl, hp, hm, e3, l1⟩ := obj_of R1 r1 q
        obtain ⟨w, h2, r2⟩ := fld_of e3 l1 hu
        obtain ⟨c1, c2⟩ := hC cc (by simpa using hc) C hm
        exact ⟨p, C, dx, fs, w, rfl, hp, c1, c2, h2, wpR_here h1 R1 r2⟩
      · exact h1.elim
    · exact h1.elim
  · exact h1.elim
/-- o.f = v of a changeable object -/
def mFldS (cs : List Str) (f : Str) (mo mv : ME) : MS := fun s h => (mv s h).toS s fun y h1 => (mo s h1).toS s fun o h2 => match o with
  | .ref i => match h2[i]? with
    | some (.ins c ns ts) => if cs.contains c && decide (ns.length < 900) then .nx s (h2.set i (.ins c (putOf f y ns ts).1 (putOf f y ns ts).2)) else .stuck
    | _ => .stuck
  | _ => .stuck
theorem ss_fld {cs : List Str} {f : Str} {pos' : Pos} (hC : FldC X.K X.mg cs f) (ha : SE X W a ma) (hb : SE X W b mb) (hs : swapsWith b (some (.Attribute a f pos')) pos.line X.env = pure false := by rfl) : SS X W (.Assign [.Attribute a f pos'] b pos) (mFldS cs f ma mb) := by
  refine weakS (ps_fld ha hb hs) ?_
  rintro D σ H ⟨g, s, rfl, R, S, h⟩
  refine ⟨g, s, rfl, R, S, wpS_bind S h fun g1 y w e1 R1 r1 h1 => ⟨g1, s, rfl, R1, S.mono e1, wpS_bind (S.mono e1) h1 fun g2 o v e2 R2 r2 h2 => ?_⟩⟩
  cases o with
  | ref i =>
    dsimp only at h2
    split at h2
    · rename_i cc ns ts q
      split at h2
      · rename_i z
        rw [Bool.and_eq_true, decide_eq_true_eq] at z
        simp only [Rep] at r2
        obtain ⟨p, rfl, hp⟩ := r2
        obtain ⟨C, dx, fs, hH, hm, e3, l1⟩ := R2.obj i p _ hp q
        obtain ⟨c1, c2⟩ := hC cc (by simpa using z.1) C hm
        have hl : fs.length < 1000 := by
          have e4 : fs.length = ns.length := by rw [← e3, List.length_map]
          omega
        refine ⟨p, C, dx, fs, rfl, hH, c1, c2, hl, ?_⟩
        have ry := r1.mono e2
        obtain ⟨g3, z1, z2, ex, R'⟩ := R2.put (o' := .ins cc (putOf f y ns ts).1 (putOf f y ns ts).2) (ho := .ins C dx (putF f w fs)) hp q (by intro z; cases z) (by intro z; cases z) (fun g4 s4 hq => by
          obtain ⟨k1, k2⟩ := put_of (Rep.sub s4 y w ry) e3 (l1.sub s4)
          exact ⟨C, dx, _, hq, hm, k1, k2⟩)
        rw [← z1]
        exact h2 g3 σ z2 ex R' (((S.mono e1).mono e2).mono ex)
      · exact h2.elim
    · exact h2.elim
  | _ => exact h2.elim
end
end Mi
end part_Mi13
section part_Mi14
set_option maxRecDepth 100000
set_option maxHeartbeats 2000000
/-! Mi, part 14: defs with defaults; methods, instances made, by position and by keywords. -/
namespace Mi
open PySem PySem.Spec PyProof.Rows L2
/-! ### what a def object is -/
structure FnH (P : Program) (w : World) (K : PySem.W.Frag) (mg : Str → Option Value) (base : Heap) (k : Nat) (x qual : Str) (st : Stmt) (ps : List Str) (dts : List T) (m : MF) (f : Addr) (fd : FuncData) (dvs : List V) : Prop where
  F : FunD K x qual (defArgs st) (defBody st) (defScope st) dvs [] f fd
  dl : dvs.length = dts.length
  dr : ∀ g, RepL K mg g dts dvs
  ok : FnOk P w K mg base (L2.CX P w) k f fd ps (spM K mg ps.length m)
theorem FnH.up {P : Program} {w : World} {K : PySem.W.Frag} {mg : Str → Option Value} {base : Heap} {j k : Nat} {x qual : Str} {st : Stmt} {ps : List Str} {dts : List T} {m : MF} {f : Addr} {fd : FuncData} {dvs : List V} (h : FnH P w K mg base j x qual st ps dts m f fd dvs) (l : j ≤ k) : FnH P w K mg base k x qual st ps dts m f fd dvs := ⟨h.F, h.dl, h.dr, h.ok.mono l⟩
/-- a def of the module -/
def HasG (P : Program) (w : World) (K : PySem.W.Frag) (mg : Str → Option Value) (base : Heap) (k : Nat) (x qual : Str) (st : Stmt) (ps : List Str) (dts : List T) (m : MF) : Prop :=
  ∃ f fd dvs, mg x = some (.ref f) ∧ FnH P w K mg base k x qual st ps dts m f fd dvs
/-- a method of the class -/
def HasM (P : Program) (w : World) (K : PySem.W.Frag) (mg : Str → Option Value) (base : Heap) (k : Nat) (c x qual : Str) (st : Stmt) (ps : List Str) (dts : List T) (m : MF) : Prop :=
  ∃ C f fd dvs, mg c = some (.ref C) ∧ Cls K C ∧ Meth K C x f ∧ FnH P w K mg base k x qual st ps dts m f fd dvs
/-- its __init__ -/
def HasI (P : Program) (w : World) (K : PySem.W.Frag) (mg : Str → Option Value) (base : Heap) (k : Nat) (c qual : Str) (st : Stmt) (ps : List Str) (dts : List T) (m : MF) : Prop :=
  ∃ C f fd dvs, mg c = some (.ref C) ∧ Mk K C f ∧ FnH P w K mg base k "__init__" qual st ps dts m f fd dvs
/-- a property -/
def HasP (P : Program) (w : World) (K : PySem.W.Frag) (mg : Str → Option Value) (base : Heap) (k : Nat) (c x qual : Str) (st : Stmt) (m : MF) : Prop :=
  ∃ C p f fd dvs, mg c = some (.ref C) ∧ Cls K C ∧ PropOf K C x p f ∧ FnH P w K mg base k x qual st ["self"] [] m f fd dvs
/-- n values are written, the defaults behind the first j fill up -/
def PosD (st : Stmt) (x qual : Str) (ps : List Str) (nd n j : Nat) : Prop := ∀ (dV kV doc pm : Value) (an : Option Addr) (cdv ct : Value) (us its : List Value), us.length = n → its.length = nd →
  if nd = 0 then bindArgs (PySem.W.fnOf x qual (defArgs st) (defBody st) (defScope st) .none kV doc pm an cdv ct) ⟨us, []⟩ = pure (ps.zip us)
  else ∀ T, ∃ k, bindArgs (PySem.W.fnOf x qual (defArgs st) (defBody st) (defScope st) (.ref T) kV doc pm an cdv ct) ⟨us, []⟩ = seqItems? (.ref T) >>= k ∧ k (some its.toArray) = pure (ps.zip (us ++ its.drop j))
section
variable {X : Cx} {K : PySem.W.Frag} {mg : Str → Option Value} {W : WX} {g g' : G} {σ : L2.St} {Q : VK} {D : Ends}
variable {a b c e : Expr} {ma mb mc me mt : ME} {mr mk : MA} {pos p apos : Pos} {es : List Expr} {x : Str} {kws : List Keyword}
theorem posD_binds {qual : Str} {st : Stmt} {ps : List Str} {dts : List T} {m : MF} {f : Addr} {fd : FuncData} {dvs : List V} {P : Program} {w : World} {base : Heap} {k n j : Nat} (h : FnH P w K mg base k x qual st ps dts m f fd dvs) (hb : PosD st x qual ps dts.length n j) (hn : n + (dts.length - j) = ps.length) :
    ∃ ds, Vals (dvs.drop j) ds ∧ Binds K fd ps ds := by
  by_cases z : dts.length = 0
  · have hd : dvs = [] := List.eq_nil_of_length_eq_zero (h.dl.trans z)
    have F := h.F
    subst hd
    refine ⟨[], by simp; exact .nil, F.bindsN fun kV doc pm an cdv ct us hl => ?_⟩
    have := hb .none kV doc pm an cdv ct us [] (by omega) z.symm
    rw [if_pos z] at this
    exact this
  · have hd : dvs ≠ [] := fun e => z (by rw [← h.dl, e]; rfl)
    refine h.F.binds1 n j hd (by rw [h.dl]; exact hn) fun T kV doc pm an cdv ct us its hl hi => ?_
    have := hb .none kV doc pm an cdv ct us its hl (by rw [hi, h.dl])
    rw [if_neg z] at this
    exact this T
theorem repL_drop {ts : List T} {vs : List V} (r : RepL K mg g ts vs) (j : Nat) : RepL K mg g (ts.drop j) (vs.drop j) := r.drop j
/-! ### the callee runs -/
section
variable {CX : CXT} {k : Nat} {f C : Addr} {fd : FuncData} {ps ks : List Str} {sp : Sp} {E : XK} {dvs vs zs : List V} {ds us ws : List Value} {pins : List (Addr × Obj)} {H : Hp} {s : Shared}
theorem code_at {A : Around} {args : Args} (F : FnOk X.prog X.w X.K X.mg X.base CX k f fd ps sp) (hr : Room k A) (e0 : Env0 X.prog X.w X.K X.mg X.base A X.stack s H) (hx : PassesAt CX X σ E) (I : Inv X pins σ H s) (hb : BindsTo s fd args (ps.zip us)) (r : Vals vs us) (h : sp vs H Q E) :
    codeAny (model X.prog X.w) A (.call (.ref f) args) (fun r s' => match r with | .ok (.ret u) => EP X pins σ Q u s' | .ok _ => False | .error e => X.xe e s') s := by
  refine codeAny_mono (F.run A X.stack s H args us vs Q E hr e0 hb r h) fun q s' hq => ?_
  cases q with
  | error e => exact hx pins H s e s' I hq
  | ok fl => cases fl with
    | ret u => exact I.after hq
    | _ => exact hq.elim
theorem run_at {args : Args} (F : FnOk X.prog X.w X.K X.mg X.base CX k f fd ps sp) (hr : Room k X.A) (hx : PassesAt CX X σ E) (I : Inv X pins σ H s) (hb : BindsTo s fd args (ps.zip us)) (r : Vals vs us) (h : sp vs H Q E) :
    wpAny (model X.prog X.w) X.A (call (.ref f) args.pos args.kw) (EP X pins σ Q) X.xe s := by
  refine wpAny_call (codeAny_mono (code_at F hr I.env0 hx I hb r h) fun q s' hq => ?_)
  cases q with
  | error e => exact hq
  | ok fl => cases fl <;> exact hq
/-- an instance is made: the binds are told at every heap -/
theorem make_at (M : Mk X.K C f) (F : FnOk X.prog X.w X.K X.mg X.base CX k f fd ps sp) (hr : Room (k + 1) X.A) (hx : PassesAt CX X σ E) (I : Inv X pins σ H s) (g : Value → List Value) (gV : V → List V) (kw : List (Str × Value))
    (hb : ∀ (s' : Shared) (u : Value), X.K.In s'.heap → BindsTo s' fd ⟨u :: us, kw⟩ (ps.zip (g u))) (r : ∀ (x : V) (u : Value), RelV x u → Vals (gV x) (g u))
    (h : ∀ x dx, H x = none → H dx = none → dx ≠ x → sp (gV (.ref x)) (upd (upd H dx (.own x)) x (.ins C dx [])) (fun v H2 => v = .non ∧ Q (.ref x) H2) E) :
    wpAny (model X.prog X.w) X.A (call (.ref C) us kw) (EP X pins σ Q) X.xe s := by
  have hq := h (s.heap.objs.size + 1) s.heap.objs.size (I.hok.fresh (Nat.le_succ _)) (I.hok.fresh (Nat.le_refl _)) (Nat.ne_of_lt (Nat.lt_succ_self _))
  have I2 := Inv.made (C := C) I
  have z := code_at F (hr.make C us kw) (I2.env0.make C us kw) hx I2 (hb _ (Value.ref (s.heap.objs.size + 1)) I2.kIn) (r (V.ref (s.heap.objs.size + 1)) _ rfl) hq
  refine wpAny_call (make_map (f := f) I.kIn M.makes M.init (beq_iff_eq.mp M.fn) (codeAny_mono z fun q s' hq' => ?_))
  cases q with
  | error e => exact hq'
  | ok fl => cases fl with
    | ret u =>
      obtain ⟨v, H', I3, rv, ev, q3⟩ := hq'
      subst ev
      exact ⟨rv, ⟨V.ref (s.heap.objs.size + 1), H', I3, rfl, q3⟩⟩
    | _ => exact hq'.elim
end
end
end Mi
end part_Mi14
section part_Mi15
set_option maxRecDepth 100000
set_option maxHeartbeats 2000000
/-! Mi, part 15: the rules for methods, instances, properties, defs with defaults. -/
namespace Mi
open PySem PySem.Spec PyProof.Rows L2
section
variable {X : Cx} {K : PySem.W.Frag} {mg : Str → Option Value} {W : WX} {g g' : G} {σ : L2.St} {Q : VK} {D : Ends}
variable {a b e : Expr} {ma mb mc me mt : ME} {mr mk : MA} {pos p apos : Pos} {es : List Expr} {c x : Str} {kws : List Keyword}
variable {k n j : Nat} {qual : Str} {st : Stmt} {ps ks : List Str} {dts : List T} {mf : MF} {fm : List T → MH → R}
abbrev HasMX (X : Cx) := HasM X.prog X.w X.K X.mg X.base
abbrev HasIX (X : Cx) := HasI X.prog X.w X.K X.mg X.base
abbrev HasGX (X : Cx) := HasG X.prog X.w X.K X.mg X.base
abbrev HasPX (X : Cx) := HasP X.prog X.w X.K X.mg X.base
def isOf (c m : Str) (t : T) (h : MH) : Bool := match objOf t h with
  | some (c', ns, _) => decide (c' = c) && !ns.contains m
  | none => false
theorem lookup_no {m : Str} : ∀ {fs : List (Str × V)}, m ∉ fs.map (·.1) → fs.lookup m = none
  | [], _ => rfl
  | (k, y) :: fs, h => by
    rw [List.map_cons, List.mem_cons] at h
    rw [List.lookup_cons, show (m == k) = false from beq_eq_false_iff_ne.mpr fun z => h (.inl z)]
    exact lookup_no fun z => h (.inr z)
theorem isOf_at {t : T} {v : V} {m : Str} (R : Rel K mg g) (r : Rep K mg g t v) (h : isOf c m t g.h = true) : ∃ p C dx fs, v = .ref p ∧ g.H p = some (.ins C dx fs) ∧ mg c = some (.ref C) ∧ fs.lookup m = none := by
  unfold isOf at h
  split at h
  · rename_i c' ns ts q
    obtain ⟨p, C, dx, fs, e1, h1, h2, h3, _⟩ := obj_of R r q
    rw [Bool.and_eq_true, decide_eq_true_eq] at h
    obtain ⟨z1, z2⟩ := h
    subst z1
    refine ⟨p, C, dx, fs, e1, h1, h2, ?_⟩
    have z3 : m ∉ fs.map (·.1) := by
      rw [h3]
      simpa using z2
    exact lookup_no z3
  · cases h
/-- o.m(e, ..) -/
def mMeth (c m : Str) (dts : List T) (fm : List T → MH → R) (mo : ME) (mr : MA) : ME := fun s h => (mo s h).bind fun t h1 => if isOf c m t h1 then (mr s h1).bind fun ts h2 => fm (t :: (ts ++ dts)) h2 else .stuck
theorem se_meth {pl : Sem Bool} (Hm : HasMX X k c x qual st ps dts mf) (hr : Room k X.A) (tk : Takes X W) (cl : Calls2 X W ps.length mf fm) (hb : PosD st x qual ps dts.length n j) (hn : n + (dts.length - j) = ps.length) (ho : SE X W a ma) (ha : SA X W (e :: es) mr)
    (hst : starEach (e :: es) X.env = (false, eval e X.env) :: starEach es X.env := by rfl) (hpl : (backTo pos (starEach es X.env)).any (·.1) = false := by rfl)
    (ht : eval (.Call (.Attribute a x apos) (e :: es) [] pos) X.env = (do
      let ov ← eval a X.env
      standAt apos.atName
      let (f, first) ← holding [ov] (getMethod ov x pl)
      callWith pos f first (backTo pos (starEach (e :: es) X.env)) (backToKw pos (keywordEach [] X.env))) := by rfl) :
    SE X W (.Call (.Attribute a x apos) (e :: es) [] pos) (mMeth c x (dts.drop j) fm ma mr) := by
  obtain ⟨C, f, fd, dvs, hC, hcl, hme, hf⟩ := Hm
  obtain ⟨ds, hd, hbs⟩ := posD_binds hf hb hn
  refine ⟨fun pins s σ H Q I h => ?_⟩
  obtain ⟨g, s0, rfl, R, S, h⟩ := h
  refine PySem.W.methodCall_KW (pl := pl) (thn (ho.run pins s σ g.H _ I ⟨g, s0, rfl, R, S, wpR_bind (Q := Q) h (Q' := fun v H1 => ∃ g1 t, g1.H = H1 ∧ Ext g g1 ∧ Rel X.K X.mg g1 ∧ Rep X.K X.mg g1 t v ∧ wpR X.K X.mg W g1 σ Q (if isOf c x t g1.h then (mr s0 g1.h).bind fun ts h2 => fm (t :: (ts ++ dts.drop j)) h2 else .stuck)) fun g1 t v e1 R1 r1 h1 => ⟨g1, t, rfl, e1, R1, r1, h1⟩⟩)
    fun u s1 ⟨v, H1, I1, rv, g1, t, eH, e1, R1, r1, h1⟩ => ?_) ht
  subst eH
  split at h1
  · rename_i q
    obtain ⟨p1, C1, dx, fs, rfl, hp, hc1, hl⟩ := isOf_at R1 r1 q
    have z : C1 = C := by rw [hC] at hc1; cases hc1; rfl
    subst z
    cases (show u = Value.ref p1 from rv)
    refine getmeth_ok I1 hp hcl hme hl ?_
    refine PySem.W.callWith_K (first := [.ref p1]) (h₀ := X.base) I1.ok.mod.kin hme.kp (thn (ha.run pos pins s1 σ g1.H _ I1 ⟨g1, s0, rfl, R1, S.mono e1, wpL_of h1 (Q' := fun vs H2 => spM X.K X.mg ps.length mf (V.ref p1 :: (vs ++ dvs.drop j)) H2 Q (WE W σ)) fun g2 ts vs e2 R2 r2 h2 => ?_⟩) fun us s2 ⟨vs, H2, I2, r2, q2⟩ => ⟨I2.kIn, ?_⟩) hst hpl
    · exact cl g2 σ (t :: (ts ++ dts.drop j)) (V.ref p1 :: (vs ++ dvs.drop j)) Q R2 (RepL.cons (r1.mono e2) (r2.append ((hf.dr g2).drop j))) h2
    · have rr : Vals (V.ref p1 :: (vs ++ dvs.drop j)) (Value.ref p1 :: (us ++ ds)) := .cons rfl (r2.append hd)
      have hl2 : ((Value.ref p1 :: us) ++ ds).length = ps.length := by
        have := spM_len q2
        rw [← this]
        exact rr.length.symm
      exact run_at (args := ⟨Value.ref p1 :: us, []⟩) hf.ok hr (passAt tk σ) I2 (hbs s2 (Value.ref p1 :: us) I2.kIn hl2) rr q2
  · exact h1.elim
/-- o.m() -/
theorem se_meth0 {pl : Sem Bool} (Hm : HasMX X k c x qual st ps dts mf) (hr : Room k X.A) (tk : Takes X W) (cl : Calls2 X W ps.length mf fm) (hb : PosD st x qual ps dts.length n j) (hn : n + (dts.length - j) = ps.length) (ho : SE X W a ma)
    (ht : eval (.Call (.Attribute a x apos) [] [] pos) X.env = (do
      let ov ← eval a X.env
      standAt apos.atName
      let (f, first) ← holding [ov] (getMethod ov x pl)
      callWith pos f first (backTo pos (starEach [] X.env)) (backToKw pos (keywordEach [] X.env))) := by rfl) :
    SE X W (.Call (.Attribute a x apos) [] [] pos) (mMeth c x (dts.drop j) fm ma aNil) := by
  obtain ⟨C, f, fd, dvs, hC, hcl, hme, hf⟩ := Hm
  obtain ⟨ds, hd, hbs⟩ := posD_binds hf hb hn
  refine ⟨fun pins s σ H Q I h => ?_⟩
  obtain ⟨g, s0, rfl, R, S, h⟩ := h
  refine PySem.W.methodCall_KW (pl := pl) (thn (ho.run pins s σ g.H _ I ⟨g, s0, rfl, R, S, wpR_bind (Q := Q) h (Q' := fun v H1 => ∃ g1 t, g1.H = H1 ∧ Ext g g1 ∧ Rel X.K X.mg g1 ∧ Rep X.K X.mg g1 t v ∧ wpR X.K X.mg W g1 σ Q (if isOf c x t g1.h then (aNil s0 g1.h).bind fun ts h2 => fm (t :: (ts ++ dts.drop j)) h2 else .stuck)) fun g1 t v e1 R1 r1 h1 => ⟨g1, t, rfl, e1, R1, r1, h1⟩⟩)
    fun u s1 ⟨v, H1, I1, rv, g1, t, eH, e1, R1, r1, h1⟩ => ?_) ht
  subst eH
  split at h1
  · rename_i q
    obtain ⟨p1, C1, dx, fs, rfl, hp, hc1, hl⟩ := isOf_at R1 r1 q
    have z : C1 = C := by rw [hC] at hc1; cases hc1; rfl
    subst z
    cases (show u = Value.ref p1 from rv)
    refine getmeth_ok I1 hp hcl hme hl ?_
    have q2 := cl g1 σ (t :: ([] ++ dts.drop j)) (V.ref p1 :: dvs.drop j) Q R1 (RepL.cons r1 ((hf.dr g1).drop j)) h1
    have rr : Vals (V.ref p1 :: dvs.drop j) (Value.ref p1 :: ds) := .cons rfl hd
    have hl2 : ([Value.ref p1] ++ ds).length = ps.length := by
      have := spM_len q2
      rw [← this]
      exact rr.length.symm
    exact PySem.W.callWith_K0 (first := [.ref p1]) I1.kIn hme.kp (run_at (args := ⟨[Value.ref p1], []⟩) hf.ok hr (passAt tk σ) I1 (hbs s1 [Value.ref p1] I1.kIn hl2) rr q2)
  · exact h1.elim
/-! ### C(e, ..) -/
/-- made; frz: the object is a value from now on -/
def fMk (frz : Bool) (c : Str) (mf : MF) (dts : List T) : List T → MH → R := fun ts h => match mf (.ref h.length :: (ts ++ dts)) (h ++ [.ins c [] []]) with
  | .ok .non h2 => if frz then .ok (fzT (.ref h.length) h2).1 (fzT (.ref h.length) h2).2 else .ok (.ref h.length) h2
  | .ex y h2 => .ex y h2
  | _ => .stuck
theorem make_use {frz : Bool} {C x1 dx : Addr} {ts dt : List T} {vs dv : List V} {nn : Nat} (R : Rel K mg g) (r : RepL K mg g ts vs) (rd : ∀ g, RepL K mg g dt dv) (hC : mg c = some (.ref C)) (hx : g.H x1 = none) (hdx : g.H dx = none) (ne : dx ≠ x1) (hn : (ts ++ dt).length + 1 = nn)
    (h : wpR K mg W g σ Q (fMk frz c mf dt ts g.h)) : spM K mg nn mf (.ref x1 :: (vs ++ dv)) (upd (upd g.H dx (.own x1)) x1 (.ins C dx [])) (fun v H2 => v = .non ∧ Q (.ref x1) H2) (WE W σ) := by
  have e0 : Ext g (g.lay dx (.own x1)) := lay_ext R hdx
  have R0 : Rel K mg (g.lay dx (.own x1)) := R.lay hdx
  have hx0 : (g.lay dx (.own x1)).H x1 = none := by
    show upd g.H dx (.own x1) x1 = none
    rw [upd_ne (Ne.symm ne)]; exact hx
  obtain ⟨g1, e1, e2, ex, R1, rr⟩ := ref_lay (o := .ins c [] []) (ho := .ins C dx []) R0 hx0 (fun g2 s2 hq => ⟨C, dx, [], hq, hC, rfl, RepL.nil⟩) (by intro z; cases z)
  refine ⟨g1, .ref g.h.length :: (ts ++ dt), e1, R1, RepL.cons rr ((((r.mono e0).mono ex)).append (rd g1)), by rw [List.length_cons]; exact hn, ?_⟩
  have e3 : g1.h = g.h ++ [.ins c [] []] := e2
  rw [e3]
  unfold fMk at h
  have eg : Ext g g1 := e0.trans ex
  cases q : mf (.ref g.h.length :: (ts ++ dt)) (g.h ++ [.ins c [] []]) with
  | ok t h2 =>
    rw [q] at h
    cases t with
    | non =>
      intro g' v eh eg' R' rv
      have eh : g'.h = h2 := eh
      refine ⟨rep_non rv, ?_⟩
      have rx : Rep K mg g' (.ref g.h.length) (.ref x1) := rr.mono eg'
      dsimp only at h
      cases frz with
      | false => exact h g' (.ref x1) eh (eg.trans eg') R' rx
      | true =>
        obtain ⟨g'', z1, z2, z3, z4, z5⟩ := fz_ok R' rx
        rw [← z1]
        rw [if_pos rfl] at h
        exact h g'' (.ref x1) (by rw [z2, eh]) ((eg.trans eg').trans z3) z4 (by rw [← eh]; exact z5)
    | _ => exact h.elim
  | ex y h2 =>
    rw [q] at h
    exact fun g' cls d eh eg' R' rx => h g' cls d eh (eg.trans eg') R' rx
  | stuck => rw [q] at h; exact h.elim
def fMkN (nn : Nat) (f : List T → MH → R) : List T → MH → R := fun ts h => if ts.length = nn then f ts h else .stuck
theorem se_make {frz : Bool} (Hi : HasIX X k c qual st ps dts mf) (hr : Room (k + 1) X.A) (tk : Takes X W) (hb : PosD st "__init__" qual ps dts.length n j) (hn : n + (dts.length - j) = ps.length) (h1n : 1 ≤ n) (ha : SA X W (e :: es) mr) (hg : Gl X c := by rfl)
    (hdb : (c == ("__debug__" : Str)) = false := by decide) (he : starEach (e :: es) X.env = (false, eval e X.env) :: starEach es X.env := by rfl) (hpl : (backTo pos (starEach es X.env)).any (·.1) = false := by rfl) :
    SE X W (.Call (.Name c p) (e :: es) [] pos) (mA (fMkN (n - 1) (fMk frz c mf (dts.drop j))) mr) := by
  obtain ⟨C, f, fd, dvs, hC, M, hf⟩ := Hi
  obtain ⟨ds, hd, hbs⟩ := posD_binds hf hb hn
  refine ⟨fun pins s σ H Q I h => ?_⟩
  obtain ⟨g, s0, rfl, R, S, h⟩ := h
  refine wpAny_Call_Name_kw (ld_glob I hg hC ?_ hdb)
  refine PySem.W.callWith_K (h₀ := X.base) I.ok.mod.kin M.kp (thn (ha.run pos pins s σ g.H _ I ⟨g, s0, rfl, R, S, wpL_of h (Q' := fun vs H1 => vs.length = n - 1 ∧ ∀ x1 dx, H1 x1 = none → H1 dx = none → dx ≠ x1 → spM X.K X.mg ps.length mf (.ref x1 :: (vs ++ dvs.drop j)) (upd (upd H1 dx (.own x1)) x1 (.ins C dx [])) (fun v H2 => v = .non ∧ Q (.ref x1) H2) (WE W σ)) fun g1 ts vs e1 R1 r1 h1 => ?_⟩) fun us s1 ⟨vs, H1, I1, r, hv, q⟩ => ⟨I1.kIn, ?_⟩) he hpl
  · unfold fMkN at h1
    split at h1
    · rename_i hl
      refine ⟨r1.length.symm.trans hl, fun x1 dx hx hdx ne => make_use R1 r1 (fun g => (hf.dr g).drop j) hC hx hdx ne ?_ h1⟩
      rw [List.length_append, hl, List.length_drop]
      omega
    · exact h1.elim
  · have hl : us.length = n - 1 := r.length.symm.trans hv
    refine make_at M hf.ok hr (passAt tk σ) I1 (fun u => u :: (us ++ ds)) (fun x => x :: (vs ++ dvs.drop j)) [] (fun s' u ki => hbs s' (u :: us) ki ?_) (fun x u rx => .cons rx (r.append hd)) q
    have h5 := hd.length
    have h6 := hf.dl
    rw [List.length_append, List.length_cons, hl, ← h5, List.length_drop, h6]
    omega
end
end Mi
end part_Mi15
section part_Mi16
set_option maxRecDepth 100000
set_option maxHeartbeats 2000000
/-! Mi, part 16: len, repr, str, in, == of own classes. -/
namespace Mi
open PySem PySem.Spec PyProof.Rows L2
section
variable {X : Cx} {K : PySem.W.Frag} {mg : Str → Option Value} {W : WX} {g g' : G} {σ : L2.St} {Q : VK} {D : Ends}
variable {a b e : Expr} {ma mb mc me mt : ME} {mr mk : MA} {pos p apos : Pos} {es : List Expr} {c x : Str}
variable {k n j : Nat} {qual : Str} {st : Stmt} {ps ks : List Str} {dts : List T} {mf : MF} {fm : List T → MH → R}
/-- an instance of the class -/
def isCls (c : Str) (t : T) (h : MH) : Bool := match objOf t h with
  | some (c', _, _) => decide (c' = c)
  | none => false
theorem isCls_at {t : T} {v : V} (R : Rel K mg g) (r : Rep K mg g t v) (h : isCls c t g.h = true) : ∃ p C dx fs, v = .ref p ∧ g.H p = some (.ins C dx fs) ∧ mg c = some (.ref C) := by
  unfold isCls at h
  split at h
  · rename_i c' ns ts q
    obtain ⟨p, C, dx, fs, e1, h1, h2, h3, _⟩ := obj_of R r q
    rw [decide_eq_true_eq] at h
    subst h
    exact ⟨p, C, dx, fs, e1, h1, h2⟩
  · cases h
/-- the method runs one step below the body -/
theorem run_in1 {A : Around} {f : Addr} {fd : FuncData} {dvs : List V} {pins : List (Addr × Obj)} {s : Shared} {us : List Value} {vs : List V} {H : Hp} (hf : FnH X.prog X.w X.K X.mg X.base k x qual st ps [] mf f fd dvs) (hr : Room k A) (e0 : Env0 X.prog X.w X.K X.mg X.base A X.stack s H) (tk : Takes X W) (hb : PosD st x qual ps 0 ps.length 0) (I : Inv X pins σ H s) (r : Vals vs us)
    (h : spM X.K X.mg ps.length mf vs H Q (WE W σ)) : wpAny (model X.prog X.w) A (call (.ref f) us) (EP X pins σ Q) X.xe s := by
  obtain ⟨ds, hd, hbs⟩ := posD_binds (dts := []) (n := ps.length) (j := 0) hf hb (by simp)
  have dl := hf.dl
  have e1 : dvs = [] := List.eq_nil_of_length_eq_zero dl
  subst e1
  cases hd
  have hl : us.length = ps.length := by rw [← spM_len h]; exact r.length.symm
  have hbt := hbs s us I.kIn (by rw [List.append_nil]; exact hl)
  rw [List.append_nil] at hbt
  refine wpAny_call (codeAny_mono (code_at (args := ⟨us, []⟩) hf.ok hr e0 (passAt tk σ) I hbt r h) fun q s' hq => ?_)
  cases q with
  | error e => exact hq
  | ok fl => cases fl <;> exact hq
def fLenB : T → MH → R := fun t h => match t with
  | .int n => if decide (0 ≤ n) && decide (n < 4611686018427387904) then .ok (.int n) h else .stuck
  | _ => .stuck
def fO1 (c : Str) (fm : List T → MH → R) (fb : T → MH → R) : T → MH → R := fun t h => if isCls c t h then (fm [t] h).bind fb else .stuck
/-- len(o) -/
theorem se_lenO {pa : Pos} (Hm : HasMX X k c "__len__" qual st ps [] mf) (hr : Room (k + 1) X.A) (tk : Takes X W) (cl : Calls2 X W ps.length mf fm) (hb : PosD st "__len__" qual ps 0 ps.length 0) (hm : X.mg "len" = none) (ha : SE X W a ma) (hg : Gl X "len" := by rfl)
    (he : starEach [a] X.env = (false, eval a X.env) :: starEach [] X.env := by rfl) (hpl : (backTo pos (starEach [] X.env)).any (·.1) = false := by rfl) :
    SE X W (.Call (.Name "len" pa) [a] [] pos) (m1 (fO1 c fm fLenB) ma) := by
  obtain ⟨C, f, fd, dvs, hC, hcl, hme, hf⟩ := Hm
  refine ⟨fun pins s σ H Q I h => ?_⟩
  obtain ⟨g, s0, rfl, R, S, h⟩ := h
  have key : tCons (tM X.K X.mg W ma) tNil σ g.H (fun vs H1 => ∃ g1 t v, g1.H = H1 ∧ vs = [v] ∧ Rel X.K X.mg g1 ∧ Rep X.K X.mg g1 t v ∧ wpR X.K X.mg W g1 σ Q (fO1 c fm fLenB t g1.h)) :=
    ⟨g, s0, rfl, R, S, wpR_bind h fun g1 t v e1 R1 r1 h1 => ⟨g1, t, v, rfl, rfl, R1, r1, h1⟩⟩
  refine wpAny_Call_Name_kw (ld_blt (u := .builtin "len") I hg hm (by decide +kernel) ?_ (by decide) (by decide))
  refine PyProof.Rows.callWith_builtin1 (thn ((pa_cons ha pa_nil he).run pos pins s σ g.H _ I key) fun us s1 ⟨vs, H1, I1, r, q⟩ => ?_) he hpl
  · obtain ⟨g1, t, v, rfl, rfl, R1, r1, h1⟩ := q
    unfold fO1 at h1
    split at h1
    · rename_i z
      obtain ⟨p1, C1, dx, fs, rfl, hp, hc1⟩ := isCls_at R1 r1 z
      have z2 : C1 = C := by rw [hC] at hc1; cases hc1; rfl
      subst z2
      cases r with
      | cons r0 rn =>
        cases rn
        rename_i u _
        cases (show u = Value.ref p1 from r0)
        obtain ⟨mA, O, _⟩ := ins_get I1.hok hp
        obtain ⟨od, J, _⟩ := O.look
        obtain ⟨m, hF⟩ := I1.fr
        refine PySem.W.len_K hF I1.ok.mod.kin J hme.at_ hme.fn ?_
        refine wpAny_mono (run_in1 (vs := [V.ref p1]) (Q := fun v H2 => ∃ n : Int, v = .int n ∧ 0 ≤ n ∧ n < 2 ^ 63 ∧ Q (.int n) H2) hf (hr.in1) I1.env0.in1 tk hb I1 (.cons rfl .nil) ?_) (fun w s' hw => ?_) fun _ _ y => y
        · refine cl g1 σ [t] [V.ref p1] _ R1 (RepL.cons r1 RepL.nil) (wpR_bind h1 fun g2 t2 v2 e2 R2 r2 h2 => ?_)
          unfold fLenB at h2
          split at h2
          · rename_i i
            split at h2
            · rename_i w
              rw [Bool.and_eq_true, decide_eq_true_eq, decide_eq_true_eq] at w
              exact ⟨i, rep_int r2, w.1, by omega, wpR_here h2 R2 rInt⟩
            · exact h2.elim
          · exact h2.elim
        · obtain ⟨v3, H3, I3, rv, i, rfl, l1, l2, q3⟩ := hw
          obtain ⟨tk3, e3⟩ := (show ∃ t, w = Value.int i t from rv)
          subst e3
          exact ⟨⟨l1, l2⟩, .int i, H3, I3.tok _, ⟨_, rfl⟩, q3⟩
    · exact h1.elim
def fStrB : T → MH → R := fun t h => match t with
  | .str y => .ok (.str y) h
  | _ => .stuck
/-- repr(o) -/
theorem se_reprO {pa : Pos} (Hm : HasMX X k c "__repr__" qual st ps [] mf) (hr : Room (k + 1) X.A) (tk : Takes X W) (cl : Calls2 X W ps.length mf fm) (hb : PosD st "__repr__" qual ps 0 ps.length 0) (hm : X.mg "repr" = none) (ha : SE X W a ma) (hg : Gl X "repr" := by rfl)
    (he : starEach [a] X.env = (false, eval a X.env) :: starEach [] X.env := by rfl) (hpl : (backTo pos (starEach [] X.env)).any (·.1) = false := by rfl) :
    SE X W (.Call (.Name "repr" pa) [a] [] pos) (m1 (fO1 c fm fStrB) ma) := by
  obtain ⟨C, f, fd, dvs, hC, hcl, hme, hf⟩ := Hm
  refine ⟨fun pins s σ H Q I h => ?_⟩
  obtain ⟨g, s0, rfl, R, S, h⟩ := h
  have key : tCons (tM X.K X.mg W ma) tNil σ g.H (fun vs H1 => ∃ g1 t v, g1.H = H1 ∧ vs = [v] ∧ Rel X.K X.mg g1 ∧ Rep X.K X.mg g1 t v ∧ wpR X.K X.mg W g1 σ Q (fO1 c fm fStrB t g1.h)) :=
    ⟨g, s0, rfl, R, S, wpR_bind h fun g1 t v e1 R1 r1 h1 => ⟨g1, t, v, rfl, rfl, R1, r1, h1⟩⟩
  refine wpAny_Call_Name_kw (ld_blt (u := .builtin "repr") I hg hm (by decide +kernel) ?_ (by decide) (by decide))
  refine PyProof.Rows.callWith_builtin1 (thn ((pa_cons ha pa_nil he).run pos pins s σ g.H _ I key) fun us s1 ⟨vs, H1, I1, r, q⟩ => ?_) he hpl
  · obtain ⟨g1, t, v, rfl, rfl, R1, r1, h1⟩ := q
    unfold fO1 at h1
    split at h1
    · rename_i z
      obtain ⟨p1, C1, dx, fs, rfl, hp, hc1⟩ := isCls_at R1 r1 z
      have z2 : C1 = C := by rw [hC] at hc1; cases hc1; rfl
      subst z2
      cases r with
      | cons r0 rn =>
        cases rn
        rename_i u _
        cases (show u = Value.ref p1 from r0)
        obtain ⟨mA, O, _⟩ := ins_get I1.hok hp
        obtain ⟨od, J, _⟩ := O.look
        obtain ⟨m, hF⟩ := I1.fr
        refine PySem.W.repr_K hr.in1.units0 hF I1.ok.mod.kin J hme.at_ hme.fn ?_
        refine wpAny_mono (run_in1 (vs := [V.ref p1]) (Q := fun v H2 => ∃ n : Str, v = .str n ∧ Q (.str n) H2) hf (hr.in1) I1.env0.in1 tk hb I1 (.cons rfl .nil) ?_) (fun w s' hw => ?_) fun _ _ y => y
        · refine cl g1 σ [t] [V.ref p1] _ R1 (RepL.cons r1 RepL.nil) (wpR_bind h1 fun g2 t2 v2 e2 R2 r2 h2 => ?_)
          unfold fStrB at h2
          split at h2
          · rename_i i
            exact ⟨i, rep_str r2, wpR_here h2 R2 rStr⟩
          · exact h2.elim
        · obtain ⟨v3, H3, I3, rv, i, rfl, q3⟩ := hw
          obtain ⟨tk3, e3⟩ := (show ∃ t, w = Value.str i t from rv)
          subst e3
          exact ⟨.str i, H3, I3, ⟨_, rfl⟩, q3⟩
    · exact h1.elim
/-! ### x in o, o == y -/
def fBlB (neg : Bool) : T → MH → R := fun t h => match t with
  | .bl b => .ok (.bl (if neg then !b else b)) h
  | _ => .stuck
def fInO (neg : Bool) (c : Str) (fm : List T → MH → R) : T → T → MH → R := fun t u h => if isCls c u h then (fm [u, t] h).bind (fBlB neg) else .stuck
theorem inO_ok {neg : Bool} {op : CmpOp} (hop : (neg = false ∧ op = .In) ∨ (neg = true ∧ op = .NotIn)) (Hm : HasMX X k c "__contains__" qual st ps [] mf) (hr : Room k X.A) (tk : Takes X W) (cl : Calls2 X W ps.length mf fm) (hb : PosD st "__contains__" qual ps 0 ps.length 0)
    {t u : T} {v w : V} {y z : Value} {pins : List (Addr × Obj)} {s : Shared} (R : Rel X.K X.mg g) (r1 : Rep X.K X.mg g t v) (r2 : Rep X.K X.mg g u w) (I : Inv X pins σ g.H s) (rv : RelV v y) (rw' : RelV w z) (h : wpR X.K X.mg W g σ Q (fInO neg c fm t u g.h)) :
    wpAny (model X.prog X.w) X.A (compareOp op y z) (EP X pins σ Q) X.xe s := by
  obtain ⟨C, f, fd, dvs, hC, hcl, hme, hf⟩ := Hm
  unfold fInO at h
  split at h
  · rename_i zc
    obtain ⟨p1, C1, dx, fs, rfl, hp, hc1⟩ := isCls_at R r2 zc
    have z2 : C1 = C := by rw [hC] at hc1; cases hc1; rfl
    subst z2
    cases (show z = Value.ref p1 from rw')
    obtain ⟨mA, O, _⟩ := ins_get I.hok hp
    obtain ⟨od, J, _⟩ := O.look
    obtain ⟨m, hF⟩ := I.fr
    have core := run_in1 (A := X.A) (us := [Value.ref p1, y]) (vs := [V.ref p1, v]) (Q := fun r H2 => ∃ b : Bool, r = .bl b ∧ Q (.bl (if neg then !b else b)) H2) hf hr I.env0 tk hb I (.cons rfl (.cons rv .nil)) (by
      refine cl g σ [u, t] [V.ref p1, v] _ R (RepL.cons r2 (RepL.cons r1 RepL.nil)) (wpR_bind h fun g2 t2 v2 e2 R2 r2 h2 => ?_)
      unfold fBlB at h2
      split at h2
      · rename_i b
        exact ⟨b, rep_bl r2, wpR_here h2 R2 rBl⟩
      · exact h2.elim)
    rcases hop with ⟨rfl, rfl⟩ | ⟨rfl, rfl⟩
    · refine PySem.W.in_K hF I.ok.mod.kin J hme.at_ hme.fn (wpAny_mono core (fun r s' hq => ?_) fun _ _ y => y)
      obtain ⟨v3, H3, I3, rv3, b, rfl, q3⟩ := hq
      cases rv3
      exact wpAny_truthy_bool ⟨.bl _, H3, I3, rfl, q3⟩
    · refine PySem.W.notIn_K hF I.ok.mod.kin J hme.at_ hme.fn (wpAny_mono core (fun r s' hq => ?_) fun _ _ y => y)
      obtain ⟨v3, H3, I3, rv3, b, rfl, q3⟩ := hq
      cases rv3
      exact wpAny_truthy_bool ⟨.bl _, H3, I3, rfl, q3⟩
  · exact h.elim
theorem use_m2 {op : CmpOp} {f : T → T → MH → R} (hm : behindInMarks op b = false) (ha : SE X W a ma) (hb : SE X W b mb)
    (ho : ∀ (g : G) (σ : L2.St) (t u : T) (v w : V) (y z : Value) (pins : List (Addr × Obj)) (s : Shared) (Q : VK), Rel X.K X.mg g → Rep X.K X.mg g t v → Rep X.K X.mg g u w → Inv X pins σ g.H s → RelV v y → RelV w z → wpR X.K X.mg W g σ Q (f t u g.h) → wpAny (model X.prog X.w) X.A (compareOp op y z) (EP X pins σ Q) X.xe s) :
    SE X W (.Compare a [op] [b] pos) (m2 f ma mb) := by
  refine ⟨fun pins s σ H Q I h => ?_⟩
  obtain ⟨g, s0, rfl, R, S, h⟩ := h
  have key : tM X.K X.mg W ma σ g.H (fun v H1 => tM X.K X.mg W mb σ H1 fun w H2 => ∃ g2 t u, g2.H = H2 ∧ Rel X.K X.mg g2 ∧ Rep X.K X.mg g2 t v ∧ Rep X.K X.mg g2 u w ∧ wpR X.K X.mg W g2 σ Q (f t u g2.h)) :=
    ⟨g, s0, rfl, R, S, wpR_bind h fun g1 t v e1 R1 r1 h1 => ⟨g1, s0, rfl, R1, S.mono e1, wpR_bind h1 fun g2 u w e2 R2 r2 h2 => ⟨g2, t, u, rfl, R2, r1.mono e2, r2, h2⟩⟩⟩
  refine wpAny_Compare1 (binT (Q := EP X pins σ Q) (f := compareOp op) ha hb I key fun v u s2 x y H2 I2 rx ry ⟨g2, t, u', e, R2, r1, r2, h2⟩ => ?_) hm
  subst e
  exact ho g2 σ t u' x y v u pins s2 Q R2 r1 r2 I2 rx ry h2
theorem se_inO {neg : Bool} {op : CmpOp} (hop : (neg = false ∧ op = .In) ∨ (neg = true ∧ op = .NotIn)) (Hm : HasMX X k c "__contains__" qual st ps [] mf) (hr : Room k X.A) (tk : Takes X W) (cl : Calls2 X W ps.length mf fm) (hb : PosD st "__contains__" qual ps 0 ps.length 0) (ha : SE X W a ma) (hb' : SE X W b mb)
    (hm : behindInMarks op b = false) : SE X W (.Compare a [op] [b] pos) (m2 (fInO neg c fm) ma mb) :=
  use_m2 hm ha hb' fun g σ t u v w y z pins s Q R r1 r2 I rv rw' h => inO_ok hop Hm hr tk cl hb R r1 r2 I rv rw' h
/-- what == asks of the class: no built-in type and none of these classes stands before it -/
structure EqC (K : PySem.W.Frag) (mg : Str → Option Value) (c : Str) (cs : List Str) : Prop where
  ty : ∀ C, mg c = some (.ref C) → ∀ a : Ty5, PySem.W.notFirst K C (.type a.name) = true
  own : ∀ C, mg c = some (.ref C) → ∀ c' ∈ cs, ∀ C', mg c' = some (.ref C') → PySem.W.notFirst K C (.ref C') = true
def knownT (cs : List Str) (t : T) (h : MH) : Bool := match objOf t h with
  | some (c', _, _) => cs.contains c'
  | none => (tyOfT t h).isSome
def fEqO (cs : List Str) (c : Str) (fm : List T → MH → R) : T → T → MH → R := fun t u h => if isCls c t h && knownT cs u h then (fm [t, u] h).bind (fBlB false) else .stuck
theorem type_of {cs : List Str} {t : T} {v : V} {y : Value} {pins : List (Addr × Obj)} {s : Shared} (R : Rel X.K X.mg g) (r : Rep X.K X.mg g t v) (I : Inv X pins σ g.H s) (rv : RelV v y) (h : knownT cs t g.h = true) :
    ∃ tb, PySem.W.Looks (model X.prog X.w) s.heap (typeOf y) tb ∧ ((∃ a : Ty5, tb = .type a.name) ∨ ∃ c' C', c' ∈ cs ∧ X.mg c' = some (.ref C') ∧ tb = .ref C') := by
  unfold knownT at h
  split at h
  · rename_i c' ns ts q
    obtain ⟨p, C, dx, fs, rfl, hp, hm, _⟩ := obj_of R r q
    cases (show y = Value.ref p from rv)
    obtain ⟨mA, O, _⟩ := ins_get I.hok hp
    obtain ⟨od, J, _⟩ := O.look
    exact ⟨.ref C, J.type, .inr ⟨c', C, by simpa using h, hm, rfl⟩⟩
  · obtain ⟨a, q⟩ := Option.isSome_iff_exists.mp h
    obtain ⟨P, Z, hP, _⟩ := kit_of I rv (tyx_of R r q)
    exact ⟨_, Z.ty _ _ I.kIn hP, .inl ⟨a, rfl⟩⟩
theorem eqO_ok {cs : List Str} {op : CmpOp} (hop : ∀ a b, compareOp op a b = richCompare op a b) {mn : Str} (hmn : (cmpInfo op).2.1 = mn) (HC : EqC X.K X.mg c cs) (Hm : HasMX X k c mn qual st ps [] mf) (hr : Room k X.A) (tk : Takes X W) (cl : Calls2 X W ps.length mf fm) (hb : PosD st mn qual ps 0 ps.length 0)
    {t u : T} {v w : V} {y z : Value} {pins : List (Addr × Obj)} {s : Shared} (R : Rel X.K X.mg g) (r1 : Rep X.K X.mg g t v) (r2 : Rep X.K X.mg g u w) (I : Inv X pins σ g.H s) (rv : RelV v y) (rw' : RelV w z) (h : wpR X.K X.mg W g σ Q (fEqO cs c fm t u g.h)) :
    wpAny (model X.prog X.w) X.A (compareOp op y z) (EP X pins σ Q) X.xe s := by
  obtain ⟨C, f, fd, dvs, hC, hcl, hme, hf⟩ := Hm
  unfold fEqO at h
  split at h
  · rename_i zc
    obtain ⟨z1, z3⟩ := Bool.and_eq_true_iff.mp zc
    obtain ⟨p1, C1, dx, fs, rfl, hp, hc1⟩ := isCls_at R r1 z1
    have z2 : C1 = C := by rw [hC] at hc1; cases hc1; rfl
    subst z2
    cases (show y = Value.ref p1 from rv)
    obtain ⟨mA, O, _⟩ := ins_get I.hok hp
    obtain ⟨od, J, _⟩ := O.look
    obtain ⟨m, hF⟩ := I.fr
    obtain ⟨tb, ht, hk⟩ := type_of R r2 I rw' z3
    have nf : PySem.W.notFirst X.K C1 tb = true := by
      rcases hk with ⟨a, rfl⟩ | ⟨c', C', hc', hm', rfl⟩
      · exact HC.ty C1 hC a
      · exact HC.own C1 hC c' hc' C' hm'
    rw [hop]
    refine PySem.W.cmp_K (op := op) (tb := tb) hr.units0 hF I.ok.mod.kin J ht nf (by rw [hmn]; exact hme.at_) hme.fn ?_
    refine wpAny_mono (run_in1 (A := X.A) (us := [Value.ref p1, z]) (vs := [V.ref p1, w]) (Q := fun r H2 => ∃ b : Bool, r = .bl b ∧ Q (.bl b) H2) hf hr I.env0 tk hb I (.cons rfl (.cons rw' .nil)) ?_) (fun r s' hq => ?_) fun _ _ y => y
    · refine cl g σ [t, u] [V.ref p1, w] _ R (RepL.cons r1 (RepL.cons r2 RepL.nil)) (wpR_bind h fun g2 t2 v2 e2 R2 r2 h2 => ?_)
      unfold fBlB at h2
      split at h2
      · rename_i b
        exact ⟨b, rep_bl r2, wpR_here h2 R2 rBl⟩
      · exact h2.elim
    · obtain ⟨v3, H3, I3, rv3, b, rfl, q3⟩ := hq
      cases rv3
      exact ⟨.bl b, H3, I3, rfl, q3⟩
  · exact h.elim
theorem se_eqO {cs : List Str} {op : CmpOp} (hop : ∀ a b, compareOp op a b = richCompare op a b) {mn : Str} (hmn : (cmpInfo op).2.1 = mn) (HC : EqC X.K X.mg c cs) (Hm : HasMX X k c mn qual st ps [] mf) (hr : Room k X.A) (tk : Takes X W) (cl : Calls2 X W ps.length mf fm) (hb : PosD st mn qual ps 0 ps.length 0)
    (ha : SE X W a ma) (hb' : SE X W b mb) (hm : behindInMarks op b = false) : SE X W (.Compare a [op] [b] pos) (m2 (fEqO cs c fm) ma mb) :=
  use_m2 hm ha hb' fun g σ t u v w y z pins s Q R r1 r2 I rv rw' h => eqO_ok hop hmn HC Hm hr tk cl hb R r1 r2 I rv rw' h
end
end Mi
end part_Mi16
section part_Mi17
set_option maxRecDepth 100000
set_option maxHeartbeats 2000000
/-! Mi, part 17: properties, isinstance of own classes, C(.., k = v), o.m(.., k = v). -/
namespace Mi
open PySem PySem.Spec PyProof.Rows L2
section
variable {X : Cx} {K : PySem.W.Frag} {mg : Str → Option Value} {W : WX} {g g' : G} {σ : L2.St} {Q : VK} {D : Ends}
variable {a b e : Expr} {ma mb mc me mt : ME} {mr mk : MA} {pos p apos : Pos} {es : List Expr} {c x : Str} {kws : List Keyword}
variable {k n j : Nat} {qual : Str} {st : Stmt} {ps ks : List Str} {dts : List T} {mf : MF} {fm : List T → MH → R}
def noEx : R → R
  | .ok t h => .ok t h
  | _ => .stuck
def fPropO (c : Str) (mf : MF) : T → MH → R := fun t h => if isCls c t h then noEx (mf [t] h) else .stuck
theorem se_prop (Hp : HasPX X k c x qual st mf) (hr : Room (k + 1) X.A) (hb : PosD st x qual ["self"] 0 1 0) (ha : SE X W a ma) (hab : attributeBase a x X.env (eval a X.env) = eval a X.env := by rfl) : SE X W (.Attribute a x pos) (m1 (fPropO c mf) ma) := by
  obtain ⟨C, pp, f, fd, dvs, hC, hcl, hp, hf⟩ := Hp
  obtain ⟨ds, hd, hbs⟩ := posD_binds (dts := []) (n := 1) (j := 0) hf hb rfl
  have e1 : dvs = [] := List.eq_nil_of_length_eq_zero hf.dl
  subst e1
  cases hd
  refine weakE (pe_prop (E := fun _ _ _ => False) (dvs := []) (ds := []) ha hcl hp hf.ok hr hbs .nil (fun _ _ _ _ _ _ _ z => ?_) hab) ?_
  · obtain ⟨_, _, _, _, _, _, _, _, _, _, _, _, z⟩ := z
    exact z.elim
  · rintro σ H Q ⟨g, s, rfl, R, S, h⟩
    refine ⟨g, s, rfl, R, S, wpR_bind h fun g1 t v e1 R1 r1 h1 => ?_⟩
    unfold fPropO at h1
    split at h1
    · rename_i z
      obtain ⟨p1, C1, dx, fs, rfl, hp1, hc1⟩ := isCls_at R1 r1 z
      have z2 : C1 = C := by rw [hC] at hc1; cases hc1; rfl
      subst z2
      refine ⟨p1, dx, fs, rfl, hp1, g1, [t], rfl, R1, RepL.cons r1 RepL.nil, rfl, ?_⟩
      cases q : mf [t] g1.h with
      | ok u h2 => rw [q] at h1; exact h1
      | ex y h2 => rw [q] at h1; exact h1.elim
      | stuck => rw [q] at h1; exact h1.elim
    · exact h1.elim
/-! ### isinstance(x, C), C an own class -/
/-- what isinstance asks of the classes -/
structure IsiC (K : PySem.W.Frag) (mg : Str → Option Value) (c : Str) (tab : List (Str × Bool)) : Prop where
  at_ : ∃ C, mg c = some (.ref C)
  ty : ∀ C, mg c = some (.ref C) → ∀ a : Ty5, PySem.W.kitOne K (.type a.name) (.ref C) = some false
  own : ∀ C, mg c = some (.ref C) → ∀ q ∈ tab, ∀ C', mg q.1 = some (.ref C') → PySem.W.kitOne K (.ref C') (.ref C) = some q.2 ∧ Cls K C' ∧ PySem.W.findIn K (.ref C') "__class__" = some (some (.builtin "object.__class__")) ∧
    PySem.W.specialIn K (.builtin "object.__class__") "__get__" = some (some (.builtin "getset_descriptor.__get__")) ∧ PySem.W.takesIn K (.builtin "object.__class__") = some true ∧ PySem.W.mroIn K C' (.type "object") = some true
def fIsiO (tab : List (Str × Bool)) : T → MH → R := fun t h => match objOf t h with
  | some (c', _, _) => match tab.lookup c' with
    | some b => .ok (.bl b) h
    | none => .stuck
  | none => if (tyOfT t h).isSome then .ok (.bl false) h else .stuck
theorem lookup_mem {α β : Type} [BEq α] [LawfulBEq α] {x : α} {y : β} : ∀ {l : List (α × β)}, l.lookup x = some y → (x, y) ∈ l
  | [], h => by cases h
  | (k, v) :: l, h => by
    rw [List.lookup_cons] at h
    cases q : x == k with
    | true =>
      rw [q] at h
      cases h
      rw [eq_of_beq q]
      exact List.mem_cons_self
    | false =>
      rw [q] at h
      exact List.mem_cons_of_mem _ (lookup_mem h)
theorem se_isiO {pa pc : Pos} {tab : List (Str × Bool)} (HC : IsiC X.K X.mg c tab) (hmi : X.mg "isinstance" = none) (ha : SE X W a ma) (hg : Gl X "isinstance" := by rfl) (hgc : Gl X c := by rfl) (hdc : (c == ("__debug__" : Str)) = false := by decide)
    (he : starEach [a, .Name c pc] X.env = (false, eval a X.env) :: starEach [.Name c pc] X.env := by rfl) (he2 : starEach [.Name c pc] X.env = [(false, eval (.Name c pc) X.env)] := by rfl) (hpl : (backTo pos (starEach [.Name c pc] X.env)).any (·.1) = false := by rfl) :
    SE X W (.Call (.Name "isinstance" pa) [a, .Name c pc] [] pos) (m1 (fIsiO tab) ma) := by
  obtain ⟨C, hC⟩ := HC.at_
  refine weakE (pe_callB (id := "isinstance") call_isi hg hmi (by decide +kernel) (pa_cons ha (pa_cons (pe_glob hgc hC (v := .ref C) rfl hdc) pa_nil he2) he) (by decide) (by decide) he hpl) ?_
  rintro σ H Q ⟨g, s, rfl, R, S, h⟩
  refine ⟨g, s, rfl, R, S, wpR_bind h fun g1 t v e1 R1 r1 h1 => ?_⟩
  unfold fIsiO at h1
  split at h1
  · rename_i c' ns ts q
    obtain ⟨p1, C', dx, fs, rfl, hp, hm, _⟩ := obj_of R1 r1 q
    split at h1
    · rename_i bb hl
      obtain ⟨k1, k2, k3, k4, k5, k6⟩ := HC.own C hC _ (lookup_mem hl) C' hm
      exact ⟨V.ref p1, .ref C, .ref C', .ref C, bb, rfl, .own C, .base (.ins hp k2 k3 k4 k5 k6), k1, wpR_here h1 R1 rBl⟩
    · exact h1.elim
  · split at h1
    · rename_i z
      obtain ⟨a', q⟩ := Option.isSome_iff_exists.mp z
      exact ⟨v, .ref C, .type a'.name, .ref C, false, rfl, .own C, tyx_of R1 r1 q, HC.ty C hC a', wpR_here h1 R1 rBl⟩
    · exact h1.elim
end
end Mi
end part_Mi17
section part_Mi18
set_option maxRecDepth 100000
set_option maxHeartbeats 2000000
/-! Mi, part 18: calls by keywords with defaults: defs, instances, methods. -/
namespace Mi
open PySem PySem.Spec PyProof.Rows L2
/-- how a call with keywords binds: positional values, the keywords' values, the defaults, picked by place -/
def KwD (st : Stmt) (x qual : Str) (ps : List Str) (nd n : Nat) (ks : List Str) (is : List Nat) : Prop := ∀ (kV doc pm : Value) (an : Option Addr) (cdv ct : Value) (us ws its : List Value), us.length = n → ws.length = ks.length → its.length = nd →
  if nd = 0 then bindArgs (PySem.W.fnOf x qual (defArgs st) (defBody st) (defScope st) .none kV doc pm an cdv ct) ⟨us, ks.zip ws⟩ = pure (ps.zip (pick is (us ++ ws ++ its)))
  else ∀ T, ∃ k, bindArgs (PySem.W.fnOf x qual (defArgs st) (defBody st) (defScope st) (.ref T) kV doc pm an cdv ct) ⟨us, ks.zip ws⟩ = seqItems? (.ref T) >>= k ∧ k (some its.toArray) = pure (ps.zip (pick is (us ++ ws ++ its)))
section
variable {X : Cx} {K : PySem.W.Frag} {mg : Str → Option Value} {W : WX} {g g' : G} {σ : L2.St} {Q : VK} {D : Ends}
variable {a b e : Expr} {ma mb mc me mt : ME} {mr mk : MA} {pos p apos : Pos} {es : List Expr} {c x : Str} {kws : List Keyword}
variable {k n j : Nat} {qual : Str} {st : Stmt} {ps ks : List Str} {is : List Nat} {dts : List T} {mf : MF} {fm : List T → MH → R}
theorem kwD_binds {P : Program} {w : World} {base : Heap} {m : MF} {f : Addr} {fd : FuncData} {dvs : List V} (h : FnH P w K mg base k x qual st ps dts m f fd dvs) (hb : KwD st x qual ps dts.length n ks is) :
    ∃ its, Vals dvs its ∧ ∀ (s : Shared) (us ws : List Value), K.In s.heap → us.length = n → ws.length = ks.length → BindsTo s fd ⟨us, ks.zip ws⟩ (ps.zip (pick is (us ++ ws ++ its))) := by
  obtain ⟨oc, od, dV, kV, doc, pm, an, cdv, ct, osl, rfl, _, _, hd, _⟩ := h.F.ex
  rcases hd with ⟨z, rfl⟩ | ⟨z, T, o, its, n', rfl, hT, hs, rv⟩
  · subst z
    have dl : dts.length = 0 := h.dl.symm
    refine ⟨[], .nil, fun s us ws _ l1 l2 => BindsTo.of_eq ?_⟩
    have := hb kV doc pm an cdv ct us ws [] l1 l2 dl.symm
    rw [if_pos dl] at this
    exact this
  · have dl : dts.length ≠ 0 := fun q => z (List.eq_nil_of_length_eq_zero (h.dl.trans q))
    refine ⟨its, rv, fun s us ws ki l1 l2 => ?_⟩
    have := hb kV doc pm an cdv ct us ws its l1 l2 (by rw [← rv.length]; exact h.dl)
    rw [if_neg dl] at this
    obtain ⟨k', h1, h2⟩ := this T
    exact PySem.W.binds_K ki rfl hT hs h1 h2
/-- the callee's argument list -/
def mKwA (n nk : Nat) (is : List Nat) (dts : List T) (fm : List T → MH → R) (mr mk : MA) : ME := fun s h => (mr s h).bind fun ts h1 => (mk s h1).bind fun us h2 => if ts.length = n ∧ us.length = nk then fm (pick is (ts ++ us ++ dts)) h2 else .stuck
theorem se_gkw (Hg : HasGX X k x qual st ps dts mf) (hr : Room k X.A) (tk : Takes X W) (cl : Calls2 X W ps.length mf fm) (hb : KwD st x qual ps dts.length n ks is) (ha : SA X W (e :: es) mr) (hkw : SK X W kws mk) (hg : Gl X x := by rfl)
    (hall : (backToKw pos (keywordEach kws X.env)).all (·.1.isSome) = true := by rfl) (hks : (backToKw pos (keywordEach kws X.env)).filterMap (·.1) = ks := by rfl)
    (hdb : (x == ("__debug__" : Str)) = false := by decide) (he : starEach (e :: es) X.env = (false, eval e X.env) :: starEach es X.env := by rfl)
    (hpl : ((backTo pos (starEach (e :: es) X.env)).any (·.1) || (backToKw pos (keywordEach kws X.env)).any (·.1.isNone)) = false := by rfl) :
    SE X W (.Call (.Name x p) (e :: es) kws pos) (mKwA n ks.length is dts fm mr mk) := by
  obtain ⟨f, fd, dvs, hm, hf⟩ := Hg
  obtain ⟨its, rv, hbs⟩ := kwD_binds hf hb
  refine ⟨fun pins s σ H Q I h => ?_⟩
  obtain ⟨g, s0, rfl, R, S, h⟩ := h
  have key : tMA X.K X.mg W mr σ g.H (fun vs H1 => tMA X.K X.mg W mk σ H1 fun zs H2 => vs.length = n ∧ zs.length = ks.length ∧ spM X.K X.mg ps.length mf (pick is (vs ++ zs ++ dvs)) H2 Q (WE W σ)) :=
    ⟨g, s0, rfl, R, S, wpL_of h fun g1 ts vs e1 R1 r1 h1 => ⟨g1, s0, rfl, R1, S.mono e1, wpL_of h1 fun g2 us zs e2 R2 r2 h2 => by
      split at h2
      · rename_i q
        exact ⟨r1.length.symm.trans q.1, r2.length.symm.trans q.2, cl g2 σ _ _ Q R2 (pick_repL (((r1.mono e2).append r2).append (hf.dr g2)) is) h2⟩
      · exact h2.elim⟩⟩
  refine wpAny_Call_Name_kw (ld_glob I hg hm ?_ hdb)
  refine PySem.W.callWith_KW (h₀ := X.base) I.ok.mod.kin hf.F.kp hall (thn (ha.run pos pins s σ g.H _ I key) fun us s1 ⟨vs, H1, I1, r, q⟩ => ?_) hpl he
  refine thn (hkw.run pos pins s1 σ H1 _ I1 q) fun ws s2 ⟨zs, H2, I2, rz, l1, l2, q2⟩ => ⟨I2.kIn, ?_⟩
  rw [hks]
  exact run_at (args := ⟨us, ks.zip ws⟩) hf.ok hr (passAt tk σ) I2 (hbs s2 us ws I2.kIn (r.length.symm.trans l1) (rz.length.symm.trans l2)) (pick_vals ((r.append rz).append rv) is) q2
theorem se_gkw0 (Hg : HasGX X k x qual st ps dts mf) (hr : Room k X.A) (tk : Takes X W) (cl : Calls2 X W ps.length mf fm) (hb : KwD st x qual ps dts.length 0 ks is) (hkw : SK X W kws mk) (hg : Gl X x := by rfl)
    (hall : (backToKw pos (keywordEach kws X.env)).all (·.1.isSome) = true := by rfl) (hks : (backToKw pos (keywordEach kws X.env)).filterMap (·.1) = ks := by rfl)
    (hdb : (x == ("__debug__" : Str)) = false := by decide)
    (hpl : ((backTo pos (starEach [] X.env)).any (·.1) || (backToKw pos (keywordEach kws X.env)).any (·.1.isNone)) = false := by rfl) :
    SE X W (.Call (.Name x p) [] kws pos) (mKwA 0 ks.length is dts fm aNil mk) := by
  obtain ⟨f, fd, dvs, hm, hf⟩ := Hg
  obtain ⟨its, rv, hbs⟩ := kwD_binds hf hb
  refine ⟨fun pins s σ H Q I h => ?_⟩
  obtain ⟨g, s0, rfl, R, S, h⟩ := h
  have h0 : wpR X.K X.mg W g σ Q ((mk s0 g.h).bind fun us h2 => if ([] : List T).length = 0 ∧ us.length = ks.length then fm (pick is ([] ++ us ++ dts)) h2 else .stuck) := h
  have key : tMA X.K X.mg W mk σ g.H (fun zs H2 => zs.length = ks.length ∧ spM X.K X.mg ps.length mf (pick is ([] ++ zs ++ dvs)) H2 Q (WE W σ)) :=
    ⟨g, s0, rfl, R, S, wpL_of h0 fun g2 us zs e2 R2 r2 h2 => by
      split at h2
      · rename_i q
        exact ⟨r2.length.symm.trans q.2, cl g2 σ _ _ Q R2 (pick_repL ((RepL.nil.append r2).append (hf.dr g2)) is) h2⟩
      · exact h2.elim⟩
  refine wpAny_Call_Name_kw (ld_glob I hg hm ?_ hdb)
  refine PySem.W.callWith_KW0 (h₀ := X.base) I.ok.mod.kin hf.F.kp hall ?_ hpl
  refine thn (hkw.run pos pins s σ g.H _ I key) fun ws s2 ⟨zs, H2, I2, rz, l2, q2⟩ => ⟨I2.kIn, ?_⟩
  rw [hks]
  exact run_at (args := ⟨[], ks.zip ws⟩) hf.ok hr (passAt tk σ) I2 (hbs s2 [] ws I2.kIn rfl (rz.length.symm.trans l2)) (pick_vals (((show Vals [] [] from .nil).append rz).append rv) is) q2
/-! ### C(.., k = v) -/
def fMkP (frz : Bool) (c : Str) (mf : MF) (n nk : Nat) (is : List Nat) (dts : List T) (ts us : List T) (h : MH) : R := if ts.length + 1 = n ∧ us.length = nk then
    (match mf (pick is ((.ref h.length :: ts) ++ us ++ dts)) (h ++ [.ins c [] []]) with
    | .ok .non h2 => if frz then .ok (fzT (.ref h.length) h2).1 (fzT (.ref h.length) h2).2 else .ok (.ref h.length) h2
    | .ex y h2 => .ex y h2
    | _ => .stuck) else .stuck
theorem make_useK {frz : Bool} {C x1 dx : Addr} {ts us dt : List T} {vs zs dv : List V} {nn nk N1 : Nat} (R : Rel K mg g) (r : RepL K mg g ts vs) (r2 : RepL K mg g us zs) (rd : ∀ g, RepL K mg g dt dv) (hC : mg c = some (.ref C)) (hx : g.H x1 = none) (hdx : g.H dx = none) (ne : dx ≠ x1)
    (hpk : ∀ x : T, (pick is ((x :: ts) ++ us ++ dt)).length = nn) (h : wpR K mg W g σ Q (fMkP frz c mf N1 nk is dt ts us g.h)) : spM K mg nn mf (pick is ((.ref x1 :: vs) ++ zs ++ dv)) (upd (upd g.H dx (.own x1)) x1 (.ins C dx [])) (fun v H2 => v = .non ∧ Q (.ref x1) H2) (WE W σ) := by
  have e0 : Ext g (g.lay dx (.own x1)) := lay_ext R hdx
  have R0 : Rel K mg (g.lay dx (.own x1)) := R.lay hdx
  have hx0 : (g.lay dx (.own x1)).H x1 = none := by
    show upd g.H dx (.own x1) x1 = none
    rw [upd_ne (Ne.symm ne)]; exact hx
  obtain ⟨g1, e1, e2, ex, R1, rr⟩ := ref_lay (o := .ins c [] []) (ho := .ins C dx []) R0 hx0 (fun g2 s2 hq => ⟨C, dx, [], hq, hC, rfl, RepL.nil⟩) (by intro z; cases z)
  have eg : Ext g g1 := e0.trans ex
  refine ⟨g1, pick is ((.ref g.h.length :: ts) ++ us ++ dt), e1, R1, pick_repL (((RepL.cons rr (r.mono eg)).append (r2.mono eg)).append (rd g1)) is, hpk _, ?_⟩
  have e3 : g1.h = g.h ++ [.ins c [] []] := e2
  rw [e3]
  unfold fMkP at h
  split at h
  · cases q : mf (pick is ((.ref g.h.length :: ts) ++ us ++ dt)) (g.h ++ [.ins c [] []]) with
    | ok t h2 =>
      rw [q] at h
      cases t with
      | non =>
        intro g' v eh eg' R' rv
        have eh : g'.h = h2 := eh
        refine ⟨rep_non rv, ?_⟩
        have rx : Rep K mg g' (.ref g.h.length) (.ref x1) := rr.mono eg'
        dsimp only at h
        cases frz with
        | false => exact h g' (.ref x1) eh (eg.trans eg') R' rx
        | true =>
          obtain ⟨g'', z1, z2, z3, z4, z5⟩ := fz_ok R' rx
          rw [← z1]
          rw [if_pos rfl] at h
          exact h g'' (.ref x1) (by rw [z2, eh]) ((eg.trans eg').trans z3) z4 (by rw [← eh]; exact z5)
      | _ => exact h.elim
    | ex y h2 =>
      rw [q] at h
      exact fun g' cls d eh eg' R' rx => h g' cls d eh (eg.trans eg') R' rx
    | stuck => rw [q] at h; exact h.elim
  · exact h.elim
def mMkK (frz : Bool) (c : Str) (mf : MF) (nn n nk : Nat) (is : List Nat) (dts : List T) (mr mk : MA) : ME := fun s h => (mr s h).bind fun ts h1 => (mk s h1).bind fun us h2 => if (pick is ((.non :: ts) ++ us ++ dts)).length = nn then fMkP frz c mf n nk is dts ts us h2 else .stuck
theorem pick_len {α β : Type} : ∀ {is : List Nat} {l : List α} {l' : List β}, l.length = l'.length → (pick is l).length = (pick is l').length
  | [], _, _, _ => rfl
  | i :: is, l, l', h => by
    have ih := pick_len (is := is) h
    unfold pick at ih ⊢
    simp only [List.filterMap_cons]
    by_cases q : i < l.length
    · rw [List.getElem?_eq_getElem q, List.getElem?_eq_getElem (h ▸ q)]
      simp only [List.length_cons, ih]
    · rw [List.getElem?_eq_none (by omega), List.getElem?_eq_none (by omega)]
      exact ih
theorem se_makeK {frz : Bool} (Hi : HasIX X k c qual st ps dts mf) (hr : Room (k + 1) X.A) (tk : Takes X W) (hb : KwD st "__init__" qual ps dts.length n ks is) (ha : SA X W (e :: es) mr) (hkw : SK X W kws mk) (hg : Gl X c := by rfl)
    (hall : (backToKw pos (keywordEach kws X.env)).all (·.1.isSome) = true := by rfl) (hks : (backToKw pos (keywordEach kws X.env)).filterMap (·.1) = ks := by rfl)
    (hdb : (c == ("__debug__" : Str)) = false := by decide) (he : starEach (e :: es) X.env = (false, eval e X.env) :: starEach es X.env := by rfl)
    (hpl : ((backTo pos (starEach (e :: es) X.env)).any (·.1) || (backToKw pos (keywordEach kws X.env)).any (·.1.isNone)) = false := by rfl) :
    SE X W (.Call (.Name c p) (e :: es) kws pos) (mMkK frz c mf ps.length n ks.length is dts mr mk) := by
  obtain ⟨C, f, fd, dvs, hC, M, hf⟩ := Hi
  obtain ⟨its, rv, hbs⟩ := kwD_binds hf hb
  refine ⟨fun pins s σ H Q I h => ?_⟩
  obtain ⟨g, s0, rfl, R, S, h⟩ := h
  have key : tMA X.K X.mg W mr σ g.H (fun vs H1 => tMA X.K X.mg W mk σ H1 fun zs H2 => vs.length + 1 = n ∧ zs.length = ks.length ∧ ∀ x1 dx, H2 x1 = none → H2 dx = none → dx ≠ x1 → spM X.K X.mg ps.length mf (pick is ((.ref x1 :: vs) ++ zs ++ dvs)) (upd (upd H2 dx (.own x1)) x1 (.ins C dx [])) (fun v H3 => v = .non ∧ Q (.ref x1) H3) (WE W σ)) :=
    ⟨g, s0, rfl, R, S, wpL_of h fun g1 ts vs e1 R1 r1 h1 => ⟨g1, s0, rfl, R1, S.mono e1, wpL_of h1 fun g2 us zs e2 R2 r2 h2 => by
      split at h2
      · rename_i q
        have h3 := h2
        unfold fMkP at h3
        split at h3
        · rename_i w
          refine ⟨by rw [← r1.length]; exact w.1, by rw [← r2.length]; exact w.2, fun x1 dx hx hdx ne => make_useK R2 (r1.mono e2) r2 hf.dr hC hx hdx ne (fun x => ?_) h2⟩
          rw [← q]
          exact pick_len (by simp)
        · exact h3.elim
      · exact h2.elim⟩⟩
  refine wpAny_Call_Name_kw (ld_glob I hg hC ?_ hdb)
  refine PySem.W.callWith_KW (h₀ := X.base) I.ok.mod.kin M.kp hall (thn (ha.run pos pins s σ g.H _ I key) fun us s1 ⟨vs, H1, I1, r, q⟩ => ?_) hpl he
  refine thn (hkw.run pos pins s1 σ H1 _ I1 q) fun ws s2 ⟨zs, H2, I2, rz, l1, l2, q2⟩ => ⟨I2.kIn, ?_⟩
  rw [hks]
  exact make_at M hf.ok hr (passAt tk σ) I2 (fun u => pick is ((u :: us) ++ ws ++ its)) (fun x => pick is ((x :: vs) ++ zs ++ dvs)) (ks.zip ws) (fun s' u ki => hbs s' (u :: us) ws ki (by rw [List.length_cons, ← r.length]; exact l1) (rz.length.symm.trans l2)) (fun x u rx => pick_vals (((show Vals (x :: vs) (u :: us) from .cons rx r).append rz).append rv) is) q2
theorem se_makeK0 {frz : Bool} (Hi : HasIX X k c qual st ps dts mf) (hr : Room (k + 1) X.A) (tk : Takes X W) (hb : KwD st "__init__" qual ps dts.length 1 ks is) (hkw : SK X W kws mk) (hg : Gl X c := by rfl)
    (hall : (backToKw pos (keywordEach kws X.env)).all (·.1.isSome) = true := by rfl) (hks : (backToKw pos (keywordEach kws X.env)).filterMap (·.1) = ks := by rfl)
    (hdb : (c == ("__debug__" : Str)) = false := by decide)
    (hpl : ((backTo pos (starEach [] X.env)).any (·.1) || (backToKw pos (keywordEach kws X.env)).any (·.1.isNone)) = false := by rfl) :
    SE X W (.Call (.Name c p) [] kws pos) (mMkK frz c mf ps.length 1 ks.length is dts aNil mk) := by
  obtain ⟨C, f, fd, dvs, hC, M, hf⟩ := Hi
  obtain ⟨its, rv, hbs⟩ := kwD_binds hf hb
  refine ⟨fun pins s σ H Q I h => ?_⟩
  obtain ⟨g, s0, rfl, R, S, h⟩ := h
  have h0 : wpR X.K X.mg W g σ Q ((mk s0 g.h).bind fun us h2 => if (pick is ((T.non :: []) ++ us ++ dts)).length = ps.length then fMkP frz c mf 1 ks.length is dts [] us h2 else .stuck) := h
  have key : tMA X.K X.mg W mk σ g.H (fun zs H2 => zs.length = ks.length ∧ ∀ x1 dx, H2 x1 = none → H2 dx = none → dx ≠ x1 → spM X.K X.mg ps.length mf (pick is ((.ref x1 :: []) ++ zs ++ dvs)) (upd (upd H2 dx (.own x1)) x1 (.ins C dx [])) (fun v H3 => v = .non ∧ Q (.ref x1) H3) (WE W σ)) :=
    ⟨g, s0, rfl, R, S, wpL_of h0 fun g2 us zs e2 R2 r2 h2 => by
      split at h2
      · rename_i q
        have h3 := h2
        unfold fMkP at h3
        split at h3
        · rename_i w
          refine ⟨by rw [← r2.length]; exact w.2, fun x1 dx hx hdx ne => make_useK (ts := []) (vs := []) R2 RepL.nil r2 hf.dr hC hx hdx ne (fun x => ?_) h2⟩
          rw [← q]
          exact pick_len (by simp)
        · exact h3.elim
      · exact h2.elim⟩
  refine wpAny_Call_Name_kw (ld_glob I hg hC ?_ hdb)
  refine PySem.W.callWith_KW0 (h₀ := X.base) I.ok.mod.kin M.kp hall ?_ hpl
  refine thn (hkw.run pos pins s σ g.H _ I key) fun ws s2 ⟨zs, H2, I2, rz, l2, q2⟩ => ⟨I2.kIn, ?_⟩
  rw [hks]
  exact make_at (us := []) M hf.ok hr (passAt tk σ) I2 (fun u => pick is ((u :: []) ++ ws ++ its)) (fun x => pick is ((x :: []) ++ zs ++ dvs)) (ks.zip ws) (fun s' u ki => hbs s' [u] ws ki rfl (rz.length.symm.trans l2)) (fun x u rx => pick_vals (((show Vals (x :: []) (u :: []) from .cons rx .nil).append rz).append rv) is) q2
end
end Mi
end part_Mi18
section part_Mi24
set_option maxRecDepth 100000
set_option maxHeartbeats 4000000
/-! Mi, part 24: own exceptions over any built-in base: their class, what their __init__ leaves. -/
namespace Mi
open PySem PySem.Spec PyProof.Rows L2
/-- a built-in base class -/
structure BaseB (B nI iI : String) (mB : List Value) : Prop where
  kf : PySem.W.KxsFacts B iI
  ef : ExcBaseFacts B nI iI mB
  sf : StoreFacts B mB "object.__setattr__" "object"
theorem base_VE : BaseB "ValueError" "ValueError.__new__" "ValueError.__init__" [.type "ValueError", .type "Exception", .type "BaseException", .type "object"] := ⟨PySem.W.kxs_ValueError, F.excBase_ValueError, F.store_ValueError⟩
theorem base_LE : BaseB "LookupError" "LookupError.__new__" "LookupError.__init__" [.type "LookupError", .type "Exception", .type "BaseException", .type "object"] := ⟨PySem.W.kxs_LookupError, F.excBase_LookupError, F.store_LookupError⟩
theorem base_IE : BaseB "IndexError" "IndexError.__new__" "IndexError.__init__" [.type "IndexError", .type "LookupError", .type "Exception", .type "BaseException", .type "object"] := ⟨PySem.W.kxs_IndexError, F.excBase_IndexError, F.store_IndexError⟩
/-- own classes, then the base's mro -/
def RefsB (mB l : List Value) : Prop := ∃ cs : List Addr, l = cs.map Value.ref ++ mB
def isRefV : Value → Bool
  | .ref _ => true
  | _ => false
def refsBb (mB l : List Value) : Bool := decide (l.dropWhile isRefV = mB)
theorem refsB_of {mB l : List Value} (h : refsBb mB l = true) : RefsB mB l := by
  have e := of_decide_eq_true h
  have key : ∀ l : List Value, ∃ cs : List Addr, l = cs.map Value.ref ++ l.dropWhile isRefV := by
    intro l
    induction l with
    | nil => exact ⟨[], rfl⟩
    | cons a r ih =>
      obtain ⟨cs, q⟩ := ih
      cases a with
      | ref c => exact ⟨c :: cs, by rw [List.map_cons, List.cons_append, List.dropWhile_cons]; exact congrArg _ q⟩
      | _ => exact ⟨[], rfl⟩
  obtain ⟨cs, q⟩ := key l
  exact ⟨cs, by rw [e] at q; exact q⟩
theorem RefsB.has {mB l : List Value} (h : RefsB mB l) (X : String) : l.contains (.type X) = mB.contains (.type X) := by
  obtain ⟨cs, rfl⟩ := h
  induction cs with
  | nil => rfl
  | cons c cs ih => rw [List.map_cons, List.cons_append, List.contains_cons, ih]; rfl
theorem RefsB.pass {B nI iI : String} {mB l : List Value} (hB : BaseB B nI iI mB) (h : RefsB mB l) (self : Value) : refuseLoop self "__setattr__" l = pure () := by
  obtain ⟨cs, rfl⟩ := h
  induction cs with
  | nil => exact hB.sf.passes self
  | cons c cs ih => rw [List.map_cons, List.cons_append, refuseLoop_ref]; exact ih
theorem RefsB.cons {mB l : List Value} (h : RefsB mB l) (c : Addr) : RefsB mB (.ref c :: l) := by
  obtain ⟨cs, rfl⟩ := h
  exact ⟨c :: cs, rfl⟩
theorem RefsB.obj {B nI iI : String} {mB l : List Value} (hB : BaseB B nI iI mB) (h : RefsB mB l) : l.contains (.type "object") = true := (h.has "object").trans hB.sf.hasOwner
theorem RefsB.ne {B nI iI : String} {mB l : List Value} (hB : BaseB B nI iI mB) (h : RefsB mB l) : l.isEmpty = false := by
  have z := h.obj hB
  cases l with
  | nil => cases z
  | cons _ _ => rfl
/-- what the written part says of the class at C -/
structure OexB (K : PySem.W.Frag) (nI : String) (mB : List Value) (C : Addr) : Prop where
  cls : ∃ nm q N bs bm sn sub ab col dd k0 k1 k2 k3 k5, K.lookup C = some (excClassObj nm q C N bs bm true sn sub ab col dd k0 k1 k2 k3 k5 nI) ∧ RefsB mB bm
  sa : PySem.W.findIn K (.ref C) "__setattr__" = some (some (.builtin "object.__setattr__"))
  exC : PySem.W.subIn K (.ref C) (.type "BaseException") = some true
  tyC : PySem.W.typeIn K (.ref C) = some (.type "type")
  kC : PySem.W.keepIn K (.ref C) = true
section
open Builtin Builtin.ObjectAttr
variable {prog : Program} {w : World} {A : Around} {E : Value → Shared → Prop} {R : Result → Shared → Prop} {hp : Heap} {g : Array GenState} {d : Drawn} {t : Nat} {os : OsState} {B nI iI : String} {mB : List Value}
/-- the walk of object.__setattr__ on such an exception as far as its own dict -/
theorem osaB {K : W.Frag} {name : Str} {tk : Tok} {v : Value} {x C : Addr} {ox : Obj} {od : Option Obj} {cd : ClassData} (hB : BaseB B nI iI mB) (X : K.In hp) (I : W.InstAt hp x ox C od) (hcd : W.clsIn K C = some cd) (hm : RefsB mB cd.mro) (ha : W.findIn K (.ref C) name = some none)
    (hq : wpAny (model prog w) A.in1 (storeInOwnDict (.ref x) (.ref C) (.str name tk) name v false)
      (fun fin s' => match fin with | .done f => R (.ok f) s' | .again c' => c'.quiet = true ∧ codeAny (model prog w) A c' R s') (fun e s' => R (.error e) s') ⟨hp, g, d, t, os⟩) :
    codeAny (model prog w) A (.call (.builtin "object.__setattr__") ⟨[.ref x, .str name tk, v], []⟩) R ⟨hp, g, d, t, os⟩ := by
  have SF := F.store_object
  have sub : W.Looks (model prog w) hp (isInstance (.ref x) (.type "object")) true :=
    I.type.andThen (W.looks_mroIn X (by unfold W.mroIn; rw [hcd, Option.bind_some, if_neg (by rw [hm.ne hB]; decide), hm.obj hB]))
  refine codeAny_call_builtin SF.slot.plain SF.entry (@W.check_slot (model prog w) _ _ ⟨hp, g, d, t, os⟩ "object.__setattr__" "object" "__setattr__" (.ref x) [.str name tk, v] [] _ SF.kind SF.split sub (SF.args (.ref x) (.str name tk) v) ?_)
  have hmr : W.Looks (model prog w) hp (mroOf (.ref C)) cd.mro := (W.looks_clsIn X hcd).andThen .now
  have L3 : W.Looks (model prog w) hp (storeTaker? none) none := .now
  rw [W.osa_eq, refuse_eq]
  refine wpAny_bind (wpAny_bind (I.type.at (wpAny_bind (hmr.at ?_))))
  rw [hm.pass hB]
  exact wpAny_pure (wpAny_bind (I.type.at (wpAny_bind ((W.looks_findIn X ha).at (wpAny_bind (L3.at hq))))))
theorem osaB_new {K : W.Frag} {name : Str} {tk : Tok} {v : Value} {x C : Addr} {fv : Array Value} {cd : ClassData} (hB : BaseB B nI iI mB)
    (X : K.In hp) (hx : hp.get? x = some { cls := .ref C, data := .fields fv }) (hcd : W.clsIn K C = some cd) (hm : RefsB mB cd.mro) (hh : cd.hasDict = true) (ha : W.findIn K (.ref C) name = some none)
    (hq : ∀ h' tk' dx, (∀ b o, b ≠ x → hp.get? b = some o → h'.get? b = some o) → hp.objs.size ≤ dx → dx ≠ x → h'.get? x = some { cls := .ref C, dict := some dx, data := .fields fv } →
      h'.Ns1 dx (fun y => if y = name then some v else none) → R (.ok (.ret .none)) ⟨h', g, d, tk', os⟩) :
    codeAny (model prog w) A (.call (.builtin "object.__setattr__") ⟨[.ref x, .str name tk, v], []⟩) R ⟨hp, g, d, t, os⟩ := by
  have hxs : x ≠ hp.objs.size := Nat.ne_of_lt (Heap.lt_size hx)
  refine osaB hB X (ox := { cls := .ref C, data := .fields fv }) (od := none) ⟨hx, rfl, rfl, trivial⟩ hcd hm ha ?_
  have hcls : W.Looks (model prog w) hp (classData C) cd := W.looks_clsIn X hcd
  obtain ⟨nm, bs, mro, ns, qn, hd, sn, sb, ab, col, del⟩ := cd
  dsimp only at hh
  subst hh
  unfold storeInOwnDict ownDictForStores
  repeat (first | with_reducible refine HandSPX.store_in_new ?_ ?_ | with_reducible refine wpAny_loadPart_at hx ?_ | with_reducible refine hcls.at ?_ | wp_step)
  · exact ⟨_, #[], _, (Heap.get?_update_ne _ _ _ _ hxs.symm).trans (Heap.get?_push_at rfl rfl), rfl, fun e he => absurd he (by simp), fun _ => rfl⟩
  · intro h' tk' hn' hs
    have hx₁ : (hp.push { cls := .type "dict", data := .dict #[] }).get? x = some { cls := .ref C, data := .fields fv } := Heap.get?_push_of_some _ hx
    refine hq h' tk' hp.objs.size (fun b o hb ho => ?_) (Nat.le_refl _) hxs.symm ?_ hn'
    · exact (hs.2 b (Nat.ne_of_lt (Heap.lt_size ho))).trans ((Heap.get?_update_ne _ _ _ _ hb).trans (Heap.get?_push_of_some _ ho))
    · exact (hs.2 x hxs).trans (Heap.get?_update_self _ hx₁ rfl)
theorem osaB_old {K : W.Frag} {name : Str} {tk : Tok} {v : Value} {x C dx : Addr} {fv : Array Value} {cd : ClassData} {m0 : Str → Option Value} {nl : List Str} (hB : BaseB B nI iI mB)
    (X : K.In hp) (hx : hp.get? x = some { cls := .ref C, dict := some dx, data := .fields fv }) (hns : hp.Ns1 dx m0) (hw : Within m0 nl) (hz : nl.length ≤ 1000) (hcd : W.clsIn K C = some cd) (hm : RefsB mB cd.mro) (hh : cd.hasDict = true)
    (ha : W.findIn K (.ref C) name = some none)
    (hq : ∀ h' tk', (∀ b o, b ≠ dx → hp.get? b = some o → h'.get? b = some o) → h'.Ns1 dx (fun y => if y = name then some v else m0 y) → R (.ok (.ret .none)) ⟨h', g, d, tk', os⟩) :
    codeAny (model prog w) A (.call (.builtin "object.__setattr__") ⟨[.ref x, .str name tk, v], []⟩) R ⟨hp, g, d, t, os⟩ := by
  obtain ⟨oD, esD, epD, hoD, hdD, _⟩ := hns.count hw
  refine osaB hB X (ox := { cls := .ref C, dict := some dx, data := .fields fv }) (od := some oD) ⟨hx, rfl, rfl, hoD⟩ hcd hm ha ?_
  have hcls : W.Looks (model prog w) hp (classData C) cd := W.looks_clsIn X hcd
  obtain ⟨nm, bs, mro, ns, qn, hd, sn, sb, ab, col, del⟩ := cd
  dsimp only at hh
  subst hh
  unfold storeInOwnDict ownDictForStores
  repeat (first | with_reducible refine PySem.OEX.store_in_old hns hw hz ?_ | with_reducible refine wpAny_loadPart_at hx ?_ | with_reducible refine hcls.at ?_ | wp_step)
  intro h' tk' hn' hs
  exact hq h' tk' (fun b o hb ho => (hs.2 b hb).trans ho) hn'
end
section
variable {X : Cx} {pins : List (Addr × Obj)} {σ : L2.St} {H : Hp} {s : Shared} {a C dx : Addr} {f : Str} {y : V} {u : Value} {fs : List (Str × V)} {Q : Unit → Shared → Prop} {E : Value → Shared → Prop} {A : Around} {B nI iI : String} {mB : List Value}
/-- self.f = y, the first one -/
theorem ostB_new (hB : BaseB B nI iI mB) (T : OexB X.K nI mB C) (I : Inv X pins σ H s) (e : H a = some (exo a C none)) (hno : PySem.W.findIn X.K (.ref C) f = some none) (ry : RelV y u)
    (h : ∀ dx s', H dx = none → dx ≠ a → Inv X pins σ (upd (upd H dx (exd dx [(f, y)])) a (exo a C (some dx))) s' → Q () s') : wpAny (model X.prog X.w) A (setAttr (.ref a) f u) Q E s := by
  obtain ⟨nm, q, N, bs, bm, sn, sub, ab, col, dd, k0, k1, k2, k3, k5, hC, hbm⟩ := T.cls
  have hcl : PySem.W.clsIn X.K C = some { name := nm, bases := bs, mro := .ref C :: bm, ns := N, qualname := q, hasDict := true, slotNames := sn, subclasses := sub, abstract := ab, collection := col, hasDel := false } := by unfold PySem.W.clsIn; rw [hC] <;> rfl
  obtain ⟨t1, ho⟩ := exo_at I.hok e
  obtain ⟨hp, g, d, t, os⟩ := s
  refine PySem.W.set_plain I.kIn (ox := { cls := .ref C, dict := none, data := .fields #[.ref t1, .none, .none, .none, .bool false, .none] }) (od := none) ⟨ho, rfl, rfl, trivial⟩ T.sa ?_
  refine osaB_new hB I.kIn ho hcl (hbm.cons C) rfl hno (fun h' tk' dx k dn dne hx hn => ?_)
  have hnd : H dx = none := I.hok.fresh dn
  have nd : ∀ {b : Addr} {o : Obj}, hp.get? b = some o → b ≠ dx := fun {b o} q => Nat.ne_of_lt (Nat.lt_of_lt_of_le (Heap.lt_size q) dn)
  have na : ∀ {b : Addr}, H b = none → b ≠ a := fun {b} n z => by
    rw [z, e] at n
    cases n
  have Un1 : Un X.fs [] H (upd (upd H dx (exd dx [(f, y)])) a (exo a C (some dx))) hp h' := {
    keep := fun b o q n _ _ => k b o (na n) q
    slot := fun b o q n _ _ => ⟨o.slots, k b o (na n) q⟩
    free := fun b o q n _ => by rw [upd_ne (na n), upd_ne (nd q)]; exact n
    there := fun b o q _ => by
      by_cases hb : b = a
      · exact ⟨_, by rw [hb]; exact hx⟩
      · exact ⟨o, k b o hb q⟩
    tups := fun b xs q => by rw [upd_ne (at_ne e q exo_tup), upd_ne (ne_of_none q hnd)]; exact q
    frzs := fun b o v q => by rw [upd_ne (at_ne e q exo_frz), upd_ne (ne_of_none q hnd)]; exact q
    tbls := fun b ps q => ⟨#[], by rw [upd_ne (at_ne e q exo_tbl), upd_ne (ne_of_none q hnd), q]; simp⟩ }
  refine h dx _ hnd dne (I.un (t' := tk') Un1 fun b o q => ?_)
  by_cases hb : b = a
  · subst hb
    rw [upd_same] at q
    cases q
    exact exo_ok hx
  · rw [upd_ne hb] at q
    by_cases hd : b = dx
    · subst hd
      rw [upd_same] at q
      cases q
      exact exd_ok hn (relO_put (fs := []) ry fun g => True.intro)
    · rw [upd_ne hd] at q
      exact (I.hok b o q).stay (fun c v hc z => k c v (by
          rcases hc with hc | hc
          · rw [hc]
            exact hb
          · exact at_ne e hc exo_own) z)
        (fun c hc => by rw [upd_ne (at_ne e hc exo_own), upd_ne (ne_of_none hc hnd)]; exact hc) (fun c xs hc => by rw [upd_ne (at_ne e hc exo_tup), upd_ne (ne_of_none hc hnd)]; exact hc)
/-- self.f = y, a further one -/
theorem ostB_old (hB : BaseB B nI iI mB) (T : OexB X.K nI mB C) (I : Inv X pins σ H s) (e : H a = some (exo a C (some dx))) (ed : H dx = some (exd dx fs)) (hl : fs.length ≤ 900) (hno : PySem.W.findIn X.K (.ref C) f = some none) (ry : RelV y u)
    (h : ∀ s', Inv X pins σ (upd H dx (exd dx ((f, y) :: fs))) s' → Q () s') : wpAny (model X.prog X.w) A (setAttr (.ref a) f u) Q E s := by
  obtain ⟨nm, q, N, bs, bm, sn, sub, ab, col, dd, k0, k1, k2, k3, k5, hC, hbm⟩ := T.cls
  have hcl : PySem.W.clsIn X.K C = some { name := nm, bases := bs, mro := .ref C :: bm, ns := N, qualname := q, hasDict := true, slotNames := sn, subclasses := sub, abstract := ab, collection := col, hasDel := false } := by unfold PySem.W.clsIn; rw [hC] <;> rfl
  obtain ⟨t1, ho⟩ := exo_at I.hok e
  obtain ⟨mA, hns, rel⟩ := exd_at I.hok ed
  have hw := within_of rel
  obtain ⟨hp, g, d, t, os⟩ := s
  obtain ⟨oD, _, _, hoD, _, _⟩ := hns.count hw
  refine PySem.W.set_plain I.kIn (ox := { cls := .ref C, dict := some dx, data := .fields #[.ref t1, .none, .none, .none, .bool false, .none] }) (od := some oD) ⟨ho, rfl, rfl, hoD⟩ T.sa ?_
  refine osaB_old hB I.kIn ho hns hw (by rw [List.length_map]; omega) hcl (hbm.cons C) rfl hno (fun h' tk' k hn => ?_)
  have hd : ∃ o, h'.get? dx = some o := by
    obtain ⟨o, _, _, e', _⟩ := hn
    exact ⟨o, e'⟩
  exact h _ (I.write (t' := tk') (x := dx) (e := dx) (o := exd dx ((f, y) :: fs)) (by rw [ed]; exact True.intro) (.inl rfl) k hd (exd_ok hn (relO_put ry rel)))
end
/-- self.f = e in such an __init__ -/
def tOstB (K : PySem.W.Frag) (nI : String) (mB : List Value) (f : Str) (to te : TE) : TS := fun D σ H => te σ H fun y H1 => to σ H1 fun x H2 => ∃ a C : Addr, x = .ref a ∧ OexB K nI mB C ∧ PySem.W.findIn K (.ref C) f = some none ∧
  ((H2 a = some (exo a C none) ∧ ∀ dx, H2 dx = none → dx ≠ a → D.nx σ (upd (upd H2 dx (exd dx [(f, y)])) a (exo a C (some dx)))) ∨
    ∃ (dx : Addr) (fs : List (Str × V)), H2 a = some (exo a C (some dx)) ∧ H2 dx = some (exd dx fs) ∧ fs.length ≤ 900 ∧ D.nx σ (upd H2 dx (exd dx ((f, y) :: fs))))
theorem psB_ost {X : Cx} {o e : Expr} {to te : TE} {f : Str} {p' pos : Pos} {B nI iI : String} {mB : List Value} (hB : BaseB B nI iI mB) (ho : PE X o to) (he : PE X e te) (hs : swapsWith e (some (.Attribute o f p')) pos.line X.env = pure false := by rfl) : PS X (.Assign [.Attribute o f p'] e pos) (tOstB X.K nI mB f to te) := by
  refine ⟨fun pins s σ H D I h => ?_⟩
  refine plainObj_wpAny_Assign_Attribute (thn (he.run pins s σ H _ I h) fun v s1 ⟨y, H1, I1, r1, q1⟩ => thn (ho.run pins s1 σ H1 _ I1 q1) fun u s2 ⟨x, H2, I2, r2, a, C, ex, T, hno, q⟩ => ?_) hs
  subst ex
  obtain rfl : u = Value.ref a := r2
  rcases q with ⟨ea, q⟩ | ⟨dx, fs, ea, ed, hl, q⟩
  · exact ostB_new hB T I2 ea hno r1 fun dx s' n ne J => ⟨σ, _, J, q dx n ne⟩
  · exact ostB_old hB T I2 ea ed hl hno r1 fun s' J => ⟨σ, _, J, q⟩
end Mi
end part_Mi24
section part_Mi25
set_option maxRecDepth 100000
set_option maxHeartbeats 4000000
/-! Mi, part 25: super().__init__(..) in an own exception over any built-in base; its __init__ as a def. -/
namespace Mi
open PySem PySem.Spec PyProof.Rows L2
section
variable {prog : Program} {w : World} {A : Around} {E : Value → Shared → Prop} {h : Heap} {g : Array GenState} {d : Drawn} {t : Nat} {os : OsState}
variable {B nI iI : String} {mB : List Value} {nm q : Str} {C N : Addr} {bs bm : List Value} {hdct : Bool} {sn : List Str} {sub : List Value} {ab : Bool} {col : Option Bool} {dd : Option Addr} {k0 k1 k2 k3 k5 : Option Value}
theorem mw_callB (hB : BaseB B nI iI mB) {u e t0 : Addr} {rest : List Value} {Q : Value → Shared → Prop}
    (hC : h.get? C = some (excClassObj nm q C N bs bm hdct sn sub ab col dd k0 k1 k2 k3 k5 nI)) (he : h.get? e = some (HandSPX.excO C t0)) (hu : h.get? u = some (PySem.W.kxs_mw iI e)) (hrest : rest.length ≤ sizeLine)
    (hq : ∀ h' t1, (∀ b o, b ≠ e → h.get? b = some o → h'.get? b = some o) → h'.get? e = some (HandSPX.excO C t1) → Q .none ⟨h', g, d, t, os⟩) :
    wpAny (model prog w) A (call (.ref u) rest) Q E ⟨h, g, d, t, os⟩ := by
  refine wpAny_call (codeAny_of_tree ?_)
  show wpAny _ A.in1 (callAny (.ref u) ⟨rest, []⟩) _ _ _
  simp only [callAny]
  refine wpAny_bind (wpAny_load hu ?_)
  simp only [PySem.W.kxs_mw, show (Value.type "method-wrapper" == Value.type "method" || Value.type "method-wrapper" == Value.type "builtin_function_or_method" || Value.type "method-wrapper" == Value.type "method-wrapper") = true by decide, if_true]
  refine W.KFB.if_so (by decide) ?_
  refine wpAny_bind (PySem.ESX.check_bound hB.ef hC he rfl ?_)
  refine wpAny_bind (wpAny_pure (wpAny_pure ?_))
  refine ⟨plainId_quiet hB.ef.init.plain _, codeAny_builtin hB.ef.initEntry ?_⟩
  refine PySem.W.exc_init_tree (cls := .ref C) (t0 := t0) (dv := none) (c2 := .none) (c3 := .none) (b4 := .bool false) he hrest fun h' k1 k2 k3 => ?_
  exact hq h' _ k1 k2
end
section
variable {prog : Program} {w : World} {A : Around} {E : Value → Shared → Prop} {s : Shared} {K : PySem.W.Frag} {env : Env} {f cda cc x C : Addr} {m mg mb : Str → Option Value}
/-- super().__init__(e), at the code of its def -/
theorem supB_stmt {B nI iI : String} {mB : List Value} (hB : BaseB B nI iI mB) {P0 : Program} {body : List Stmt} {p0 p1 p2 p4 p5 : Pos} {e : Expr} {fd : FuncData} {ar : Arg} {vs : Array Value} {file : Str} {tf : Tok} {oc ccl cl : Value} {od cdd cld : Option Addr} {osl ccs csl : Array (Option Value)} {t1 : Addr} {Q : Flow → Shared → Prop}
    (X : K.In s.heap) (T : OexB K nI mB C) (hg : s.heap.Ns mainGlobals mg) (hb : s.heap.Ns builtinsNs mb) (hbb : mb "super" = some (.type "super")) (hms : mg "super" = none) (eg : env.globals = mainGlobals) (eb : env.builtins = builtinsNs) (hns : s.heap.Ns env.locals m)
    (hfu : env.func = some f) (hco : env.code = .ref cda) (hcell : env.cells.lookup ("__class__" : Str) = some cc)
    (hf : K.lookup f = some ⟨oc, od, .func fd, osl⟩) (hp : (fd.params.posonlyargs ++ fd.params.args).head? = some ar) (hv : m ar.arg = some (.ref x))
    (hcode : K.lookup cda = some ⟨ccl, cdd, .fields vs, ccs⟩) (hvs : vs[2]? = some (.str file tf)) (hfile : ((prog.main.file : Str) == file) = true)
    (hcc : K.lookup cc = some ⟨cl, cld, .cell (some (.ref C)), csl⟩) (hsub : PySem.W.mroIn K C (.ref C) = some true) (ho : PySem.W.nsIn K cStatics "thirdparty.any" = some none) (hsi : PySem.W.ks_superIn K C C "__init__" = some (some (.builtin iI))) (hVE : PySem.W.subIn K (.ref C) (.type B) = some true)
    (hks : env.scope.names.lookup ("super" : Str) = some .globalImplicit) (hkc : env.scope.names.lookup ("__class__" : Str) = some .free) (hka : env.scope.names.lookup ar.arg = some .local) (hk : env.scope.kind = .function)
    (htop : (prog.main.scope.names.lookup ("super" : Str)).isSome = false) (hx : s.heap.get? x = some (HandSPX.excO C t1))
    (he : ∀ s' (R : Value → Shared → Prop), (∀ v tk, R v { s' with toks := tk }) → wpAny (model prog w) A (eval e env) R E s')
    (hi : interactive env = false) (hpl : (backTo p4 (starEach [] env)).any (·.1) = false) (hnil : backTo p4 (starEach [] env) = []) (hst : starEach [e] env = (false, eval e env) :: starEach [] env)
    (hsw : swapsWith (.Call (.Attribute (.Call (.Name "super" p0) [] [] p1) "__init__" p2) [e] [] p4) none p5.line env = pure false)
    {pl : Sem Bool} (hev : eval (.Call (.Attribute (.Call (.Name "super" p0) [] [] p1) "__init__" p2) [e] [] p4) env = (do
      let ov ← attributeBase (.Call (.Name "super" p0) [] [] p1) "__init__" env (eval (.Call (.Name "super" p0) [] [] p1) env)
      standAt p2.atName
      let (f, first) ← holding [ov] (getMethod ov "__init__" pl)
      callWith p4 f first (backTo p4 (starEach [e] env)) []))
    (h : ∀ h' tk t2, (∀ b o, b ≠ x → s.heap.get? b = some o → h'.get? b = some o) → h'.get? x = some (HandSPX.excO C t2) → Q .next { s with heap := h', toks := tk }) :
    PySem.wpAt (model prog w) A (.func body env) (exec (.Expr (.Call (.Attribute (.Call (.Name "super" p0) [] [] p1) "__init__" p2) [e] [] p4) p5) env) Q E s := by
  obtain ⟨nm, qn, N, bs, bm, sn, sub, ab, col, dd, k0, k1, k2, k3, k5, hC, hbm⟩ := T.cls
  obtain ⟨cdC, hcd⟩ : ∃ cd, PySem.W.clsIn K C = some cd := by
    unfold PySem.W.ks_superIn at hsi
    cases q : PySem.W.clsIn K C with
    | none => rw [q] at hsi; cases hsi
    | some cd => exact ⟨cd, rfl⟩
  obtain ⟨oD, hD1, hD2⟩ : ∃ oD, s.heap.get? C = some oD ∧ oD.data = .cls cdC := by
    unfold PySem.W.clsIn at hcd
    split at hcd
    · rename_i c d cd' sl ho'
      cases hcd
      exact ⟨_, X _ _ ho', rfl⟩
    · cases hcd
  obtain ⟨hh, g, d, t, os⟩ := s
  refine PySem.ks_wpAt_Expr_any (PySem.ks_wpAt_MethodCall (pl := pl) (PySem.ks_wpAt_super_base (env := env) hks hkc (by decide) hfu (X _ _ hf) rfl hp hco (X _ _ hcode) rfl hvs hfile htop ?_) hev) hi hsw
  refine PySem.W.ks_loadName_global hk hks (Calls.loadGlobal_builtin (by rw [eg]; exact hg) hms (by rw [eb]; exact hb) hbb ⟨rfl, ?_⟩)
  refine wpAny_loadName_free hk hkc hcell ⟨_, X _ _ hcc, rfl⟩ ?_
  refine wpAny_loadName_local hk hka hns hv ?_
  refine PySem.ks_wpAny_isType_cls hD1 hD2 ⟨rfl, ?_⟩
  refine PySem.ks_wpAny_call_super hD1 hD2 hx rfl (fun c z => by cases z) (PySem.W.looks_mroIn X hsub) (fun h1 e1 k1 => ?_)
  have X1 : K.In h1 := fun b o z => k1 b o (X b o z)
  have hx1 : h1.get? x = some (HandSPX.excO C t1) := k1 _ _ hx
  have I1 : PySem.W.InstAt h1 x (HandSPX.excO C t1) C none := ⟨hx1, rfl, rfl, trivial⟩
  have hal : PySem.W.alongIn K "__init__" ((cdC.mro.dropWhile (· != .ref C)).drop 1) = some (some (.builtin iI)) := by
    unfold PySem.W.ks_superIn at hsi
    rw [hcd] at hsi
    exact hsi
  refine PySem.W.kxs_getMethod hB.kf e1 (PySem.W.looks_opaque X1 ho) (l₀ := cdC.mro) (fun A Q E s k q => wpAny_bind ((PySem.W.looks_clsIn X1 hcd) A _ E s k (wpAny_pure q))) rfl X1 hal (I1.type.andThen (PySem.W.looks_subIn X1 hVE)) (PySem.W.ks_ne X1 I1 hcd) (by decide) ?_
  have hmw : (h1.push (PySem.W.kxs_mw iI x)).get? h1.objs.size = some (PySem.W.kxs_mw iI x) := Heap.get?_push_size h1 rfl
  have k2 : ∀ b o, h1.get? b = some o → (h1.push (PySem.W.kxs_mw iI x)).get? b = some o := fun b o z => Heap.get?_push_of_some _ z
  rw [hst]
  refine PySem.W.kxs_callWith (i := iI) (x := x) (by show (false || (backTo p4 (starEach [] env)).any (·.1)) = false; rw [hpl]; rfl) (Calls.evalArgs_plain (Calls.spliced_cons (he _ _ fun v tk => ?_)))
  show wpAny _ _ (spliced (backTo p4 (starEach [] env))) _ _ _
  rw [hnil]
  refine Calls.spliced_nil ⟨hmw, ?_⟩
  refine mw_callB hB (t0 := t1) (by exact k2 _ _ (X1 _ _ hC)) (k2 _ _ hx1) hmw (by show 1 ≤ sizeLine; rw [sizeLine_eq]; omega) fun h' t2 k3 e3 => ?_
  exact h h' _ t2 (fun b o nb z => k3 b o nb (k2 b o (k1 b o z))) e3
end
open NdefX (NF envF ncx startF NScope CellsAt inv_startN)
/-- what the written part says of it -/
structure SupB (B nI iI : String) (mB : List Value) (P : Program) (K : PySem.W.Frag) (mg : Str → Option Value) (C f cc : Addr) (F : NF) (doc pm ctv : Value) : Prop where
  fn : ∃ oc od osl, K.lookup f = some ⟨oc, od, .func (F.fd doc pm ctv), osl⟩
  cl : F.cl = [(("__class__" : Str), cc)]
  cd : PySem.W.codeIn K (.ref F.c) F.qual = true
  file : ∃ ccl cdd vs ccs file tf, K.lookup F.c = some ⟨ccl, cdd, .fields vs, ccs⟩ ∧ vs[2]? = some (.str file tf) ∧ ((P.main.file : Str) == file) = true
  cell : ∃ cl cld csl, K.lookup cc = some ⟨cl, cld, .cell (some (.ref C)), csl⟩
  sub : PySem.W.mroIn K C (.ref C) = some true
  op : PySem.W.nsIn K cStatics "thirdparty.any" = some none
  si : PySem.W.ks_superIn K C C "__init__" = some (some (.builtin iI))
  ve : PySem.W.subIn K (.ref C) (.type B) = some true
  ex : OexB K nI mB C
  top : (P.main.scope.names.lookup ("super" : Str)).isSome = false
  ms : mg "super" = none
/-- the text of its first row -/
structure SupT (F : NF) (ps : List Str) (z : Str) (j : Nat) (p0 p1 p2 p3 p4 p5 : Pos) (rest : List Stmt) : Prop where
  body : F.body = .Expr (.Call (.Attribute (.Call (.Name "super" p0) [] [] p1) "__init__" p2) [.Constant (.str z) j p3] [] p4) p5 :: rest
  ks : F.scope.names.lookup ("super" : Str) = some .globalImplicit
  arg : ∃ ar, (F.params.posonlyargs ++ F.params.args).head? = some ar ∧ ps.head? = some ar.arg
  ev : ∀ f L : Addr, ∃ pl : Sem Bool, eval (.Call (.Attribute (.Call (.Name "super" p0) [] [] p1) "__init__" p2) [.Constant (.str z) j p3] [] p4) (envF F f L) = (do
      let ov ← attributeBase (.Call (.Name "super" p0) [] [] p1) "__init__" (envF F f L) (eval (.Call (.Name "super" p0) [] [] p1) (envF F f L))
      standAt p2.atName
      let (f1, first) ← holding [ov] (getMethod ov "__init__" pl)
      callWith p4 f1 first (backTo p4 (starEach [.Constant (.str z) j p3] (envF F f L))) [])
theorem supInitB_ok {B nI iI : String} {mB : List Value} (hB : BaseB B nI iI mB) {P : Program} {w : World} {K : PySem.W.Frag} {mg : Str → Option Value} {base : Heap} {CX : CXT} {k : Nat} {C f cc : Addr} {F : NF} {doc pm ctv : Value} {N ps : List Str} {rest : List Stmt} {sp : Sp} (U : SupB B nI iI mB P K mg C f cc F doc pm ctv) {z : Str} {j : Nat} {p0 p1 p2 p3 p4 p5 : Pos} (V1 : SupT F ps z j p0 p1 p2 p3 p4 p5 rest) (S : NScope N ps ["__class__"] F.scope)
    (len : ∀ vs H Q E, sp vs H Q E → vs.length = ps.length) (self : ∀ vs H Q E, sp vs H Q E → ∃ a zs, vs = .ref a :: zs ∧ H a = some (exo a C none))
    (hrest : ∀ (A : Around) (outer : List Env) (s : Shared) (H : Hp) (vs : List V) (Q : VK) (E : XK), Room k (A.deeper (envF F f s.heap.objs.size)) → sp vs H Q E →
      ∃ t, PSs (ncx CX P w K mg base N F f A outer s H E) rest t ∧ t { nx := fun _ H' => Q .non H', rt := Q } (startF N vs [some (V.ref C)]) H) :
    FnOk P w K mg base CX (k + 1) f (F.fd doc pm ctv) ps sp := by
  refine ⟨len, fun A outer s H args us vs Q E hr e0 hb r hsp => ?_⟩
  have hl := len _ _ _ _ hsp
  obtain ⟨a, zs, rfl, ha⟩ := self _ _ _ _ hsp
  have lim : s.heap.NoLimit := e0.mod.nolimit.keeps fun b o e => (e0.bs b o e).1
  have KI : K.In s.heap := fun b o z => (e0.bs b o (e0.mod.kin b o z)).1
  obtain ⟨oc, od, osl, hf⟩ := U.fn
  obtain ⟨ccl, cdd, cvs, ccs, file, tf, hcode, hvs, hfile⟩ := U.file
  obtain ⟨cl, cld, csl, hcc⟩ := U.cell
  have hccs : s.heap.get? cc = some ⟨cl, cld, .cell (some (.ref C)), csl⟩ := KI _ _ hcc
  have hccH : H cc = none := (e0.bs _ _ (e0.mod.kin _ _ hcc)).2
  refine codeAny_call_function hr.depth (KI _ _ hf) rfl S.co S.gen rfl (PySem.W.codeRec_of KI U.cd) (hb _ _ _ _ ?_)
  refine wpAny_newFunctionEnv S.nocell (fun ⟨n, _⟩ hy => S.par n (List.of_mem_zip hy).1) (fun h1 hns hsb => ⟨lim.fresh _ hsb, ?_⟩) S.kind
  have kp : ∀ b o, s.heap.get? b = some o → h1.get? b = some o := fun b o e => hsb.extBut b o (Nat.ne_of_lt (Heap.lt_size e)) (Heap.get?_push_of_some _ e)
  have Cel : CellsAt F.cl ["__class__"] [some (V.ref C)] s.heap H := by
    rw [U.cl]
    refine ⟨rfl, fun y c e => ?_, fun x y c e1 e2 => ?_, fun i y e => ?_⟩
    · rw [List.lookup_cons] at e
      split at e
      · cases e; exact ⟨hccH, some (.ref C), _, hccs, rfl⟩
      · cases e
    · rw [List.lookup_cons] at e1 e2
      split at e1
      · rename_i q1
        split at e2
        · rename_i q2
          rw [eq_of_beq q1, eq_of_beq q2]
        · cases e2
      · cases e1
    · cases i with
      | zero =>
        cases e
        refine ⟨cc, by simp [List.lookup_cons], fun v hv => ?_⟩
        cases hv
        exact ⟨.ref C, rfl, _, hccs, rfl⟩
      | succ i => simp at e
  have I : Inv (ncx CX P w K mg base N F f A outer s H E) [] (startF N (.ref a :: zs) [some (V.ref C)]) H { s with heap := h1, toks := s.toks + (ps.zip us).length } := inv_startN S hr.hd e0 hl r Cel hns kp
  obtain ⟨t, ht, hq⟩ := hrest A outer s H (.ref a :: zs) Q E (hr.deeper _) hsp
  have hbody := V1.body
  obtain ⟨pl, hev⟩ := V1.ev f s.heap.objs.size
  obtain ⟨ar, har, hps⟩ := V1.arg
  show codeAny _ _ (.func F.body (envF F f s.heap.objs.size)) _ _
  refine PySem.ks_codeAny_funcAt ?_
  have hx : execs F.body (envF F f s.heap.objs.size) = execs (.Expr (.Call (.Attribute (.Call (.Name "super" p0) [] [] p1) "__init__" p2) [.Constant (.str z) j p3] [] p4) p5 :: rest) (envF F f s.heap.objs.size) := by rw [hbody]
  rw [hx]
  refine PySem.ks_wpAt_execs_cons ?_
  obtain ⟨tt, htt⟩ := exo_at I.hok ha
  have X1 : K.In h1 := fun b o z => kp _ _ (KI b o z)
  obtain ⟨mb, hmb, hmbb⟩ := e0.mod.blt
  have g1 : h1.Ns mainGlobals mg := (e0.mod.glob.keeps fun b o z => (e0.bs b o z).1).keeps kp
  have g2 : h1.Ns builtinsNs mb := (hmb.keeps fun b o z => (e0.bs b o z).1).keeps kp
  have har' : (F.params.posonlyargs ++ F.params.args).head? = some ar := har
  have hlen : us.length = ps.length := by rw [← r.length]; exact hl
  have hv : (ps.zip us).reverse.lookup ar.arg = some (.ref a) := by
    cases ps with
    | nil => cases hps
    | cons q qs =>
      cases r with
      | cons r1 r2 =>
        cases r1
        cases hps
        refine NdefX.zip_look (i := 0) ?_ rfl rfl
        have q : (List.take ((ar.arg :: qs).length + [("__class__" : Str)].length) N).Nodup := S.nd.sublist (List.take_sublist ((ar.arg :: qs).length + [("__class__" : Str)].length) N)
        rw [S.pre] at q
        exact (List.nodup_append.mp q).1
  have hin : interactive (envF F f s.heap.objs.size) = false := by
    show (F.scope.kind == .module && _) = false
    rw [S.kind]
    rfl
  refine supB_stmt hB (K := K) (P0 := P) (C := C) (x := a) (f := f) (cc := cc) (ar := ar) X1 U.ex g1 g2 ?_ U.ms rfl rfl hns rfl rfl ?_ hf har' hv hcode hvs hfile hcc U.sub U.op U.si U.ve V1.ks ?_ ?_ S.kind U.top htt ?_ hin rfl rfl rfl rfl hev ?_
  · rw [hmbb _ (by decide)]; rfl
  · show F.cl.lookup _ = _
    rw [U.cl]; rfl
  · exact S.frk _ (List.mem_singleton.mpr rfl)
  · exact S.par _ (by cases ps with | nil => cases hps | cons q qs => cases hps; exact List.mem_cons_self ..)
  · intro s' R hR
    exact Calls.Constant_str (hR _ _)
  · intro h' tk t2 k hx'
    refine wpAt_of_wpAny ?_
    have J0 := I.write (t' := tk) (x := a) (e := a) (o := exo a C none) (by rw [ha]; exact True.intro) (.inl rfl) k ⟨_, hx'⟩ (exo_ok hx')
    have eu : upd H a (exo a C none) = H := by
      funext b
      by_cases hb : b = a
      · rw [hb, upd_same, ha]
      · rw [upd_ne hb]
    rw [eu] at J0
    refine wpAny_mono (ht.run [] _ (startF N (.ref a :: zs) [some (V.ref C)]) H _ J0 hq) (fun fl s' hs => ?_) fun e s' hs => hs
    have fin : ∀ {σ' : L2.St} {H' : Hp} {v : V} {u : Value}, Inv (ncx CX P w K mg base N F f A outer s H E) [] σ' H' s' → L2.RelV v u → Q v H' → CE outer P w H s Q u s' :=
      fun {σ' H' v u} J rv q => ⟨v, H', J.os, J.bare, J.base, J.hok, rv, q⟩
    cases fl with
    | ret u =>
      obtain ⟨v, σ', H', J, rv, q⟩ := hs
      exact fin J rv q
    | next =>
      obtain ⟨σ', H', J, q⟩ := hs
      exact fin (v := V.non) (u := Value.none) J rfl q
    | brk =>
      obtain ⟨_, _, _, q⟩ := hs
      exact False.elim q
    | cont =>
      obtain ⟨_, _, _, q⟩ := hs
      exact False.elim q
end Mi
end part_Mi25
section part_Mi26
set_option maxRecDepth 100000
set_option maxHeartbeats 4000000
/-! Mi, part 26: an own exception as a value: made, its fields. -/
namespace Mi
open PySem PySem.Spec PyProof.Rows L2
open NdefX (NF envF ncx startF NScope CellsAt inv_startN)
/-! ### the texts of such an __init__ -/
def supE (z : Str) (j : Nat) (p0 p1 p2 p3 p4 p5 : Pos) : Stmt := .Expr (.Call (.Attribute (.Call (.Name "super" p0) [] [] p1) "__init__" p2) [.Constant (.str z) j p3] [] p4) p5
def asgC (t z : Str) (j : Nat) (q0 q1 q2 q3 : Pos) : Stmt := .Assign [.Attribute (.Name "self" q0) t q1] (.Constant (.str z) j q2) q3
def asgN (f : Str) (q0 q1 q2 q3 : Pos) : Stmt := .Assign [.Attribute (.Name "self" q0) f q1] (.Name f q2) q3
def spE0 (C : Addr) (z : Str) : Sp := fun vs H Q _ => ∃ a, vs = [V.ref a] ∧ H a = some (exo a C none) ∧ ∀ d, H d = none → d ≠ a → Q .non (upd (upd H d (exd d [("tag", .str z)])) a (exo a C (some d)))
def spE1 (C : Addr) (z f : Str) : Sp := fun vs H Q _ => ∃ a y, vs = [V.ref a, y] ∧ H a = some (exo a C none) ∧ ∀ d, H d = none → d ≠ a → Q .non (upd (upd (upd H d (exd d [("tag", .str z)])) a (exo a C (some d))) d (exd d [(f, y), ("tag", .str z)]))
/-- the call of super().__init__ is a plain method call -/
def SupEv (z : Str) (j : Nat) (p0 p1 p2 p3 p4 : Pos) : Prop := ∀ env : Env, ∃ pl : Sem Bool, eval (.Call (.Attribute (.Call (.Name "super" p0) [] [] p1) "__init__" p2) [.Constant (.str z) j p3] [] p4) env = (do
      let ov ← attributeBase (.Call (.Name "super" p0) [] [] p1) "__init__" env (eval (.Call (.Name "super" p0) [] [] p1) env)
      standAt p2.atName
      let (f1, first) ← holding [ov] (getMethod ov "__init__" pl)
      callWith p4 f1 first (backTo p4 (starEach [.Constant (.str z) j p3] env)) [])
section
variable {P : Program} {w : World} {K : PySem.W.Frag} {mg : Str → Option Value} {base : Heap} {CX : CXT} {k : Nat} {C f cc : Addr} {F : NF} {doc pm ctv : Value} {B nI iI : String} {mB : List Value}
theorem exn0_ok (hB : BaseB B nI iI mB) (U : SupB B nI iI mB P K mg C f cc F doc pm ctv) (hT : PySem.W.findIn K (.ref C) "tag" = some none) {z : Str} {j j2 : Nat} {p0 p1 p2 p3 p4 p5 q0 q1 q2 q3 : Pos} (hb : F.body = [supE z j p0 p1 p2 p3 p4 p5, asgC "tag" z j2 q0 q1 q2 q3]) (hev : SupEv z j p0 p1 p2 p3 p4)
    (S : NScope ["self", "__class__"] ["self"] ["__class__"] F.scope) (ks : F.scope.names.lookup ("super" : Str) = some .globalImplicit) (arg : ∃ ar, (F.params.posonlyargs ++ F.params.args).head? = some ar ∧ ar.arg = ("self" : Str)) :
    FnOk P w K mg base CX (k + 1) f (F.fd doc pm ctv) ["self"] (spE0 C z) := by
  obtain ⟨ar, ha, hs⟩ := arg
  refine supInitB_ok hB U ⟨hb, ks, ⟨ar, ha, by rw [hs]; rfl⟩, fun f L => hev _⟩ S (fun vs H Q E ⟨a, e, _⟩ => by rw [e]; rfl) (fun vs H Q E ⟨a, e, h, _⟩ => ⟨a, [], e, h⟩) ?_
  intro A outer s H vs Q E hr ⟨a, e, h1, h2⟩
  subst e
  refine ⟨_, pss_cons (psB_ost hB (pe_var (i := 0) (x := "self") rfl (.inl (S.par _ (List.mem_cons_self ..)))) pe_str rfl) pss_nil, ?_⟩
  exact ⟨V.ref a, rfl, a, C, rfl, U.ex, hT, .inl ⟨h1, fun d n1 n2 => h2 d n1 n2⟩⟩
theorem exn1_ok (hB : BaseB B nI iI mB) (U : SupB B nI iI mB P K mg C f cc F doc pm ctv) (hT : PySem.W.findIn K (.ref C) "tag" = some none) {z x : Str} (hX : PySem.W.findIn K (.ref C) x = some none) {j j2 : Nat} {p0 p1 p2 p3 p4 p5 q0 q1 q2 q3 r0 r1 r2 r3 : Pos} (hb : F.body = [supE z j p0 p1 p2 p3 p4 p5, asgC "tag" z j2 q0 q1 q2 q3, asgN x r0 r1 r2 r3]) (hev : SupEv z j p0 p1 p2 p3 p4)
    (S : NScope ["self", x, "__class__"] ["self", x] ["__class__"] F.scope) (ks : F.scope.names.lookup ("super" : Str) = some .globalImplicit) (arg : ∃ ar, (F.params.posonlyargs ++ F.params.args).head? = some ar ∧ ar.arg = ("self" : Str))
    (hd : (x == ("__debug__" : Str)) = false) (hcd : (x == ("__classdict__" : Str)) = false) :
    FnOk P w K mg base CX (k + 1) f (F.fd doc pm ctv) ["self", x] (spE1 C z x) := by
  obtain ⟨ar, ha, hs⟩ := arg
  refine supInitB_ok hB U ⟨hb, ks, ⟨ar, ha, by rw [hs]; rfl⟩, fun f L => hev _⟩ S (fun vs H Q E ⟨a, y, e, _⟩ => by rw [e]; rfl) (fun vs H Q E ⟨a, y, e, h, _⟩ => ⟨a, [y], e, h⟩) ?_
  intro A outer s H vs Q E hr ⟨a, y, e, h1, h2⟩
  subst e
  refine ⟨_, pss_cons (psB_ost hB (pe_var (i := 0) (x := "self") rfl (.inl (S.par _ (List.mem_cons_self ..)))) pe_str rfl) (pss_cons (psB_ost hB (pe_var (i := 0) (x := "self") rfl (.inl (S.par _ (List.mem_cons_self ..)))) (pe_var (i := 1) (x := x) rfl (.inl (S.par _ (List.mem_cons_of_mem _ (List.mem_cons_self ..)))) hd hcd) rfl) pss_nil), ?_⟩
  refine ⟨V.ref a, rfl, a, C, rfl, U.ex, hT, .inl ⟨h1, fun d n1 n2 => ?_⟩⟩
  refine ⟨y, rfl, V.ref a, rfl, a, C, rfl, U.ex, hX, .inr ⟨d, _, upd_same, ?_, ?_, h2 d n1 n2⟩⟩
  · rw [upd_ne n2, upd_same]
  · exact Nat.le_of_ble_eq_true rfl
end
end Mi
end part_Mi26
section part_Mi27
set_option maxRecDepth 100000
set_option maxHeartbeats 4000000
/-! Mi, part 27: C(e) as a value, C an own exception. -/
namespace Mi
open PySem PySem.Spec PyProof.Rows L2
section
variable {X : Cx} {pins : List (Addr × Obj)} {σ : L2.St} {H : Hp} {s : Shared} {a C d : Addr} {fs : List (Str × V)}
/-- the made exception is called so from now on -/
theorem Inv.named (I : Inv X pins σ H s) (ea : H a = some (exo a C (some d))) (ed : H d = some (exd d fs)) (ne : d ≠ a) : Inv X pins σ (upd (upd H d (.xd fs)) a (XO C a d)) s := by
  obtain ⟨hp, g, dr, t, os⟩ := s
  obtain ⟨t1, ho⟩ := exo_at I.hok ea
  obtain ⟨mA, hns, rel⟩ := exd_at I.hok ed
  have nn : ∀ {b : Addr}, H b = none → b ≠ a ∧ b ≠ d := fun {b} n => ⟨fun z => (by rw [z, ea] at n; cases n), fun z => (by rw [z, ed] at n; cases n)⟩
  have U : Un X.fs [] H (upd (upd H d (.xd fs)) a (XO C a d)) hp hp := {
    keep := fun b o q n _ _ => q
    slot := fun b o q n _ _ => ⟨o.slots, q⟩
    free := fun b o q n _ => by rw [upd_ne (nn n).1, upd_ne (nn n).2]; exact n
    there := fun b o q _ => ⟨o, q⟩
    tups := fun b xs q => by rw [upd_ne (at_ne ea q exo_tup), upd_ne (at_ne ed q exd_tup)]; exact q
    frzs := fun b o v q => by
      rw [upd_ne (at_ne ea q exo_frz), upd_ne (at_ne ed q fun z => by have z' : HO.ext _ = HO.frz o v := z; cases z')]; exact q
    tbls := fun b ps q => ⟨#[], by rw [upd_ne (at_ne ea q exo_tbl), upd_ne (at_ne ed q fun z => by have z' : HO.ext _ = HO.tbl ps := z; cases z'), q]; simp⟩ }
  refine I.un (t' := t) U fun b o q => ?_
  by_cases hb : b = a
  · subst hb
    rw [upd_same] at q
    cases q
    exact ⟨⟨_, _, ho, ⟨rfl, rfl⟩, rfl⟩, ⟨_, ho⟩, fun h1 h2 ⟨oe, vs, e1, e2⟩ k => ⟨oe, vs, k _ e1, e2⟩⟩
  · rw [upd_ne hb] at q
    by_cases hd : b = d
    · subst hd
      rw [upd_same] at q
      cases q
      exact ⟨mA, hns, rel⟩
    · rw [upd_ne hd] at q
      exact (I.hok b o q).stay (fun c v hc z => z)
        (fun c hc => by rw [upd_ne (at_ne ea hc exo_own), upd_ne (at_ne ed hc exd_own)]; exact hc) (fun c xs hc => by rw [upd_ne (at_ne ea hc exo_tup), upd_ne (at_ne ed hc exd_tup)]; exact hc)
end
/-- an own exception class, its __init__ done -/
structure ExC (P : Program) (w : World) (K : PySem.W.Frag) (mg : Str → Option Value) (base : Heap) (k : Nat) (c : Str) (ps : List Str) (sp : Addr → Sp) (C fI : Addr) (fd : FuncData) (nI : String) (mB : List Value) : Prop where
  cn : mg c = some (.ref C)
  T : OexB K nI mB C
  iC : PySem.W.findIn K (.ref C) "__init__" = some (some (.ref fI))
  tI : PySem.W.typeIn K (.ref fI) = some (.type "function")
  ok : FnOk P w K mg base (L2.CX P w) k fI fd ps (sp C)
/-- its values bound to its parameters, whatever stands around -/
def BindsEv (fd : FuncData) (args : Args) (r : List (Str × Value)) : Prop := ∀ s : Shared, BindsTo s fd args r
section
variable {X : Cx} {K : PySem.W.Frag} {mg : Str → Option Value} {W : WX} {g : G} {σ : L2.St} {Q : VK}
variable {e : Expr} {ma : ME} {mr : MA} {pos p : Pos} {es : List Expr} {c x z : Str} {k : Nat} {ps : List Str} {sp : Addr → Sp} {C fI : Addr} {fd : FuncData} {B nI iI : String} {mB : List Value}
/-- the call of the class, the values at hand -/
theorem exn_call (hB : BaseB B nI iI mB) (h : ExC X.prog X.w X.K X.mg X.base k c ps sp C fI fd nI mB) (hr : Room (k + 1) X.A) (tk : Takes X W) {pins : List (Addr × Obj)} {H1 : Hp} {us : List Value} {vs : List V} {s1 : Shared} (I1 : Inv X pins σ H1 s1) (r1 : Vals vs us) (hbs : ∀ u : Value, BindsEv fd ⟨u :: us, []⟩ (ps.zip (u :: us))) (hz : vs.length ≤ 1000) (hn : ∀ a, H1 a = none → sp C (V.ref a :: vs) (upd H1 a (exo a C none)) (fun v H2 => v = .non ∧ ∃ d fs, H2 a = some (exo a C (some d)) ∧ H2 d = some (exd d fs) ∧ d ≠ a ∧ Q (.ref a) (upd (upd H2 d (.xd fs)) a (XO C a d))) (WE W σ)) :
    wpAny (model X.prog X.w) X.A (call (.ref C) us) (EP X pins σ Q) X.xe s1 := by
  obtain ⟨nm, q, N, bs, bm, sn, sub, ab, col, dd, k0, k1, k2, k3, k5, hC, hbm⟩ := h.T.cls
  obtain ⟨hp, g, dr, tk', os⟩ := s1
  have hsz : hp.objs.size ≤ hp.objs.size + 1 := Nat.le_succ _
  have nn : H1 (hp.objs.size + 1) = none := I1.hok.fresh hsz
  have hq := hn (hp.objs.size + 1) nn
  have kk : ∀ b o, hp.get? b = some o → ((hp.push (PySem.W.kdv_tup us)).push (PySem.HandSPX.excO C hp.objs.size)).get? b = some o := fun b o e => Heap.get?_push_of_some _ (Heap.get?_push_of_some _ e)
  have hget : ((hp.push (PySem.W.kdv_tup us)).push (PySem.HandSPX.excO C hp.objs.size)).get? (hp.objs.size + 1) = some (PySem.HandSPX.excO C hp.objs.size) := by heap_get
  have I2 : Inv X pins σ (upd H1 (hp.objs.size + 1) (exo (hp.objs.size + 1) C none)) ⟨(hp.push (PySem.W.kdv_tup us)).push (PySem.HandSPX.excO C hp.objs.size), g, dr, tk', os⟩ :=
    I1.laid (t' := tk') (a := hp.objs.size + 1) (o := exo (hp.objs.size + 1) C none) (h' := (hp.push (PySem.W.kdv_tup us)).push (PySem.HandSPX.excO C hp.objs.size)) kk hsz (exo_ok hget)
  have r2 : Vals (V.ref (hp.objs.size + 1) :: vs) (Value.ref (hp.objs.size + 1) :: us) := .cons rfl r1
  have hus : us.length ≤ sizeLine := by
    rw [← Paired.length r1, sizeLine_eq]
    omega
  have z := code_at h.ok (hr.make C us []) (I2.env0.make C us []) (passAt tk σ) I2 (hbs (Value.ref (hp.objs.size + 1)) _) r2 hq
  refine wpAny_call (PySem.HandSPX.call_own hB.ef hbm.has (I1.kIn _ _ hC) (PySem.W.looks_findIn I1.kIn h.iC) (fun self => PySem.W.bind_fn I1.kIn self h.tI) hus (codeAny_mono z fun r s' hq' => ?_))
  cases r with
  | error er => exact hq'
  | ok fl =>
    cases fl with
    | ret u =>
      obtain ⟨v, H2, I3, rv, ev, d, fs, ea, ed, ne, q2⟩ := hq'
      subst ev
      exact ⟨rv, .ref (hp.objs.size + 1), _, Inv.named I3 ea ed ne, rfl, q2⟩
    | _ => exact hq'.elim
end
/-- a class of one field, of none -/
def HasE1 (P : Program) (w : World) (K : PySem.W.Frag) (mg : Str → Option Value) (base : Heap) (k : Nat) (c z f : Str) : Prop :=
  ∃ B nI iI mB C fI fd, BaseB B nI iI mB ∧ ExC P w K mg base k c ["self", f] (fun C => spE1 C z f) C fI fd nI mB ∧ (∀ u v : Value, BindsEv fd ⟨[u, v], []⟩ [("self", u), (f, v)]) ∧ (∀ u v : Value, BindsEv fd ⟨[u], [(f, v)]⟩ [("self", u), (f, v)])
def HasE0 (P : Program) (w : World) (K : PySem.W.Frag) (mg : Str → Option Value) (base : Heap) (k : Nat) (c z : Str) : Prop :=
  ∃ B nI iI mB C fI fd, BaseB B nI iI mB ∧ ExC P w K mg base k c ["self"] (fun C => spE0 C z) C fI fd nI mB ∧ (∀ u : Value, BindsEv fd ⟨[u], []⟩ [("self", u)])
abbrev HasE1X (X : Cx) := HasE1 X.prog X.w X.K X.mg X.base
abbrev HasE0X (X : Cx) := HasE0 X.prog X.w X.K X.mg X.base
section
variable {X : Cx} {K : PySem.W.Frag} {mg : Str → Option Value} {W : WX} {g : G} {σ : L2.St} {Q : VK}
variable {e : Expr} {ma : ME} {mr : MA} {pos p : Pos} {es : List Expr} {c f z : Str} {k : Nat}
def fExn1 (c z f : Str) : List T → MH → R := fun ts h => match ts with
  | [y] => .ok (.exn c [f, "tag"] [y, .str z]) h
  | _ => .stuck
def fExn0 (c z : Str) : List T → MH → R := fun ts h => match ts with
  | [] => .ok (.exn c ["tag"] [.str z]) h
  | _ => .stuck
/-- the exception stands -/
theorem exn_lands {C a d : Addr} {ns : List Str} {ts : List T} {fs : List (Str × V)} {H2 : Hp} (R : Rel K mg g) (hC : mg c = some (.ref C)) (ha : g.H a = none) (hd : g.H d = none) (ne : d ≠ a) (hn : fs.map (·.1) = ns) (rf : RepL K mg g ts (fs.map (·.2))) (hH : ∀ b, b ≠ a → b ≠ d → H2 b = g.H b)
    (h : wpR K mg W g σ Q (.ok (.exn c ns ts) g.h)) : Q (.ref a) (upd (upd H2 d (.xd fs)) a (XO C a d)) := by
  have e : upd (upd H2 d (.xd fs)) a (XO C a d) = upd (upd g.H d (.xd fs)) a (XO C a d) := by
    funext b
    by_cases h1 : b = a
    · rw [h1, upd_same, upd_same]
    · rw [upd_ne h1, upd_ne h1]
      by_cases h2 : b = d
      · rw [h2, upd_same, upd_same]
      · rw [upd_ne h2, upd_ne h2, hH b h1 h2]
  rw [e]
  have e0 : Ext g (g.lay d (.xd fs)) := lay_ext R hd
  have R0 : Rel K mg (g.lay d (.xd fs)) := R.lay hd
  have ha0 : (g.lay d (.xd fs)).H a = none := by
    show upd g.H d (.xd fs) a = none
    rw [upd_ne (Ne.symm ne)]; exact ha
  have e1 : Ext (g.lay d (.xd fs)) ((g.lay d (.xd fs)).lay a (XO C a d)) := lay_ext R0 ha0
  refine h ((g.lay d (.xd fs)).lay a (XO C a d)) (.ref a) rfl (e0.trans e1) (R0.lay ha0) ?_
  have k1 := (lay_sub ha0 (o := XO C a d)).keep d (.xd fs) upd_same (R.nohid hd)
  simp only [Rep]
  exact ⟨a, C, d, fs, rfl, ⟨upd_same, R0.nohid ha0⟩, k1, hC, hn, (rf.mono e0).mono e1⟩
theorem spE1_at {C a : Addr} {y : V} {t : T} (R : Rel K mg g) (hC : mg c = some (.ref C)) (ha : g.H a = none) (r : Rep K mg g t y) (h : wpR K mg W g σ Q (fExn1 c z f [t] g.h)) :
    spE1 C z f [.ref a, y] (upd g.H a (exo a C none)) (fun v H2 => v = .non ∧ ∃ d fs, H2 a = some (exo a C (some d)) ∧ H2 d = some (exd d fs) ∧ d ≠ a ∧ Q (.ref a) (upd (upd H2 d (.xd fs)) a (XO C a d))) (WE W σ) := by
  refine ⟨a, y, rfl, upd_same, fun d hd ne => ⟨rfl, d, _, ?_, upd_same, ne, ?_⟩⟩
  · rw [upd_ne (Ne.symm ne), upd_same]
  · refine exn_lands (ns := [f, "tag"]) (ts := [t, .str z]) R hC ha (by rw [upd_ne ne] at hd; exact hd) ne rfl (RepL.cons r (RepL.cons rStr RepL.nil)) (fun b h1 h2 => ?_) h
    rw [upd_ne h2, upd_ne h1, upd_ne h2, upd_ne h1]
theorem spE0_at {C a : Addr} (R : Rel K mg g) (hC : mg c = some (.ref C)) (ha : g.H a = none) (h : wpR K mg W g σ Q (fExn0 c z [] g.h)) :
    spE0 C z [.ref a] (upd g.H a (exo a C none)) (fun v H2 => v = .non ∧ ∃ d fs, H2 a = some (exo a C (some d)) ∧ H2 d = some (exd d fs) ∧ d ≠ a ∧ Q (.ref a) (upd (upd H2 d (.xd fs)) a (XO C a d))) (WE W σ) := by
  refine ⟨a, rfl, upd_same, fun d hd ne => ⟨rfl, d, [("tag", .str z)], upd_same, ?_, ne, ?_⟩⟩
  · rw [upd_ne ne, upd_same]
  · refine exn_lands (ns := ["tag"]) (ts := [.str z]) R hC ha (by rw [upd_ne ne] at hd; exact hd) ne rfl (RepL.cons rStr RepL.nil) (fun b h1 h2 => ?_) h
    rw [upd_ne h1, upd_ne h2, upd_ne h1]
/-- C(e) -/
theorem se_exn1 (Hx : HasE1X X k c z f) (hr : Room (k + 1) X.A) (tk : Takes X W) (ha : SE X W e ma) (hg : Gl X c := by rfl) (hdb : (c == ("__debug__" : Str)) = false := by decide)
    (he : starEach [e] X.env = (false, eval e X.env) :: starEach [] X.env := by rfl) (hpl : (backTo pos (starEach [] X.env)).any (·.1) = false := by rfl) :
    SE X W (.Call (.Name c p) [e] [] pos) (mA (fExn1 c z f) (aCons ma aNil)) := by
  obtain ⟨B, nI, iI, mB, C, fI, fd, hB, h, hb, _⟩ := Hx
  refine ⟨fun pins s σ H Q I q => ?_⟩
  obtain ⟨g, s0, rfl, R, S, q⟩ := q
  refine wpAny_Call_Name_kw (ld_glob I hg h.cn ?_ hdb)
  refine PySem.W.callWith_K (h₀ := X.base) I.ok.mod.kin h.T.kC (thn ((sa_cons ha sa_nil he).run pos pins s σ g.H _ I ⟨g, s0, rfl, R, S, wpL_of q (Q' := fun vs H1 => ∃ g1 t y, g1.H = H1 ∧ vs = [y] ∧ Rel X.K X.mg g1 ∧ Rep X.K X.mg g1 t y ∧ wpR X.K X.mg W g1 σ Q (fExn1 c z f [t] g1.h)) fun g1 ts vs e1 R1 r1 h1 => ?_⟩) fun us s1 ⟨vs, H1, I1, r, g1, t, y, eH, ev, R1, r1, h1⟩ => ⟨I1.kIn, ?_⟩) he hpl
  · match ts, r1, h1 with
    | [t], r1, h1 =>
      obtain ⟨y, ey, ry⟩ := r1.one
      exact ⟨g1, t, y, rfl, ey, R1, ry, h1⟩
    | [], r1, h1 => exact h1.elim
    | _ :: _ :: _, r1, h1 => exact h1.elim
  · subst eH ev
    refine exn_call hB h hr tk I1 r (fun u => ?_) (show 1 ≤ 1000 by omega) fun a hn => spE1_at R1 h.cn hn r1 h1
    cases r with
    | cons r1 r2 =>
      cases r2
      exact hb u _
/-- C() -/
theorem se_exn0 (Hx : HasE0X X k c z) (hr : Room (k + 1) X.A) (tk : Takes X W) (hg : Gl X c := by rfl) (hdb : (c == ("__debug__" : Str)) = false := by decide) :
    SE X W (.Call (.Name c p) [] [] pos) (mA (fExn0 c z) aNil) := by
  obtain ⟨B, nI, iI, mB, C, fI, fd, hB, h, hb⟩ := Hx
  refine ⟨fun pins s σ H Q I q => ?_⟩
  obtain ⟨g, s0, rfl, R, S, q⟩ := q
  refine wpAny_Call_Name_kw (ld_glob I hg h.cn ?_ hdb)
  exact PySem.W.callWith_K0 I.kIn h.T.kC (exn_call hB h hr tk I .nil (fun u => hb u) (Nat.zero_le _) fun a hn => spE0_at R h.cn hn q)
end
end Mi
end part_Mi27
section part_Mi28
set_option maxRecDepth 100000
set_option maxHeartbeats 4000000
/-! Mi, part 28: C(f = e), C an own exception. -/
namespace PySem
namespace MiX
open Builtin Builtin.ObjectAttr
section
variable {prog : Program} {w : World} {A : Around} {E : Value → Shared → Prop} {R : Result → Shared → Prop} {h : Heap} {g : Array GenState} {d : Drawn} {t : Nat} {os : OsState}
variable {nm q : Str} {C N : Addr} {bs bm bmB : List Value} {hdct : Bool} {sn : List Str} {sub : List Value} {ab : Bool} {col : Option Bool} {dd : Option Addr} {k0 k1 k2 k3 k5 : Option Value} {B newId initId : String} {kw : List (Str × Value)}
theorem chk_tcK {M : Model} {rest : List Value} {Q : Unit → Shared → Prop} (hC : h.get? C = some (excClassObj nm q C N bs bm hdct sn sub ab col dd k0 k1 k2 k3 k5 newId))
    (hq : Q () ⟨h, g, d, t, os⟩) : wpAny M A (checkBuiltinCall "type.__call__" ⟨.ref C :: rest, kw⟩) Q E ⟨h, g, d, t, os⟩ := by
  have f3 := tc_sub
  have hT : (⟨h, g, d, t, os⟩ : Shared).TypeIs (.ref C) "type" := ⟨_, hC, rfl⟩
  simp only [checkBuiltinCall, tc_kind, tc_split]
  repeat (any_goals (first | assumption | with_reducible refine wpAny_loadPart_at hC ?_ | with_reducible refine wpAny_onRaise ?_ | with_reducible refine wpAny_map ?_ | wp_step))
theorem chk_newK {M : Model} (F : ExcBaseFacts B newId initId bmB) (hT : ∀ X : String, bm.contains (.type X) = bmB.contains (.type X)) {rest : List Value} {Q : Unit → Shared → Prop}
    (hC : h.get? C = some (excClassObj nm q C N bs bm hdct sn sub ab col dd k0 k1 k2 k3 k5 newId)) (hq : Q () ⟨h, g, d, t, os⟩) : wpAny M A (checkBuiltinCall newId ⟨.ref C :: rest, kw⟩) Q E ⟨h, g, d, t, os⟩ := by
  have hcont : (Value.ref C :: bm).contains (.type B) = true := by rw [List.contains_cons, hT, F.hasB, Bool.or_true]
  have hstar := F.noStar
  simp only [checkBuiltinCall, F.newKind, F.newSplit, F.newRow]
  repeat (first | refine wpAny_loadPart_at hC ?_ | (refine wpAny_isSubtype_exc hC ?_; rw [hcont]) | refine wpAny_staticBase_exc hC ?_ | refine wpAny_madeBy_exc hC ?_ | simp only [bne_self_eq_false, Bool.false_eq_true, if_false] | wp_step)
  exact hq
theorem newK_own (F : ExcBaseFacts B newId initId bmB) (hT : ∀ X : String, bm.contains (.type X) = bmB.contains (.type X)) {rest : List Value}
    (hC : h.get? C = some (excClassObj nm q C N bs bm hdct sn sub ab col dd k0 k1 k2 k3 k5 newId))
    (hq : R (.ok (.ret (.ref (h.objs.size + 1)))) ⟨(h.push (PySem.W.kdv_tup rest)).push (PySem.HandSPX.excO C h.objs.size), g, d, t, os⟩) (hrest : rest.length ≤ sizeLine) :
    codeAny (model prog w) A (.builtin newId ⟨.ref C :: rest, kw⟩) R ⟨h, g, d, t, os⟩ := by
  have hends := F.ends
  have hcB : (Value.ref C :: bm).contains (.type B) = true := by rw [List.contains_cons, hT, F.hasB, Bool.or_true]
  have hcA : (Value.ref C :: bm).contains (.type "AttributeError") = false := by rw [List.contains_cons, hT, F.noAttr]; rfl
  have hcN : (Value.ref C :: bm).contains (.type "NameError") = false := by rw [List.contains_cons, hT, F.noName]; rfl
  refine codeAny_builtinAt F.entry ?_
  unfold Builtin.«BaseException.__new__»
  refine wpAt_bind ?_
  show wpAt _ _ _ (stack >>= _) _ _ _
  refine wpAt_bind (wpAt_stack fun p below => wpAt_of_wpAny ?_)
  wp_walk
  refine wpAt_of_wpAny ?_
  rw [F.owner]
  repeat (first | with_reducible refine wpAny_madeHere_exc F.canon hC ?_ | with_reducible refine wpAny_loadPart_at hC ?_ | (with_reducible refine wpAny_isSubtype_exc hC ?_; first | rw [hcB] | rw [hcA] | rw [hcN]) | wp_step)
  show R _ _
  rw [Heap.size_push]
  exact hq
theorem type_callK (F : ExcBaseFacts B newId initId bmB) (hT : ∀ X : String, bm.contains (.type X) = bmB.contains (.type X)) {rest : List Value} {fI : Addr} {Q : Fin → Shared → Prop}
    (hC : h.get? C = some (excClassObj nm q C N bs bm hdct sn sub ab col dd k0 k1 k2 k3 k5 newId))
    (hi : W.Looks (model prog w) h (typeLookup (.ref C) "__init__") (some (.ref fI))) (hb : ∀ self, W.Looks (model prog w) h (bindSpecial (.ref fI) self) (.ref fI, [self])) (hrest : rest.length ≤ sizeLine)
    (hq : codeAny (model prog w) A (.call (.ref fI) ⟨.ref (h.objs.size + 1) :: rest, kw⟩)
      (fun r s' => match r with | .ok (.ret v) => v = .none ∧ Q (.done (.ret (.ref (h.objs.size + 1)))) s' | .ok _ => False | .error e => E e s')
      ⟨(h.push (W.kdv_tup rest)).push (PySem.HandSPX.excO C h.objs.size), g, d, t, os⟩) :
    wpAny (model prog w) A (Builtin.«type.__call__» ⟨.ref C :: rest, kw⟩) Q E ⟨h, g, d, t, os⟩ := by
  repeat (first | with_reducible refine wpAny_loadPart_at hC ?_ | with_reducible refine wpAny_madeBy_exc hC ?_ | wp_step)
  refine codeAny_call_builtin_code (Code.quiet_builtin _ F.quiet) (chk_newK F hT hC ?_)
  refine newK_own F hT hC ?_ hrest
  show wpAny _ _ _ _ _ _
  have k : ∀ b o, h.get? b = some o → ((h.push (W.kdv_tup rest)).push (PySem.HandSPX.excO C h.objs.size)).get? b = some o := fun b o e => Heap.get?_push_of_some _ (Heap.get?_push_of_some _ e)
  have hC₁ := k _ _ hC
  have hget : ((h.push (W.kdv_tup rest)).push (PySem.HandSPX.excO C h.objs.size)).get? (h.objs.size + 1) = some (PySem.HandSPX.excO C h.objs.size) := by heap_get
  have hcC : (Value.ref C :: bm).contains (.ref C) = true := by simp
  have i1 := hi.keeps k
  have b1 := (hb (.ref (h.objs.size + 1))).keeps k
  unfold isInstance
  repeat (first | with_reducible refine wpAny_loadPart_at hget ?_ | (with_reducible refine wpAny_isSubtype_exc hC₁ ?_; rw [hcC]) | wp_step)
  show wpAny _ _ (typeLookup (.ref C) _) _ _ _
  refine i1.at ?_
  refine wpAny_holding (wpAny_bind (b1.at ?_))
  refine wpAny_bind (wpAny_call (codeAny_mono hq fun r s' z => ?_))
  rcases r with e | (v | _ | _ | _) <;> first | exact z | exact z.elim | skip
  obtain ⟨rfl, z⟩ := z
  first
    | exact wpAny_pure (wpAny_pure z)
    | (wp_walk; exact z)
theorem callK_own (F : ExcBaseFacts B newId initId bmB) (hT : ∀ X : String, bm.contains (.type X) = bmB.contains (.type X)) {rest : List Value} {fI : Addr}
    (hC : h.get? C = some (excClassObj nm q C N bs bm hdct sn sub ab col dd k0 k1 k2 k3 k5 newId))
    (hi : W.Looks (model prog w) h (typeLookup (.ref C) "__init__") (some (.ref fI))) (hb : ∀ self, W.Looks (model prog w) h (bindSpecial (.ref fI) self) (.ref fI, [self])) (hrest : rest.length ≤ sizeLine)
    (hq : codeAny (model prog w) (A.under (.builtin "type.__call__" ⟨.ref C :: rest, kw⟩)) (.call (.ref fI) ⟨.ref (h.objs.size + 1) :: rest, kw⟩) (W.InitBack (h.objs.size + 1) R)
      ⟨(h.push (W.kdv_tup rest)).push (PySem.HandSPX.excO C h.objs.size), g, d, t, os⟩) :
    codeAny (model prog w) A (.call (.ref C) ⟨rest, kw⟩) R ⟨h, g, d, t, os⟩ := by
  have f1 := tc_lookup
  have f2 := tc_bind (.ref C)
  have hTy : (⟨h, g, d, t, os⟩ : Shared).TypeIs (.ref C) "type" := ⟨_, hC, rfl⟩
  refine codeAny_of_tree ?_
  show wpAny _ _ (callAny (.ref C) _) _ _ _
  repeat (any_goals (first | assumption | with_reducible refine wpAny_loadPart_at hC ?_ | wp_step))
  refine ⟨rfl, ?_⟩
  refine codeAny_call_builtin_at (Code.quiet_builtin _ (by decide +kernel)) entry_typeCall (chk_tcK hC (type_callK F hT hC hi hb hrest ?_))
  refine codeAny_mono hq fun r s' z => ?_
  rcases r with e | (v | _ | _ | _) <;> exact z
end
end MiX
end PySem
end part_Mi28
section part_Mi29
set_option maxRecDepth 100000
set_option maxHeartbeats 4000000
/-! Mi, part 29: C(f = e); the fields of an exception, isinstance of it. -/
namespace Mi
open PySem PySem.Spec PyProof.Rows L2
section
variable {X : Cx} {K : PySem.W.Frag} {mg : Str → Option Value} {W : WX} {g : G} {σ : L2.St} {Q : VK}
variable {a e : Expr} {ma : ME} {mr : MA} {pos p kp : Pos} {es : List Expr} {c f z : Str} {k : Nat}
/-- C(f = e) -/
theorem se_exnK (Hx : HasE1X X k c z f) (hr : Room (k + 1) X.A) (tk : Takes X W) (hkw : SK X W [⟨some f, e, kp⟩] (aCons ma aNil)) (hg : Gl X c := by rfl) (hdb : (c == ("__debug__" : Str)) = false := by decide)
    (hall : (backToKw pos (keywordEach [⟨some f, e, kp⟩] X.env)).all (·.1.isSome) = true := by rfl) (hks : (backToKw pos (keywordEach [⟨some f, e, kp⟩] X.env)).filterMap (·.1) = [f] := by rfl)
    (hpl : ((backTo pos (starEach [] X.env)).any (·.1) || (backToKw pos (keywordEach [⟨some f, e, kp⟩] X.env)).any (·.1.isNone)) = false := by rfl) :
    SE X W (.Call (.Name c p) [] [⟨some f, e, kp⟩] pos) (mA (fExn1 c z f) (aCons ma aNil)) := by
  obtain ⟨B, nI, iI, mB, C, fI, fd, hB, h, _, hb⟩ := Hx
  refine ⟨fun pins s σ H Q I q => ?_⟩
  obtain ⟨g, s0, rfl, R, S, q⟩ := q
  have key : tMA X.K X.mg W (aCons ma aNil) σ g.H (fun zs H1 => ∃ g1 t y, g1.H = H1 ∧ zs = [y] ∧ Rel X.K X.mg g1 ∧ Rep X.K X.mg g1 t y ∧ wpR X.K X.mg W g1 σ Q (fExn1 c z f [t] g1.h)) :=
    ⟨g, s0, rfl, R, S, wpL_of q fun g1 ts vs e1 R1 r1 h1 => by
      match ts, r1, h1 with
      | [t], r1, h1 =>
        obtain ⟨y, ey, ry⟩ := r1.one
        exact ⟨g1, t, y, rfl, ey, R1, ry, h1⟩
      | [], r1, h1 => exact h1.elim
      | _ :: _ :: _, r1, h1 => exact h1.elim⟩
  refine wpAny_Call_Name_kw (ld_glob I hg h.cn ?_ hdb)
  refine PySem.W.callWith_KW0 (h₀ := X.base) I.ok.mod.kin h.T.kC hall ?_ hpl
  refine thn (hkw.run pos pins s σ g.H _ I key) fun ws s1 ⟨zs, H1, I1, rz, g1, t, y, eH, ev, R1, r1, h1⟩ => ⟨I1.kIn, ?_⟩
  rw [hks]
  subst eH ev
  cases rz with
  | @cons _ wv _ ws' rw1 rw2 =>
    cases rw2
    obtain ⟨nm, q, N, bs, bm, sn, sub, ab, col, dd, k0, k1, k2, k3, k5, hC, hbm⟩ := h.T.cls
    obtain ⟨hp, gn, dr, tk', os⟩ := s1
    have hsz : hp.objs.size ≤ hp.objs.size + 1 := Nat.le_succ _
    have nn : g1.H (hp.objs.size + 1) = none := I1.hok.fresh hsz
    have kk : ∀ b o, hp.get? b = some o → ((hp.push (PySem.W.kdv_tup [])).push (PySem.HandSPX.excO C hp.objs.size)).get? b = some o := fun b o e => Heap.get?_push_of_some _ (Heap.get?_push_of_some _ e)
    have hget : ((hp.push (PySem.W.kdv_tup [])).push (PySem.HandSPX.excO C hp.objs.size)).get? (hp.objs.size + 1) = some (PySem.HandSPX.excO C hp.objs.size) := by heap_get
    have I2 : Inv X pins σ (upd g1.H (hp.objs.size + 1) (exo (hp.objs.size + 1) C none)) ⟨(hp.push (PySem.W.kdv_tup [])).push (PySem.HandSPX.excO C hp.objs.size), gn, dr, tk', os⟩ :=
      I1.laid (t' := tk') (a := hp.objs.size + 1) (o := exo (hp.objs.size + 1) C none) (h' := (hp.push (PySem.W.kdv_tup [])).push (PySem.HandSPX.excO C hp.objs.size)) kk hsz (exo_ok hget)
    have r2 : Vals (V.ref (hp.objs.size + 1) :: [y]) (Value.ref (hp.objs.size + 1) :: [wv]) := .cons rfl (.cons rw1 .nil)
    have zz := code_at h.ok (hr.make C [] [(f, wv)]) (I2.env0.make C [] [(f, wv)]) (passAt tk σ) I2 (hb (Value.ref (hp.objs.size + 1)) wv _) r2 (spE1_at R1 h.cn nn r1 h1)
    refine wpAny_call (PySem.MiX.callK_own hB.ef hbm.has (I1.kIn _ _ hC) (PySem.W.looks_findIn I1.kIn h.iC) (fun self => PySem.W.bind_fn I1.kIn self h.tI) (Nat.zero_le _) (codeAny_mono zz fun r s' hq' => ?_))
    cases r with
    | error er => exact hq'
    | ok fl =>
      cases fl with
      | ret u =>
        obtain ⟨v, H2, I3, rv, ev, d, fs, ea, ed, ne, q2⟩ := hq'
        subst ev
        exact ⟨rv, .ref (hp.objs.size + 1), _, Inv.named I3 ea ed ne, rfl, q2⟩
      | _ => exact hq'.elim
/-! ### e.f -/
/-- what the classes must have for f to be read off their exceptions -/
def FldX (K : PySem.W.Frag) (mg : Str → Option Value) (cs : List Str) (f : Str) : Prop := ∀ c ∈ cs, ∀ C, mg c = some (.ref C) → XfC K C ∧ PySem.W.findIn K (.ref C) f = some none
def fFldX (cs : List Str) (f : Str) : T → MH → R := fun t h => match t with
  | .exn c ns ts => if cs.contains c then (match fldOf f ns ts with
    | some u => .ok u h
    | none => .stuck) else .stuck
  | _ => .stuck
/-- the object of an exception that is tracked -/
theorem xo_at {P : Program} {w : World} {H : Hp} {h : Heap} {C a d : Addr} {fs : List (Str × V)} (hok : HOk P w H h) (ea : H a = some (XO C a d)) (ed : H d = some (.xd fs)) :
    ∃ (oe od : Obj) (mA : Str → Option Value), PySem.W.InstAt h a oe C (some od) ∧ (∀ name, PySem.W.lookIn name od = some (mA name)) ∧ ∀ f, RelO (fs.lookup f) (mA f) := by
  have x : ObjOk P w H h a (.ext fun h => ∃ (oe : Obj) (vs : Array Value), h.get? a = some oe ∧ Zc (.ref C) (some d) oe ∧ oe.data = .fields vs) := hok a _ ea
  obtain ⟨⟨oe, vs, e1, e2, e3⟩, _⟩ := x
  obtain ⟨mA, hns, hr⟩ := (show ObjOk P w H h d (.xd fs) from hok d _ ed)
  obtain ⟨od, ho, hl⟩ := lookIn_ns hns
  exact ⟨oe, od, mA, ⟨e1, e2.1, by unfold PySem.W.notCls; rw [e3] <;> rfl, by rw [e2.2]; exact ho⟩, hl, hr⟩
theorem se_fldX {cs : List Str} (hC : FldX X.K X.mg cs f) (ha : SE X W a ma) (hb : attributeBase a f X.env (eval a X.env) = eval a X.env := by rfl) : SE X W (.Attribute a f pos) (m1 (fFldX cs f) ma) := by
  refine ⟨fun pins s σ H Q I q => ?_⟩
  obtain ⟨g, s0, rfl, R, S, q⟩ := q
  refine attr_of hb (thn (ha.run pins s σ g.H _ I ⟨g, s0, rfl, R, S, wpR_bind (Q := Q) q (Q' := fun v H1 => ∃ g1 t, g1.H = H1 ∧ Rel X.K X.mg g1 ∧ Rep X.K X.mg g1 t v ∧ wpR X.K X.mg W g1 σ Q (fFldX cs f t g1.h)) fun g1 t v e1 R1 r1 h1 => ⟨g1, t, rfl, R1, r1, h1⟩⟩) fun u s1 ⟨x, H1, I1, rx, g1, t, eH, R1, r1, h1⟩ => ?_)
  subst eH
  unfold fFldX at h1
  split at h1
  · rename_i cc ns ts
    split at h1
    · rename_i hc
      split at h1
      · rename_i y hy
        simp only [Rep] at r1
        obtain ⟨p1, C, d, fs, rfl, ⟨ea, _⟩, ⟨ed, _⟩, hm, hn, rf⟩ := r1
        obtain rfl : u = Value.ref p1 := rx
        obtain ⟨T, hno⟩ := hC cc (by simpa using hc) C hm
        obtain ⟨w', hw, rw'⟩ := fld_of hn rf hy
        obtain ⟨oe, od, mA, J, hl, hr⟩ := xo_at I1.hok ea ed
        obtain ⟨u', hu, ru⟩ := RelO.some_of (v := w') (o := mA f) (by rw [← hw]; exact hr f)
        exact HandSPX.exc_get I1.kIn J T.ga T.gg T.exC (PySem.W.findObj_own T.hdC hno rfl (by rw [hl, hu])) (handed_of ru) ⟨w', g1.H, I1.tok _, ru, wpR_here h1 R1 rw'⟩
      · exact h1.elim
    · exact h1.elim
  · exact h1.elim
/-! ### isinstance -/
/-- what the class D must say, so that isinstance asks its exceptions rightly -/
structure ExcK (K : PySem.W.Frag) (D : Addr) : Prop where
  cl : (PySem.W.clsIn K D).isSome = true
  hg : PySem.W.findIn K (.ref D) "__getattribute__" = some (some (.builtin "BaseException.__getattribute__"))
  hk : PySem.W.findIn K (.ref D) "__getattr__" = some none
  hs : PySem.W.subIn K (.ref D) (.type "BaseException") = some true
  ha : PySem.W.findIn K (.ref D) "__class__" = some (some (.builtin "object.__class__"))
  hn : PySem.W.specialIn K (.builtin "object.__class__") "__get__" = some (some (.builtin "getset_descriptor.__get__"))
  ht : PySem.W.takesIn K (.builtin "object.__class__") = some true
  hm : PySem.W.mroIn K D (.type "object") = some true
def rIsX (K : PySem.W.Frag) : List V → Hp → VK → Prop := fun xs H Q => ∃ (p D d : Addr) (fs : List (Str × V)) (c : V) (cv : Value) (b : Bool), xs = [.ref p, c] ∧ H p = some (XO D p d) ∧ H d = some (.xd fs) ∧ ExcK K D ∧ (∀ u, RelV c u → u = cv) ∧ PySem.W.kitOne K (.ref D) cv = some b ∧ Q (.bl b) H
theorem call_isX : CallR X (.builtin "isinstance") (rIsX X.K) := by
  intro pins s σ H xs us Q I r h
  obtain ⟨p, D, d, fs, c, cv, b, rfl, hp, hd, T, hcv, e, q⟩ := h
  cases r with
  | cons rx rr =>
    cases rr with
    | cons rt rr =>
      cases rr
      cases rx
      have ec := hcv _ rt
      subst ec
      obtain ⟨oe, od, mA, J, _, _⟩ := xo_at I.hok hp hd
      exact PySem.W.kia_one (PySem.W.kitx_exc T.cl T.hg T.hk T.hs T.ha T.hn T.ht T.hm) I.kIn J e (fun z => nomatch z) fun tk => ⟨.bl b, H, I.kept (t' := tk) fun _ _ z => z, rfl, q⟩
/-- isinstance(e, c): the class's answer, class by class -/
def fIsX (tab : List (Str × Bool)) : T → MH → R := fun t h => match t with
  | .exn c _ _ => (match tab.lookup c with
    | some b => .ok (.bl b) h
    | none => .stuck)
  | _ => .stuck
def IsxC (K : PySem.W.Frag) (mg : Str → Option Value) (cv : Value) (tab : List (Str × Bool)) : Prop := ∀ q ∈ tab, ∀ D, mg q.1 = some (.ref D) → ExcK K D ∧ PySem.W.kitOne K (.ref D) cv = some q.2
theorem use_isX {tab : List (Str × Bool)} {cv : Value} {vc : V} (HC : IsxC X.K X.mg cv tab) (hvc : ∀ u, RelV vc u → u = cv) {t : T} {v : V} (R : Rel X.K X.mg g) (r : Rep X.K X.mg g t v) (h : wpR X.K X.mg W g σ Q (fIsX tab t g.h)) : rIsX X.K [v, vc] g.H Q := by
  unfold fIsX at h
  split at h
  · rename_i cc ns ts
    split at h
    · rename_i b hb
      simp only [Rep] at r
      obtain ⟨p1, D, d, fs, rfl, ⟨ea, _⟩, ⟨ed, _⟩, hm, _, _⟩ := r
      obtain ⟨T, k1⟩ := HC _ (lookup_mem hb) D hm
      exact ⟨p1, D, d, fs, vc, cv, b, rfl, ea, ed, T, hvc, k1, wpR_here h R rBl⟩
    · exact h.elim
  · exact h.elim
/-- .. an own class -/
theorem se_isX {pa pc : Pos} {tab : List (Str × Bool)} {C : Addr} (hCC : X.mg c = some (.ref C)) (HC : IsxC X.K X.mg (.ref C) tab) (hmi : X.mg "isinstance" = none) (ha : SE X W a ma) (hg : Gl X "isinstance" := by rfl) (hgc : Gl X c := by rfl) (hdc : (c == ("__debug__" : Str)) = false := by decide)
    (he : starEach [a, .Name c pc] X.env = (false, eval a X.env) :: starEach [.Name c pc] X.env := by rfl) (he2 : starEach [.Name c pc] X.env = [(false, eval (.Name c pc) X.env)] := by rfl) (hpl : (backTo pos (starEach [.Name c pc] X.env)).any (·.1) = false := by rfl) :
    SE X W (.Call (.Name "isinstance" pa) [a, .Name c pc] [] pos) (m1 (fIsX tab) ma) := by
  refine weakE (pe_callB (id := "isinstance") call_isX hg hmi (by decide +kernel) (pa_cons ha (pa_cons (pe_glob hgc hCC (v := .ref C) rfl hdc) pa_nil he2) he) (by decide) (by decide) he hpl) ?_
  rintro σ H Q ⟨g, s, rfl, R, S, h⟩
  exact ⟨g, s, rfl, R, S, wpR_bind h fun g1 t v e1 R1 r1 h1 => use_isX (vc := .ref C) HC (fun u hu => hu) R1 r1 h1⟩
/-- .. a built-in one -/
theorem se_isXB {pa pc : Pos} {tab : List (Str × Bool)} {n : String} (HC : IsxC X.K X.mg (.type n) tab) (hmi : X.mg "isinstance" = none) (hmc : X.mg c = none) (ha : SE X W a ma) (hg : Gl X "isinstance" := by rfl) (hgc : Gl X c := by rfl) (hv : bootBuiltins c = some (.type n) := by decide +kernel)
    (hn : c ≠ "__name__" := by decide) (hdc : (c == ("__debug__" : Str)) = false := by decide)
    (he : starEach [a, .Name c pc] X.env = (false, eval a X.env) :: starEach [.Name c pc] X.env := by rfl) (he2 : starEach [.Name c pc] X.env = [(false, eval (.Name c pc) X.env)] := by rfl) (hpl : (backTo pos (starEach [.Name c pc] X.env)).any (·.1) = false := by rfl) :
    SE X W (.Call (.Name "isinstance" pa) [a, .Name c pc] [] pos) (m1 (fIsX tab) ma) := by
  refine weakE (pe_callB (id := "isinstance") call_isX hg hmi (by decide +kernel) (pa_cons ha (pa_cons (pe_bltn hgc hmc hv (v := .ty n) rfl hn hdc) pa_nil he2) he) (by decide) (by decide) he hpl) ?_
  rintro σ H Q ⟨g, s, rfl, R, S, h⟩
  exact ⟨g, s, rfl, R, S, wpR_bind h fun g1 t v e1 R1 r1 h1 => use_isX (vc := .ty n) HC (fun u hu => hu) R1 r1 h1⟩
end
end Mi
end part_Mi29
section part_Mi30
set_option maxRecDepth 100000
set_option maxHeartbeats 4000000
/-! Mi, part 30: the head's facts, own exceptions too (their __init__ has a closure; cStatics is looked at). -/
namespace Mi
open PySem PySem.Spec PyProof.Rows L2
abbrev FnS : Type := Option (Str × Str × Arguments × FuncBody × Scope × Addr × Addr)
def fnS (K : PySem.W.Frag) (p : Str × Option Str) : FnS := match K.lookup (He.fAd K p) with
  | some ⟨_, _, .func fd, _⟩ => some (fd.name, fd.qualname, fd.params, fd.body, fd.scope, fd.globals, fd.builtins)
  | _ => none
def sVal (d : He.DefD) : FnS := some (d.name, d.qual, d.params, .stmts d.body, d.scope, mainGlobals, builtinsNs)
structure SaysY (fa : List He.Fa) (fn sf : List He.DefD) (ex : PySem.W.Frag → Bool) (K : PySem.W.Frag) : Prop where
  d : He.SaysD fa fn K
  more : ex K = true
  sf : sf.map (fun d => fnS K d.at_) = sf.map sVal
def frY (g : Addr → Option Obj) (n : Nat) : PySem.W.Frag := He.frT g (He.asD g n ++ [cStatics])
abbrev AlY : Type := (He.AlD × Bool) × List FnS
def obsY (n : Nat) (fa : List He.Fa) (fn sf : List He.DefD) (ex : PySem.W.Frag → Bool) (g : Addr → Option Obj) : AlY := ((He.obsD fa fn (frY g n), ex (frY g n)), sf.map fun d => fnS (frY g n) d.at_)
def valY (fn sf : List He.DefD) : AlY := ((He.valD fn, true), sf.map sVal)
def hookY (n : Nat) (fa : List He.Fa) (fn sf : List He.DefD) (ex : PySem.W.Frag → Bool) : PySem.W.Hook where
  α := AlY
  obs := fun s => obsY n fa fn sf ex s.heap.get?
  val := fun _ => valY fn sf
  says := fun _ h => ∃ K : PySem.W.Frag, K.In h ∧ SaysY fa fn sf ex K
  of := fun _ _ e => ⟨_, He.frT_in, congrArg (fun z : AlY => z.1.1) e, congrArg (fun z : AlY => z.1.2) e, congrArg (fun z : AlY => z.2) e⟩
  keeps := fun _ _ _ ⟨K, hK, c⟩ k => ⟨K, PySem.W.Frag.In.keeps hK k, c⟩
theorem obsY_eq {n : Nat} {fa : List He.Fa} {fn sf : List He.DefD} {ex : PySem.W.Frag → Bool} {g : Addr → Option Obj} {s : Shared} (h : ∀ a, g a = s.heap.get? a) : obsY n fa fn sf ex g = (hookY n fa fn sf ex).obs s := by
  have e : g = s.heap.get? := funext h
  rw [e] <;> rfl
theorem SaysY.def_ {fa : List He.Fa} {fn sf : List He.DefD} {ex : PySem.W.Frag → Bool} {K : PySem.W.Frag} (c : SaysY fa fn sf ex K) (i : Nat) {d : He.DefD} (h : sf[i]? = some d := by rfl) : fnS K d.at_ = sVal d := by
  have e2 : (sf.map fun d => fnS K d.at_)[i]? = (sf.map sVal)[i]? := by rw [c.sf]
  rw [List.getElem?_map, List.getElem?_map, h] at e2
  exact Option.some.inj e2
/-! ### an own exception -/
def oexB (K : PySem.W.Frag) (C : Addr) (nI : String) (mB : List Value) : Bool := match K.lookup C with
  | some ⟨.type ty, _, .cls cd, sl⟩ => (match cd.mro, sl.toList with
    | .ref C' :: bm, [_, _, _, _, some (.builtin n), _] => decide (ty = "type") && (decide (C' = C) && (decide (n = nI) && (!cd.hasDel && (cd.hasDict && refsBb mB bm))))
    | _, _ => false)
  | _ => false
theorem oexB_ok {K : PySem.W.Frag} {C : Addr} {nI : String} {mB : List Value} (h : oexB K C nI mB = true) : ∃ nm q N bs bm sn sub ab col dd k0 k1 k2 k3 k5, K.lookup C = some (excClassObj nm q C N bs bm true sn sub ab col dd k0 k1 k2 k3 k5 nI) ∧ RefsB mB bm := by
  unfold oexB at h
  split at h
  · rename_i ty dd cd sl q
    split at h
    · rename_i C' bm k0 k1 k2 k3 n k5 hm hs
      obtain ⟨h1, h⟩ := bb h
      obtain ⟨h2, h⟩ := bb h
      obtain ⟨h3, h⟩ := bb h
      obtain ⟨h4, h⟩ := bb h
      obtain ⟨h5, h6⟩ := bb h
      have e1 := of_decide_eq_true h1
      have e2 := of_decide_eq_true h2
      have e3 := of_decide_eq_true h3
      obtain ⟨nm, bs, mro, ns, qn, hd, sn, sub, ab, col, del⟩ := cd
      dsimp only at hm h4 h5
      subst e1 e2 e3 hm
      have e4 : del = false := by cases del <;> simp_all
      subst h5 e4
      have hsl : sl = #[k0, k1, k2, k3, some (.builtin n), k5] := by
        obtain ⟨l⟩ := sl
        simp only at hs
        rw [hs]
      subst hsl
      exact ⟨nm, qn, ns, bs, bm, sn, sub, ab, col, dd, k0, k1, k2, k3, k5, q, refsB_of h6⟩
    · cases h
  · cases h
def eqV (a b : Option Bool) : Bool := decide (a = b)
abbrev ini : Str := "__init__"
def exnB (K : PySem.W.Frag) (file c : Str) (B nI iI : String) (mB : List Value) (fs : List Str) : Bool :=
  He.eqO (PySem.W.nsIn K mainGlobals c) (some (some (.ref (He.ga K c)))) && (oexB K (He.ga K c) nI mB && (He.eqO (PySem.W.findIn K (.ref (He.ga K c)) "__setattr__") (some (some (.builtin "object.__setattr__"))) &&
  (decide (PySem.W.subIn K (.ref (He.ga K c)) (.type "BaseException") = some true) && (decide (PySem.W.typeIn K (.ref (He.ga K c)) = some (.type "type")) && (PySem.W.keepIn K (.ref (He.ga K c)) &&
  (He.eqO (PySem.W.findIn K (.ref (He.ga K c)) "__init__") (some (some (.ref (He.fAd K (c, some ini))))) && (decide (PySem.W.typeIn K (.ref (He.fAd K (c, some ini))) = some (.type "function")) &&
  ((match K.lookup (He.fAd K (c, some ini)) with
    | some ⟨_, _, .func ⟨_, q, _, _, _, _, [(y, cc)], .none, .none, _, _, none, .ref cd, _, _⟩, _⟩ => decide (y = "__class__") && (PySem.W.codeIn K (.ref cd) q && ((match K.lookup cd with
      | some ⟨_, _, .fields vs, _⟩ => (match vs[2]? with
        | some (Value.str fl _) => ((file : Str) == fl)
        | _ => false)
      | _ => false) && (match K.lookup cc with
      | some ⟨_, _, .cell (some (.ref C')), _⟩ => decide (C' = He.ga K c)
      | _ => false)))
    | _ => false) &&
  (decide (PySem.W.mroIn K (He.ga K c) (.ref (He.ga K c)) = some true) && (He.eqO (PySem.W.nsIn K cStatics "thirdparty.any") (some none) && (He.eqO (PySem.W.ks_superIn K (He.ga K c) (He.ga K c) "__init__") (some (some (.builtin iI))) &&
  (decide (PySem.W.subIn K (.ref (He.ga K c)) (.type B) = some true) && (He.eqO (PySem.W.nsIn K mainGlobals "super") (some none) && fs.all fun f => He.eqO (PySem.W.findIn K (.ref (He.ga K c)) f) (some none))))))))))))))
/-- what is told of the class, all at once -/
theorem exn_told {P : Program} {K : PySem.W.Frag} {mg : Str → Option Value} {h : Heap} {file c : Str} {B nI iI : String} {mB : List Value} {fs : List Str} {d : He.DefD} (X : K.In h) (G : h.Ns mainGlobals mg) (b : exnB K file c B nI iI mB fs = true) (e : fnS K d.at_ = sVal d) (hd : d.at_ = (c, some ini))
    (hf : P.main.file = file) (ht : (P.main.scope.names.lookup ("super" : Str)).isSome = false) :
    mg c = some (.ref (He.ga K c)) ∧ PySem.W.findIn K (.ref (He.ga K c)) "__init__" = some (some (.ref (He.fAd K (c, some ini)))) ∧ PySem.W.typeIn K (.ref (He.fAd K (c, some ini))) = some (.type "function") ∧ (∀ f ∈ fs, PySem.W.findIn K (.ref (He.ga K c)) f = some none) ∧
      ∃ cc cd doc pm ctv, SupB B nI iI mB P K mg (He.ga K c) (He.fAd K (c, some ini)) cc ⟨d.name, d.qual, d.params, d.body, d.scope, [("__class__", cc)], cd⟩ doc pm ctv := by
  unfold exnB at b
  obtain ⟨b1, b⟩ := bb b
  obtain ⟨b2, b⟩ := bb b
  obtain ⟨b3, b⟩ := bb b
  obtain ⟨b4, b⟩ := bb b
  obtain ⟨b5, b⟩ := bb b
  obtain ⟨b6, b⟩ := bb b
  obtain ⟨b7, b⟩ := bb b
  obtain ⟨b8, b⟩ := bb b
  obtain ⟨b9, b⟩ := bb b
  obtain ⟨c1, b⟩ := bb b
  obtain ⟨c2, b⟩ := bb b
  obtain ⟨c3, b⟩ := bb b
  obtain ⟨c4, b⟩ := bb b
  obtain ⟨c5, c6⟩ := bb b
  refine ⟨PySem.W.mg_of X G (He.eqO_ok b1), He.eqO_ok b7, of_decide_eq_true b8, fun f hf => He.eqO_ok (List.all_eq_true.mp c6 f hf), ?_⟩
  unfold fnS sVal at e
  rw [hd] at e
  split at b9
  · rename_i oc od n1 q n3 n4 n5 n6 y cc n7 n8 cd n9 n10 osl lk
    rw [lk] at e
    have e2 : (some (n1, q, n3, n4, n5, n6, n10) : FnS) = some (d.name, d.qual, d.params, .stmts d.body, d.scope, mainGlobals, builtinsNs) := e
    simp only [Option.some.injEq, Prod.mk.injEq] at e2
    obtain ⟨h1, h2, h3, h4, h5, h6, h8⟩ := e2
    subst h1 h2 h3 h4 h5 h6 h8
    obtain ⟨d1, d2⟩ := bb b9
    obtain ⟨d2, d3⟩ := bb d2
    obtain ⟨d3, d4⟩ := bb d3
    have ey := of_decide_eq_true d1
    subst ey
    refine ⟨cc, cd, n7, n8, n9, ⟨⟨oc, od, osl, lk⟩, rfl, d2, ?_, ?_, of_decide_eq_true c1, He.eqO_ok c2, He.eqO_ok c3, of_decide_eq_true c4, ⟨oexB_ok b2, He.eqO_ok b3, of_decide_eq_true b4, of_decide_eq_true b5, b6⟩, ht, PySem.W.mg_none_of X G (He.eqO_ok c5)⟩⟩
    · split at d3
      · rename_i ccl cdd vs ccs lk2
        split at d3
        · rename_i fl tf q3
          exact ⟨ccl, cdd, vs, ccs, fl, tf, lk2, q3, by rw [hf]; exact d3⟩
        · cases d3
      · cases d3
    · split at d4
      · rename_i cl cld C' csl lk3
        have eC := of_decide_eq_true d4
        subst eC
        exact ⟨cl, cld, csl, lk3⟩
      · cases d4
  · cases b9
section
variable {P : Program} {w : World} {K : PySem.W.Frag} {mg : Str → Option Value} {base h : Heap} {file c : Str} {B nI iI : String} {mB : List Value} {fs : List Str} {d : He.DefD}
theorem hasE0_of (hB : BaseB B nI iI mB) (X : K.In h) (G : h.Ns mainGlobals mg) (b : exnB K file c B nI iI mB fs = true) (e : fnS K d.at_ = sVal d) (hd : d.at_ = (c, some ini)) (hf : P.main.file = file) (ht : (P.main.scope.names.lookup ("super" : Str)).isSome = false) (hm : ("tag" : Str) ∈ fs)
    {z : Str} {j j2 : Nat} {p0 p1 p2 p3 p4 p5 q0 q1 q2 q3 : Pos} (hb : d.body = [supE z j p0 p1 p2 p3 p4 p5, asgC "tag" z j2 q0 q1 q2 q3]) (hev : SupEv z j p0 p1 p2 p3 p4)
    (S : NdefX.nscB ["self", "__class__"] ["self"] ["__class__"] d.scope = true) (ks : d.scope.names.lookup ("super" : Str) = some .globalImplicit) (arg : ∃ ar, (d.params.posonlyargs ++ d.params.args).head? = some ar ∧ ar.arg = ("self" : Str))
    (b1 : ∀ (cl : List (Str × Addr)) (cd : Addr) (doc pm ctv u : Value), bindArgs (PySem.W.fnX d.name d.qual d.params d.body d.scope cl .none .none doc pm none (.ref cd) ctv) ⟨[u], []⟩ = pure [(("self" : Str), u)]) : HasE0 P w K mg base 1 c z := by
  obtain ⟨h1, h2, h3, h4, cc, cd, doc, pm, ctv, U⟩ := exn_told X G b e hd hf ht
  exact ⟨B, nI, iI, mB, _, _, _, hB, ⟨h1, U.ex, h2, h3, exn0_ok hB U (h4 _ hm) hb hev (NdefX.nscope_by S) ks arg⟩, fun u s => .of_eq (b1 _ _ _ _ _ _)⟩
theorem hasE1_of (hB : BaseB B nI iI mB) (X : K.In h) (G : h.Ns mainGlobals mg) (b : exnB K file c B nI iI mB fs = true) (e : fnS K d.at_ = sVal d) (hd : d.at_ = (c, some ini)) (hf : P.main.file = file) (ht : (P.main.scope.names.lookup ("super" : Str)).isSome = false) (hm : ("tag" : Str) ∈ fs)
    {z f : Str} (hm2 : f ∈ fs) {j j2 : Nat} {p0 p1 p2 p3 p4 p5 q0 q1 q2 q3 r0 r1 r2 r3 : Pos} (hb : d.body = [supE z j p0 p1 p2 p3 p4 p5, asgC "tag" z j2 q0 q1 q2 q3, asgN f r0 r1 r2 r3]) (hev : SupEv z j p0 p1 p2 p3 p4)
    (S : NdefX.nscB ["self", f, "__class__"] ["self", f] ["__class__"] d.scope = true) (ks : d.scope.names.lookup ("super" : Str) = some .globalImplicit) (arg : ∃ ar, (d.params.posonlyargs ++ d.params.args).head? = some ar ∧ ar.arg = ("self" : Str))
    (hdb : (f == ("__debug__" : Str)) = false) (hcd : (f == ("__classdict__" : Str)) = false)
    (b1 : ∀ (cl : List (Str × Addr)) (cd : Addr) (doc pm ctv u v : Value), bindArgs (PySem.W.fnX d.name d.qual d.params d.body d.scope cl .none .none doc pm none (.ref cd) ctv) ⟨[u, v], []⟩ = pure [(("self" : Str), u), (f, v)])
    (b2 : ∀ (cl : List (Str × Addr)) (cd : Addr) (doc pm ctv u v : Value), bindArgs (PySem.W.fnX d.name d.qual d.params d.body d.scope cl .none .none doc pm none (.ref cd) ctv) ⟨[u], [(f, v)]⟩ = pure [(("self" : Str), u), (f, v)]) : HasE1 P w K mg base 1 c z f := by
  obtain ⟨h1, h2, h3, h4, cc, cd, doc, pm, ctv, U⟩ := exn_told X G b e hd hf ht
  exact ⟨B, nI, iI, mB, _, _, _, hB, ⟨h1, U.ex, h2, h3, exn1_ok hB U (h4 _ hm) (h4 _ hm2) hb hev (NdefX.nscope_by S) ks arg hdb hcd⟩, fun u v s => .of_eq (b1 _ _ _ _ _ _ _), fun u v s => .of_eq (b2 _ _ _ _ _ _ _)⟩
theorem HasE0.up {j k : Nat} {z : Str} (x : HasE0 P w K mg base j c z) (l : j ≤ k) : HasE0 P w K mg base k c z := by
  obtain ⟨B, nI, iI, mB, C, fI, fd, hB, h, hb⟩ := x
  exact ⟨B, nI, iI, mB, C, fI, fd, hB, ⟨h.cn, h.T, h.iC, h.tI, h.ok.mono l⟩, hb⟩
theorem HasE1.up {j k : Nat} {z f : Str} (x : HasE1 P w K mg base j c z f) (l : j ≤ k) : HasE1 P w K mg base k c z f := by
  obtain ⟨B, nI, iI, mB, C, fI, fd, hB, h, hb⟩ := x
  exact ⟨B, nI, iI, mB, C, fI, fd, hB, ⟨h.cn, h.T, h.iC, h.tI, h.ok.mono l⟩, hb⟩
end
def clsBody (s : Stmt) : List Stmt := match s with
  | .ClassDef _ _ _ b .. => b
  | _ => []
/-! ### the other facts of exceptions, as Bools -/
def excKB (K : PySem.W.Frag) (D : Addr) : Bool := (PySem.W.clsIn K D).isSome && (He.eqO (PySem.W.findIn K (.ref D) "__getattribute__") (some (some (.builtin "BaseException.__getattribute__"))) && (He.eqO (PySem.W.findIn K (.ref D) "__getattr__") (some none) &&
  (decide (PySem.W.subIn K (.ref D) (.type "BaseException") = some true) && (He.eqO (PySem.W.findIn K (.ref D) "__class__") (some (some (.builtin "object.__class__"))) &&
  (He.eqO (PySem.W.specialIn K (.builtin "object.__class__") "__get__") (some (some (.builtin "getset_descriptor.__get__"))) && (decide (PySem.W.takesIn K (.builtin "object.__class__") = some true) && decide (PySem.W.mroIn K D (.type "object") = some true)))))))
theorem excKB_ok {K : PySem.W.Frag} {D : Addr} (b : excKB K D = true) : ExcK K D := by
  unfold excKB at b
  obtain ⟨b1, b⟩ := bb b
  obtain ⟨b2, b⟩ := bb b
  obtain ⟨b3, b⟩ := bb b
  obtain ⟨b4, b⟩ := bb b
  obtain ⟨b5, b⟩ := bb b
  obtain ⟨b6, b⟩ := bb b
  obtain ⟨b7, b8⟩ := bb b
  exact ⟨b1, He.eqO_ok b2, He.eqO_ok b3, of_decide_eq_true b4, He.eqO_ok b5, He.eqO_ok b6, of_decide_eq_true b7, of_decide_eq_true b8⟩
/-- isinstance's answers, class by class -/
def isxB (K : PySem.W.Frag) (cv : Value) (tab : List (Str × Bool)) : Bool := tab.all fun q => He.eqO (PySem.W.nsIn K mainGlobals q.1) (some (some (.ref (He.ga K q.1)))) && (excKB K (He.ga K q.1) && decide (PySem.W.kitOne K (.ref (He.ga K q.1)) cv = some q.2))
theorem isxB_ok {K : PySem.W.Frag} {mg : Str → Option Value} {h : Heap} {cv : Value} {tab : List (Str × Bool)} (X : K.In h) (G : h.Ns mainGlobals mg) (b : isxB K cv tab = true) : IsxC K mg cv tab := fun q hq D hD => by
  obtain ⟨b1, b2⟩ := bb (List.all_eq_true.mp b q hq)
  obtain ⟨b2, b3⟩ := bb b2
  have e := PySem.W.mg_of X G (He.eqO_ok b1)
  rw [hD] at e
  cases e
  exact ⟨excKB_ok b2, of_decide_eq_true b3⟩
/-- f may be read off the exceptions of cs -/
def fldXB (K : PySem.W.Frag) (cs : List Str) (f : Str) : Bool := cs.all fun c => He.eqO (PySem.W.nsIn K mainGlobals c) (some (some (.ref (He.ga K c)))) && (xfB K (He.ga K c) && He.eqO (PySem.W.findIn K (.ref (He.ga K c)) f) (some none))
theorem fldXB_ok {K : PySem.W.Frag} {mg : Str → Option Value} {h : Heap} {cs : List Str} {f : Str} (X : K.In h) (G : h.Ns mainGlobals mg) (b : fldXB K cs f = true) : FldX K mg cs f := fun c hc C hC => by
  obtain ⟨b1, b2⟩ := bb (List.all_eq_true.mp b c hc)
  obtain ⟨b2, b3⟩ := bb b2
  have e := PySem.W.mg_of X G (He.eqO_ok b1)
  rw [hC] at e
  cases e
  exact ⟨xfB_ok b2, He.eqO_ok b3⟩
end Mi
end part_Mi30
section part_Bg
set_option maxRecDepth 100000
set_option maxHeartbeats 2000000
/-! Bg: the law's bag of draws, once for all laws. -/
namespace Mi
open PySem PySem.Spec PyProof.Rows L2
def mBagL : MF := mDef 4 ((mSq (mSet 1 (mA fList (aCons (mSl (mVar 0) (mC .non) (m1 fPart (mC (.int 63)))) aNil)))
    (mSq (mSet 2 (m2 fAdd (mC (.int 5608)) (m2 fMul (mC (.int 31)) (mA fLen (aCons (mVar 1) aNil)))))
    (mSq (mFor (mSrc (mVar 1)) (gN 3) (mSq (mSet 2 (m2 fMod (mA fInt (aCons (m2 fAdd (m2 fAdd (m2 fMul (mVar 2) (mC (.int 47093))) (m2 fMod (mA fInt (aCons (mVar 3) aNil)) (mC (.int 2147483389)))) (mC (.int 17))) aNil)) (mC (.int 2147483549))))
    mNx))
    (mSq (mRet (mA fLstN (aCons (mVar 1) (aCons (mC (.int 0)) (aCons (mC (.int 0)) (aCons (mVar 2) aNil))))))
    mNx)))))
def mDrawL : MF := mDef 5 ((mSq (mIfS (mAnd (m2 fEq (m2 fIx (mVar 0) (mC (.int 2))) (mC (.int 0))) (m2 fLt (m2 fIx (mVar 0) (mC (.int 1))) (mA fLen (aCons (m2 fIx (mVar 0) (mC (.int 0))) aNil)))) (mSq (mSet 2 (m2 fIx (m2 fIx (mVar 0) (mC (.int 0))) (m2 fIx (mVar 0) (mC (.int 1)))))
    (mSq (mAs (m2 fAdd (m2 fIx (mVar 0) (mC (.int 1))) (mC (.int 1))) (gSt (mVar 0) (mC (.int 1))))
    (mSq (mIfS (m2 fGe (mVar 2) (m2 fPow (mC (.int 10)) (mC (.int 18)))) (mSq (mAs (mVar 2) (gSt (mVar 0) (mC (.int 2))))
    mNx) (mSq (mSet 4 (m2 fAdd (m2 fMul (m2 fIx (mVar 0) (mC (.int 3))) (mC (.int 41381))) (m2 fMod (mA fInt (aCons (mVar 2) aNil)) (mC (.int 2000000033)))))
    (mSq (mAs (m2 fMod (mA fInt (aCons (m2 fAdd (mVar 4) (m2 fIx (mVar 0) (mC (.int 1)))) aNil)) (mC (.int 2147483549))) (gSt (mVar 0) (mC (.int 3))))
    mNx)))
    mNx))) mNx)
    (mSq (mIfS (m2 fGt (m2 fIx (mVar 0) (mC (.int 2))) (mC (.int 0))) (mSq (mSet 3 (m2 fMod (mA fInt (aCons (m2 fIx (mVar 0) (mC (.int 2))) aNil)) (mVar 1)))
    (mSq (mAs (m2 fFdiv (m2 fIx (mVar 0) (mC (.int 2))) (mVar 1)) (gSt (mVar 0) (mC (.int 2))))
    (mSq (mRetF (mVar 3))
    mNx))) mNx)
    (mSq (mAs (m2 fMod (mA fInt (aCons (m2 fAdd (m2 fMul (m2 fIx (mVar 0) (mC (.int 3))) (mC (.int 45137))) (mC (.int 1019))) aNil)) (mC (.int 2147483549))) (gSt (mVar 0) (mC (.int 3))))
    (mSq (mRetF (m2 fMod (mA fInt (aCons (m2 fFdiv (m2 fMod (mA fInt (aCons (m2 fMul (m2 fIx (mVar 0) (mC (.int 3))) (m2 fIx (mVar 0) (mC (.int 3)))) aNil)) (mC (.int 999999929))) (mC (.int 37))) aNil)) (mVar 1)))
    mNx)))))
def bagO (row : List Int) (p c m : Int) : MO := .lst [.lst (row.map .int), .int p, .int c, .int m]
structure Bag (h : MH) (i : Nat) : Prop where
  ex : ∃ (row : List Int) (p c m : Int), h[i]? = some (bagO row p c m) ∧ row.length ≤ 63 ∧ 0 ≤ p ∧ 0 ≤ c ∧ 0 ≤ m ∧ m < 2147483549
theorem bIx {i : Nat} {h : MH} {row : List Int} {p c m : Int} (e : h[i]? = some (bagO row p c m)) :
    fIx (.ref i) (.int 0) h = .ok (.lst (row.map .int)) h ∧ fIx (.ref i) (.int 1) h = .ok (.int p) h ∧ fIx (.ref i) (.int 2) h = .ok (.int c) h ∧ fIx (.ref i) (.int 3) h = .ok (.int m) h := by
  have z : seqOf (.ref i) h = some [.lst (row.map .int), .int p, .int c, .int m] := by simp only [seqOf, e, bagO]
  have q : ∀ k, fIx (.ref i) (.int k) h = match seqOf (.ref i) h with
      | some xs => match atI xs k with
        | some z => .ok z h
        | none => .stuck
      | none => .stuck := fun k => rfl
  refine ⟨?_, ?_, ?_, ?_⟩ <;> (rw [q, z]; rfl)
theorem bSt {i : Nat} {h : MH} {row : List Int} {p c m : Int} {s : SM} (e : h[i]? = some (bagO row p c m)) (hs : s[0]? = some (some (.ref i))) (x : Int) :
    gSt (mVar 0) (mC (.int 1)) (.int x) s h = .ok s (h.set i (bagO row x c m)) ∧ gSt (mVar 0) (mC (.int 2)) (.int x) s h = .ok s (h.set i (bagO row p x m)) ∧ gSt (mVar 0) (mC (.int 3)) (.int x) s h = .ok s (h.set i (bagO row p c x)) := by
  have e2 : liveL (.ref i) h = some (i, [.lst (row.map .int), .int p, .int c, .int m]) := by
    simp only [liveL, e, bagO]
  refine ⟨?_, ?_, ?_⟩ <;> (simp only [gSt, mVar, mC, hs, e2]; rfl)
theorem bGet {i : Nat} {h : MH} {o o' : MO} (e : h[i]? = some o) : (h.set i o')[i]? = some o' := List.getElem?_set_self (List.getElem?_eq_some_iff.mp e).1
theorem mulOk_l {a b : Int} (h1 : -18446744073709551616 < a) (h2 : a < 18446744073709551616) : mulOk a b = true := by
  unfold mulOk
  simp only [Bool.or_eq_true, Bool.and_eq_true, decide_eq_true_eq]
  exact .inl ⟨h1, h2⟩
theorem mulOk_r {a b : Int} (h1 : -18446744073709551616 < b) (h2 : b < 18446744073709551616) : mulOk a b = true := by
  unfold mulOk
  simp only [Bool.or_eq_true, Bool.and_eq_true, decide_eq_true_eq]
  exact .inr ⟨h1, h2⟩
theorem fMul_l {a b : Int} {h : MH} (h1 : -18446744073709551616 < a) (h2 : a < 18446744073709551616) : fMul (.int a) (.int b) h = .ok (.int (a * b)) h := by
  show (if mulOk a b then R.ok (.int (a * b)) h else .stuck) = _
  rw [mulOk_l h1 h2]; rfl
theorem fMul_r {a b : Int} {h : MH} (h1 : -18446744073709551616 < b) (h2 : b < 18446744073709551616) : fMul (.int a) (.int b) h = .ok (.int (a * b)) h := by
  show (if mulOk a b then R.ok (.int (a * b)) h else .stuck) = _
  rw [mulOk_r h1 h2]; rfl
theorem fMod_ok {a b : Int} {h : MH} (h1 : 0 < b) : fMod (.int a) (.int b) h = .ok (.int (a % b)) h := by
  show (if decide (0 < b) = true then R.ok (.int (a % b)) h else .stuck) = _
  rw [decide_eq_true h1]; rfl
theorem fFdiv_ok {a b : Int} {h : MH} (h1 : 0 < b) (h2 : b < 1073741824) : fFdiv (.int a) (.int b) h = .ok (.int (a / b)) h := by
  show (if (decide (0 < b) && decide (b < 1073741824)) = true then R.ok (.int (a / b)) h else .stuck) = _
  rw [decide_eq_true h1, decide_eq_true h2]; rfl
theorem fAdd_i {a b : Int} {h : MH} : fAdd (.int a) (.int b) h = .ok (.int (a + b)) h := rfl
theorem fInt_i {a : Int} {h : MH} : fInt [.int a] h = .ok (.int a) h := rfl
theorem fEq_i {a b : Int} {h : MH} : fEq (.int a) (.int b) h = .ok (.bl (decide (a = b))) h := by
  show R.ok (T.bl (PyData.eqv (.int a) (.int b))) h = _
  congr 2
  try (simp [PyData.eqv]) 
theorem fLt_i {a b : Int} {h : MH} : fLt (.int a) (.int b) h = .ok (.bl (decide (a < b))) h := rfl
theorem fGt_i {a b : Int} {h : MH} : fGt (.int a) (.int b) h = .ok (.bl (decide (b < a))) h := rfl
theorem fGe_i {a b : Int} {h : MH} : fGe (.int a) (.int b) h = .ok (.bl (decide (b ≤ a))) h := rfl
theorem fLen_l {xs : List T} {h : MH} : fLen [.lst xs] h = .ok (.int xs.length) h := rfl
/-- the second half of a draw -/
def mDraw2 : MS := mSq (mIfS (m2 fGt (m2 fIx (mVar 0) (mC (.int 2))) (mC (.int 0))) (mSq (mSet 3 (m2 fMod (mA fInt (aCons (m2 fIx (mVar 0) (mC (.int 2))) aNil)) (mVar 1)))
    (mSq (mAs (m2 fFdiv (m2 fIx (mVar 0) (mC (.int 2))) (mVar 1)) (gSt (mVar 0) (mC (.int 2))))
    (mSq (mRetF (mVar 3))
    mNx))) mNx)
    (mSq (mAs (m2 fMod (mA fInt (aCons (m2 fAdd (m2 fMul (m2 fIx (mVar 0) (mC (.int 3))) (mC (.int 45137))) (mC (.int 1019))) aNil)) (mC (.int 2147483549))) (gSt (mVar 0) (mC (.int 3))))
    (mSq (mRetF (m2 fMod (mA fInt (aCons (m2 fFdiv (m2 fMod (mA fInt (aCons (m2 fMul (m2 fIx (mVar 0) (mC (.int 3))) (m2 fIx (mVar 0) (mC (.int 3)))) aNil)) (mC (.int 999999929))) (mC (.int 37))) aNil)) (mVar 1)))
    mNx))
theorem draw2_ok {h : MH} {i : Nat} {many : Int} {s2 s3 s4 : Option T} {row : List Int} {p c m : Int} (e : h[i]? = some (bagO row p c m)) (h1 : 1 ≤ many) (h2 : many ≤ 1000000) (hc : 0 ≤ c) (hm0 : 0 ≤ m) (hm1 : m < 2147483549) :
    ∃ (r : Int) (c' m' : Int), mDraw2 [some (.ref i), some (.int many), s2, s3, s4] h = .rt (.int r) (h.set i (bagO row p c' m')) ∧ 0 ≤ r ∧ r < many ∧ 0 ≤ c' ∧ 0 ≤ m' ∧ m' < 2147483549 := by
  obtain ⟨e0, e1, e2, e3⟩ := bIx e
  unfold mDraw2
  by_cases q : 0 < c
  · refine ⟨c % many, c / many, m, ?_, Int.emod_nonneg _ (by omega), Int.emod_lt_of_pos _ (by omega), Int.ediv_nonneg hc (by omega), hm0, hm1⟩
    have st := (bSt (s := [some (.ref i), some (.int many), s2, some (.int (c % many)), s4]) e rfl (c / many)).2.1
    simp only [mSq, mIfS, m2, mVar, mC, R.bind, R.toS, e2, fGt_i, decide_eq_true q, fIfS, mSet, mA, aCons, aNil, RL.bind, fInt_i, fMod_ok (show (0 : Int) < many by omega), List.getElem?_cons_zero, List.getElem?_cons_succ, List.set_cons_succ, List.set_cons_zero,
      mAs, fFdiv_ok (show (0 : Int) < many by omega) (show many < 1073741824 by omega), st, mRetF, fzT]
  · refine ⟨((((m * 45137 + 1019) % 2147483549) * ((m * 45137 + 1019) % 2147483549)) % 999999929 / 37) % many, c, (m * 45137 + 1019) % 2147483549, ?_, Int.emod_nonneg _ (by omega), Int.emod_lt_of_pos _ (by omega), hc, Int.emod_nonneg _ (by omega), Int.emod_lt_of_pos _ (by omega)⟩
    have st := (bSt (s := [some (.ref i), some (.int many), s2, s3, s4]) e rfl ((m * 45137 + 1019) % 2147483549)).2.2
    obtain ⟨_, _, _, z3⟩ := bIx (bGet (o' := bagO row p c ((m * 45137 + 1019) % 2147483549)) e)
    have b0 := Int.emod_nonneg (m * 45137 + 1019) (show (2147483549 : Int) ≠ 0 by omega)
    have b1 := Int.emod_lt_of_pos (m * 45137 + 1019) (show (0 : Int) < 2147483549 by omega)
    simp only [mSq, mIfS, m2, mVar, mC, R.bind, R.toS, e2, e3, fGt_i, decide_eq_false q, fIfS, mSet, mA, aCons, aNil, RL.bind, fInt_i, fAdd_i, fMul_l (show -18446744073709551616 < m by omega) (show m < 18446744073709551616 by omega), fMod_ok (show (0 : Int) < many by omega), fMod_ok (show (0 : Int) < 2147483549 by omega), fMod_ok (show (0 : Int) < 999999929 by omega), List.getElem?_cons_zero, List.getElem?_cons_succ, List.set_cons_succ, List.set_cons_zero,
      mAs, fFdiv_ok (show (0 : Int) < 37 by omega) (show (37 : Int) < 1073741824 by omega), st, z3, mRetF, fzT, mNx, fMul_l (show -18446744073709551616 < (m * 45137 + 1019) % 2147483549 by omega) (show (m * 45137 + 1019) % 2147483549 < 18446744073709551616 by omega)]
def mDraw1 : MS := mIfS (mAnd (m2 fEq (m2 fIx (mVar 0) (mC (.int 2))) (mC (.int 0))) (m2 fLt (m2 fIx (mVar 0) (mC (.int 1))) (mA fLen (aCons (m2 fIx (mVar 0) (mC (.int 0))) aNil)))) (mSq (mSet 2 (m2 fIx (m2 fIx (mVar 0) (mC (.int 0))) (m2 fIx (mVar 0) (mC (.int 1)))))
    (mSq (mAs (m2 fAdd (m2 fIx (mVar 0) (mC (.int 1))) (mC (.int 1))) (gSt (mVar 0) (mC (.int 1))))
    (mSq (mIfS (m2 fGe (mVar 2) (m2 fPow (mC (.int 10)) (mC (.int 18)))) (mSq (mAs (mVar 2) (gSt (mVar 0) (mC (.int 2))))
    mNx) (mSq (mSet 4 (m2 fAdd (m2 fMul (m2 fIx (mVar 0) (mC (.int 3))) (mC (.int 41381))) (m2 fMod (mA fInt (aCons (mVar 2) aNil)) (mC (.int 2000000033)))))
    (mSq (mAs (m2 fMod (mA fInt (aCons (m2 fAdd (mVar 4) (m2 fIx (mVar 0) (mC (.int 1)))) aNil)) (mC (.int 2147483549))) (gSt (mVar 0) (mC (.int 3))))
    mNx)))
    mNx))) mNx
theorem fIx_l {xs : List T} {k : Int} {h : MH} {n : Nat} {t : T} (h1 : 0 ≤ k) (h2 : k < xs.length) (h3 : xs[k.toNat]? = some t) : fIx (.lst xs) (.int k) h = .ok t h := by
  have e : atI xs k = some t := by
    unfold atI ixN
    rw [if_pos h1, if_pos h2]
    exact h3
  show (match atI xs k with
    | some z => R.ok z h
    | none => .stuck) = _
  rw [e]
theorem fPow_18 {h : MH} : fPow (.int 10) (.int 18) h = .ok (.int 1000000000000000000) h := rfl
theorem draw1_ok {h : MH} {i : Nat} {many : Int} {row : List Int} {p c m : Int} (e : h[i]? = some (bagO row p c m)) (hp : 0 ≤ p) (hc : 0 ≤ c) (hm0 : 0 ≤ m) (hm1 : m < 2147483549) :
    ∃ (s2 s3 s4 : Option T) (p' c' m' : Int), mDraw1 [some (.ref i), some (.int many), none, none, none] h = .nx [some (.ref i), some (.int many), s2, s3, s4] (h.set i (bagO row p' c' m')) ∧ 0 ≤ p' ∧ 0 ≤ c' ∧ 0 ≤ m' ∧ m' < 2147483549 := by
  obtain ⟨e0, e1, e2, e3⟩ := bIx e
  have hself : h.set i (bagO row p c m) = h := by
    apply List.ext_getElem?
    intro k
    by_cases w : i = k
    · subst w
      rw [bGet e, e]
    · rw [List.getElem?_set_ne w]
  unfold mDraw1
  by_cases q : c = 0
  · by_cases q2 : p < row.length
    · have hx : (row.map T.int)[p.toNat]? = some (.int (row[p.toNat]'(by omega))) := by simp [List.getElem?_eq_getElem (show p.toNat < row.length by omega)]
      have hlen : ((row.map T.int).length : Int) = (row.length : Int) := by simp
      have hfx := fIx_l (n := 0) (h := h) hp (by rw [hlen]; exact q2) hx
      generalize row[p.toNat]'(by omega) = cell at hx hfx
      have st1 := (bSt (s := [some (.ref i), some (.int many), some (.int cell), none, none]) e rfl (p + 1)).1
      have g1 : (h.set i (bagO row (p + 1) c m))[i]? = some (bagO row (p + 1) c m) := bGet e
      obtain ⟨f0, f1, f2, f3⟩ := bIx g1
      by_cases q3 : 1000000000000000000 ≤ cell
      · refine ⟨some (.int cell), none, none, p + 1, cell, m, ?_, by omega, by omega, hm0, hm1⟩
        have st2 := (bSt (s := [some (.ref i), some (.int many), some (.int cell), none, none]) g1 rfl cell).2.1
        rw [List.set_set] at st2
        simp only [mSq, mIfS, mAnd, fAnd, m2, mVar, mC, R.bind, R.toS, e0, e1, e2, fEq_i, decide_eq_true q, fLen_l, hlen, fLt_i, decide_eq_true q2, fIfS, mSet, mA, aCons, aNil, RL.bind, fInt_i, List.getElem?_cons_zero, List.getElem?_cons_succ, List.set_cons_succ, List.set_cons_zero,
          hfx, mAs, fAdd_i, st1, fPow_18, fGe_i, decide_eq_true q3, st2, mNx]
      · refine ⟨some (.int cell), none, some (.int (m * 41381 + cell % 2000000033)), p + 1, c, (m * 41381 + cell % 2000000033 + (p + 1)) % 2147483549, ?_, by omega, hc, Int.emod_nonneg _ (by omega), Int.emod_lt_of_pos _ (by omega)⟩
        have st2 := (bSt (s := [some (.ref i), some (.int many), some (.int cell), none, some (.int (m * 41381 + cell % 2000000033))]) g1 rfl ((m * 41381 + cell % 2000000033 + (p + 1)) % 2147483549)).2.2
        rw [List.set_set] at st2
        simp only [mSq, mIfS, mAnd, fAnd, m2, mVar, mC, R.bind, R.toS, e0, e1, e2, fEq_i, decide_eq_true q, fLen_l, hlen, fLt_i, decide_eq_true q2, fIfS, mSet, mA, aCons, aNil, RL.bind, fInt_i, List.getElem?_cons_zero, List.getElem?_cons_succ, List.set_cons_succ, List.set_cons_zero,
          hfx, mAs, fAdd_i, st1, fPow_18, fGe_i, decide_eq_false q3, f3, f1, fMul_l (show -18446744073709551616 < m by omega) (show m < 18446744073709551616 by omega), fMod_ok (show (0 : Int) < 2147483549 by omega), fMod_ok (show (0 : Int) < 2000000033 by omega), st2, mNx]
    · refine ⟨none, none, none, p, c, m, ?_, hp, hc, hm0, hm1⟩
      have hlen : ((row.map T.int).length : Int) = (row.length : Int) := by simp
      rw [hself]
      simp only [mIfS, mAnd, fAnd, m2, mVar, mC, R.bind, R.toS, e0, e1, e2, fEq_i, decide_eq_true q, fLen_l, hlen, fLt_i, decide_eq_false q2, fIfS, mA, aCons, aNil, RL.bind, List.getElem?_cons_zero, List.getElem?_cons_succ, mNx]
  · refine ⟨none, none, none, p, c, m, ?_, hp, hc, hm0, hm1⟩
    rw [hself]
    simp only [mIfS, mAnd, fAnd, m2, mVar, mC, R.bind, R.toS, e2, fEq_i, decide_eq_false q, fIfS, List.getElem?_cons_zero, List.getElem?_cons_succ, mNx]
/-- what stays -/
structure Keeps (i : Nat) (h h' : MH) : Prop where
  len : h'.length = h.length
  get : ∀ j, j ≠ i → h'[j]? = h[j]?
theorem draw_ok {h : MH} {i : Nat} {many : Int} (B : Bag h i) (h1 : 1 ≤ many) (h2 : many ≤ 1000000) : ∃ (r : Int) (h' : MH), mDrawL [.ref i, .int many] h = .ok (.int r) h' ∧ 0 ≤ r ∧ r < many ∧ Bag h' i ∧ Keeps i h h' := by
  obtain ⟨row, p, c, m, e, hl, hp, hc, hm0, hm1⟩ := B.ex
  obtain ⟨s2, s3, s4, p', c', m', q1, hp', hc', hm0', hm1'⟩ := draw1_ok (many := many) e hp hc hm0 hm1
  have g1 : (h.set i (bagO row p' c' m'))[i]? = some (bagO row p' c' m') := bGet e
  obtain ⟨r, c2, m2, q2, r0, r1, hc2, hm2, hm3⟩ := draw2_ok (s2 := s2) (s3 := s3) (s4 := s4) g1 h1 h2 hc' hm0' hm1'
  rw [List.set_set] at q2
  refine ⟨r, h.set i (bagO row p' c2 m2), ?_, r0, r1, ⟨row, p', c2, m2, bGet e, hl, hp', hc2, hm2, hm3⟩, ⟨List.length_set, fun j hj => List.getElem?_set_ne (Ne.symm hj)⟩⟩
  show (match (match mDraw1 [some (.ref i), some (.int many), none, none, none] h with
    | .nx s1 h1 => mDraw2 s1 h1
    | r => r) with
    | .nx _ h1 => R.ok .non h1
    | .rt t h1 => .ok t h1
    | .ex x _ h1 => .ex x h1
    | _ => .stuck) = _
  rw [q1]
  dsimp only
  rw [q2]
end Mi
end part_Bg
section part_Bh
set_option maxRecDepth 100000
set_option maxHeartbeats 2000000
/-! Bh: walks of comprehensions and loops, the bag made, a draw from a list, alike. -/
namespace Mi
open PySem PySem.Spec PyProof.Rows L2
theorem lc_fm {mgt : MG} {mt me : ME} {s0 : SM} {h : MH} {p : T → Bool} {f : T → T} : ∀ (xs acc : List T), (∀ x ∈ xs, ∃ s1, mgt x s0 h = .ok s1 h ∧ mt s1 h = .ok (.bl (p x)) h ∧ (p x = true → me s1 h = .ok (f x) h)) → acc.length + xs.length ≤ big →
    lcFrom mgt mt me s0 xs acc h = .ok (.lst (acc ++ (xs.filter p).map f)) h
  | [], acc, _, _ => by simp [lcFrom]
  | x :: xs, acc, hx, hl => by
    obtain ⟨s1, e1, e2, e3⟩ := hx x List.mem_cons_self
    simp only [List.length_cons] at hl
    unfold lcFrom
    rw [e1]
    dsimp only
    rw [e2]
    cases q : p x with
    | true =>
      dsimp only
      rw [e3 q]
      dsimp only
      rw [if_pos (by omega), lc_fm xs (acc ++ [f x]) (fun y hy => hx y (List.mem_cons_of_mem _ hy)) (by rw [List.length_append]; simp; omega)]
      simp [List.filter_cons, q]
    | false =>
      dsimp only
      rw [lc_fm xs acc (fun y hy => hx y (List.mem_cons_of_mem _ hy)) (by omega)]
      simp [List.filter_cons, q]
theorem lc_map {mgt : MG} {mt me : ME} {s0 : SM} {h : MH} {f : T → T} (xs : List T) (hx : ∀ x ∈ xs, ∃ s1, mgt x s0 h = .ok s1 h ∧ mt s1 h = .ok (.bl true) h ∧ me s1 h = .ok (f x) h) (hl : xs.length ≤ big) :
    lcFrom mgt mt me s0 xs [] h = .ok (.lst (xs.map f)) h := by
  have := lc_fm (p := fun _ => true) xs [] (fun x hx' => let ⟨s1, a, b, c⟩ := hx x hx'; ⟨s1, a, b, fun _ => c⟩) (by simpa using hl)
  rw [this]
  have e : xs.filter (fun _ => true) = xs := List.filter_eq_self.mpr fun _ _ => rfl
  rw [e]
  rfl
theorem for_inv {mgt : MG} {mb : MS} {I : List T → SM → MH → Prop} : ∀ (xs pre : List T) (s : SM) (h : MH), I pre s h →
    (∀ pre x s h, I pre s h → x ∈ xs → ∃ s1 h1 s2 h2, mgt x s h = .ok s1 h1 ∧ (mb s1 h1 = .nx s2 h2 ∨ mb s1 h1 = .ct s2 h2) ∧ I (pre ++ [x]) s2 h2) →
    ∃ s' h', forFrom mgt mb xs s h = .nx s' h' ∧ I (pre ++ xs) s' h'
  | [], pre, s, h, hI, _ => ⟨s, h, rfl, by simpa using hI⟩
  | x :: xs, pre, s, h, hI, st => by
    obtain ⟨s1, h1, s2, h2, e1, e2, hI2⟩ := st pre x s h hI List.mem_cons_self
    obtain ⟨s', h', e3, hI3⟩ := for_inv xs (pre ++ [x]) s2 h2 hI2 fun pre y s h hI hy => st pre y s h hI (List.mem_cons_of_mem _ hy)
    refine ⟨s', h', ?_, by simpa using hI3⟩
    unfold forFrom
    rw [e1]
    dsimp only
    rcases e2 with e2 | e2 <;> (rw [e2]; dsimp only; exact e3)
theorem cut_to {xs : List T} {n : Nat} : cutT xs none (some (n : Int)) = xs.take n := by
  unfold cutT
  rw [HT.sIx_none, HT.sIx_nat, List.drop_zero, Nat.sub_zero]
  by_cases h : n ≤ xs.length
  · rw [Nat.min_eq_left h]
  · rw [Nat.min_eq_right (by omega), List.take_of_length_le (by omega), List.take_of_length_le (by omega)]
theorem bag_ok (ns : List Int) (h : MH) : ∃ o, mBagL [.frl (ns.map .int)] h = .ok (.ref h.length) (h ++ [o]) ∧ Bag (h ++ [o]) h.length := by
  have hcut : cutT (ns.map T.int) none (some (63 : Int)) = (ns.take 63).map T.int := by
    have := cut_to (xs := ns.map T.int) (n := 63)
    rw [List.map_take] <;> exact this
  have hl : ((ns.take 63).map T.int).length ≤ 63 := by simp; omega
  generalize (ns.take 63) = row at hcut hl
  let mb : MS := mSq (mSet 2 (m2 fMod (mA fInt (aCons (m2 fAdd (m2 fAdd (m2 fMul (mVar 2) (mC (.int 47093))) (m2 fMod (mA fInt (aCons (mVar 3) aNil)) (mC (.int 2147483389)))) (mC (.int 17))) aNil)) (mC (.int 2147483549)))) mNx
  have lp : ∀ (s : SM) (m : Int), s = [some (.frl (ns.map .int)), some (.lst (row.map .int)), some (.int (5608 + 31 * (row.length : Int))), none] → ∃ s' m', forFrom (gN 3) mb (row.map .int) s h = .nx s' h ∧ (∃ z, s' = [some (.frl (ns.map .int)), some (.lst (row.map .int)), some (.int m'), z]) ∧ 0 ≤ m' ∧ m' < 2147483549 := by
    intro s m hs
    have hl' : row.length ≤ 63 := by simpa using hl
    obtain ⟨s', h', e, ⟨z, m', e2, e3, b0, b1⟩⟩ := for_inv (mgt := gN 3) (mb := mb) (I := fun pre s h' => ∃ z m, h' = h ∧ s = [some (.frl (ns.map .int)), some (.lst (row.map .int)), some (.int m), z] ∧ 0 ≤ m ∧ m < 2147483549) (row.map .int) [] s h ⟨none, 5608 + 31 * (row.length : Int), rfl, hs, by omega, by omega⟩ (by
      rintro pre x s h1 ⟨z, m, rfl, rfl, b0, b1⟩ hx
      obtain ⟨c, _, rfl⟩ := List.mem_map.mp hx
      refine ⟨_, h1, _, h1, rfl, .inl ?_, some (.int c), (m * 47093 + c % 2147483389 + 17) % 2147483549, rfl, rfl, Int.emod_nonneg _ (by omega), Int.emod_lt_of_pos _ (by omega)⟩
      simp only [mb, mSq, mSet, m2, mA, aCons, aNil, RL.bind, R.bind, R.toS, mVar, mC, List.set_cons_succ, List.set_cons_zero, List.getElem?_cons_zero, List.getElem?_cons_succ, fMul_l (show -18446744073709551616 < m by omega) (show m < 18446744073709551616 by omega), fInt_i, fAdd_i,
        fMod_ok (show (0 : Int) < 2147483389 by omega), fMod_ok (show (0 : Int) < 2147483549 by omega), mNx])
    subst e2
    exact ⟨s', m', e, ⟨z, e3⟩, b0, b1⟩
  obtain ⟨s', m', e1, ⟨z, e2⟩, b0, b1⟩ := lp _ 0 rfl
  refine ⟨bagO row 0 0 m', ?_, ⟨row, 0, 0, m', by simp, by simpa using hl, by omega, by omega, b0, b1⟩⟩
  subst e2
  have ef : (mFor (mSrc (mVar 1)) (gN 3) mb) [some (.frl (ns.map .int)), some (.lst (row.map .int)), some (.int (5608 + 31 * (row.length : Int))), none] h = .nx [some (.frl (ns.map .int)), some (.lst (row.map .int)), some (.int m'), z] h := e1
  have e0 : mBagL [.frl (ns.map .int)] h = (match (mSq (mFor (mSrc (mVar 1)) (gN 3) mb) (mSq (mRet (mA fLstN (aCons (mVar 1) (aCons (mC (.int 0)) (aCons (mC (.int 0)) (aCons (mVar 2) aNil)))))) mNx)) [some (.frl (ns.map .int)), some (.lst (row.map .int)), some (.int (5608 + 31 * (row.length : Int))), none] h with
    | .nx _ h1 => R.ok .non h1
    | .rt t h1 => .ok t h1
    | .ex x _ h1 => .ex x h1
    | _ => .stuck) := by
    have e3 : fSl (.frl (ns.map .int)) .non (.int 63) h = .ok (.lst (row.map .int)) h := by rw [← hcut]; rfl
    have e4 : ((row.map T.int).length : Int) = row.length := by simp
    simp only [mBagL, mDef, mSq, mSet, mA, aCons, aNil, mSl, mVar, mC, m1, fPart, R.bind, R.toS, RL.bind, List.map_cons, List.map_nil, List.length_cons, List.length_nil, List.getElem?_cons_zero, List.getElem?_cons_succ, List.cons_append, List.nil_append, Nat.reduceAdd, Nat.reduceSub, List.replicate_succ, List.replicate_zero, e3, List.set_cons_succ, List.set_cons_zero, m2, fLen_l, e4, fList, seqOf, fMul_l (show (-18446744073709551616 : Int) < 31 by omega) (show (31 : Int) < 18446744073709551616 by omega), fAdd_i]
    rfl
  rw [e0]
  show (match (match (mFor (mSrc (mVar 1)) (gN 3) mb) [some (.frl (ns.map .int)), some (.lst (row.map .int)), some (.int (5608 + 31 * (row.length : Int))), none] h with
    | .nx s1 h1 => (mSq (mRet (mA fLstN (aCons (mVar 1) (aCons (mC (.int 0)) (aCons (mC (.int 0)) (aCons (mVar 2) aNil)))))) mNx) s1 h1
    | r => r) with
    | .nx _ h1 => R.ok .non h1
    | .rt t h1 => .ok t h1
    | .ex x _ h1 => .ex x h1
    | _ => .stuck) = _
  rw [ef]
  rfl
/-- a draw from a list or tuple -/
def mOfL : MF := mDef 2 ((mSq (mRetF (m2 fIx (mVar 1) (mA (fS 2 mDrawL) (aCons (mVar 0) (aCons (mA fLen (aCons (mVar 1) aNil)) aNil)))))
    mNx))
theorem fzT_closed {t : T} {h : MH} (c : closed t = true) : fzT t h = (t, h) := by
  cases t with
  | ref i => simp [closed] at c
  | _ => rfl
theorem atI_get {xs : List T} {k : Int} (h1 : 0 ≤ k) (h2 : k < xs.length) : atI xs k = some (xs[k.toNat]'(by omega)) := by
  unfold atI ixN
  rw [if_pos h1, if_pos h2]
  exact List.getElem?_eq_getElem (by omega)
theorem of_lst {h : MH} {i : Nat} {xs : List T} (B : Bag h i) (h1 : xs ≠ []) (h2 : xs.length ≤ 1000000) (hc : closedL xs = true) :
    ∃ (x : T) (h' : MH), mOfL [.ref i, .lst xs] h = .ok x h' ∧ x ∈ xs ∧ Bag h' i ∧ Keeps i h h' := by
  have hp : 0 < xs.length := List.length_pos_iff.mpr h1
  obtain ⟨r, h', e, r0, r1, B', k⟩ := draw_ok (many := (xs.length : Int)) B (by omega) (by omega)
  refine ⟨xs[r.toNat]'(by omega), h', ?_, List.getElem_mem _, B', k⟩
  have e2 : fIx (.lst xs) (.int r) h' = .ok (xs[r.toNat]'(by omega)) h' := by
    show (match atI xs r with
      | some z => R.ok z h'
      | none => .stuck) = _
    rw [atI_get r0 r1]
  have e3 := fzT_closed (h := h') (closedL_mem hc _ (List.getElem_mem (show r.toNat < xs.length by omega)))
  have e4 : (fS 2 mDrawL) [.ref i, .int xs.length] h = .ok (.int r) h' := e
  simp only [mOfL, mDef, mSq, mA, aCons, aNil, m2, mVar, R.bind, R.toS, RL.bind, List.map_cons, List.map_nil, List.length_cons, List.length_nil, List.getElem?_cons_zero, List.getElem?_cons_succ, List.cons_append, List.nil_append, Nat.reduceAdd, Nat.reduceSub, List.replicate_zero, fLen_l, e4, mRetF, e2, e3]
theorem of_str {h : MH} {i : Nat} {z : Str} (B : Bag h i) (h1 : 0 < z.cps.toList.length) (h2 : z.cps.toList.length ≤ 100000) :
    ∃ (c : Nat) (h' : MH), mOfL [.ref i, .str z] h = .ok (.str ⟨#[c]⟩) h' ∧ c ∈ z.cps.toList ∧ Bag h' i ∧ Keeps i h h' := by
  have hz : z.length = z.cps.toList.length := by simp [Str.length]
  obtain ⟨r, h', e, r0, r1, B', k⟩ := draw_ok (many := (z.length : Int)) B (by omega) (by omega)
  have hr : r.toNat < z.cps.toList.length := by omega
  refine ⟨z.cps.toList[r.toNat], h', ?_, List.getElem_mem _, B', k⟩
  have q : atI z.cps.toList r = some z.cps.toList[r.toNat] := by
    unfold atI ixN
    rw [if_pos r0, if_pos (by omega)]
    exact List.getElem?_eq_getElem hr
  have hb : z.length ≤ big := by unfold big; omega
  have e2 : fIx (.str z) (.int r) h' = .ok (.str ⟨#[z.cps.toList[r.toNat]]⟩) h' := by
    show (if z.length ≤ big then (match atI z.cps.toList r with
      | some c => R.ok (T.str ⟨#[c]⟩) h'
      | none => .stuck) else .stuck) = _
    rw [if_pos hb, q]
  have e4 : (fS 2 mDrawL) [.ref i, .int z.length] h = .ok (.int r) h' := e
  have e5 : fLen [.str z] h = .ok (.int z.length) h := by
    show (if z.length ≤ big then R.ok (.int z.length) h else .stuck) = _
    rw [if_pos hb]
  have e6 : ∀ c : Nat, fzT (.str ⟨#[c]⟩) h' = (.str ⟨#[c]⟩, h') := fun c => rfl
  simp only [mOfL, mDef, mSq, mA, aCons, aNil, m2, mVar, R.bind, R.toS, RL.bind, List.map_cons, List.map_nil, List.length_cons, List.length_nil, List.getElem?_cons_zero, List.getElem?_cons_succ, List.cons_append, List.nil_append, Nat.reduceAdd, Nat.reduceSub, List.replicate_zero, e5, e4, mRetF, e2, e6]
/-! ### alike -/
def mAlikeL : Nat → MF
  | 0 => fun _ _ => .stuck
  | n + 1 => mDef 5 ((mSq (mIfS (mOr (m2 (fIs false) (mVar 1) (mC .non)) (m2 (fIs false) (mVar 0) (mC .non))) (mSq (mRetF (mAndV (m2 (fIs false) (mVar 1) (mC .non)) (m2 (fIs false) (mVar 0) (mC .non))))
    mNx) mNx)
    (mSq (mFor (mSrc (mA fTup (aCons (mC (.int 1)) (aCons (mC (.int 2)) (aCons (mC (.int 3)) aNil))))) (gN 2) (mSq (mIfS (mAnd (m2 fEq (mVar 2) (mC (.int 1))) (mOr (mTru (m1 (fIsi .bl) (mVar 1))) (mTru (m1 (fIsi .bl) (mVar 0))))) (mSq (mRetF (mAndV (m1 (fIsi .bl) (mVar 1)) (mAndV (m1 (fIsi .bl) (mVar 0)) (m2 fEq (mVar 0) (mVar 1)))))
    mNx) mNx)
    (mSq (mIfS (mAnd (m2 fEq (mVar 2) (mC (.int 2))) (mOr (mTru (m1 (fIsi .str) (mVar 1))) (mTru (m1 (fIsi .str) (mVar 0))))) (mSq (mRetF (mAndV (m1 (fIsi .str) (mVar 1)) (mAndV (m1 (fIsi .str) (mVar 0)) (m2 fEq (mVar 0) (mVar 1)))))
    mNx) mNx)
    (mSq (mIfS (mAnd (m2 fEq (mVar 2) (mC (.int 3))) (mOr (mTru (m1 (fIsi .int) (mVar 1))) (mTru (m1 (fIsi .int) (mVar 0))))) (mSq (mRetF (mAndV (m1 (fIsi .int) (mVar 1)) (mAndV (m1 (fIsi .int) (mVar 0)) (m2 fEq (mVar 0) (mVar 1)))))
    mNx) mNx)
    mNx))))
    (mSq (mIfS (mOr (m2 fNe (m1 (fIsi .tup) (mVar 1)) (m1 (fIsi .tup) (mVar 0))) (m2 fNe (m1 (fIsi .lst) (mVar 1)) (m1 (fIsi .lst) (mVar 0)))) (mSq (mRetF (mC (.bl false)))
    mNx) mNx)
    (mSq (mRetF (mAndV (m2 fEq (mA fLen (aCons (mVar 0) aNil)) (mA fLen (aCons (mVar 1) aNil))) (mA fAll (aCons (mLc (mIA iZp (aCons (mVar 0) (aCons (mVar 1) aNil))) (gT 2 (gsCons (gN 3) (gsCons (gN 4) gsNil))) (mC (.bl true)) (mA (fP 2 (mAlikeL n)) (aCons (mVar 3) (aCons (mVar 4) aNil))) [3, 4]) aNil))))
    mNx)))))
theorem alike_non {n : Nat} {h : MH} : mAlikeL (n + 1) [.non, .non] h = .ok (.bl true) h := rfl
theorem alike_bl {n : Nat} {h : MH} {b : Bool} : mAlikeL (n + 1) [.bl b, .bl b] h = .ok (.bl true) h := by cases b <;> rfl
theorem alike_str0 {n : Nat} {h : MH} {b c : Str} : mAlikeL (n + 1) [.str b, .str c] h = .ok (.bl (decide (b = c))) h := rfl
theorem alike_int0 {n : Nat} {h : MH} {b c : Int} : mAlikeL (n + 1) [.int b, .int c] h = .ok (.bl (b == c)) h := rfl
def mAlZip (n : Nat) : ME := mLc (mIA iZp (aCons (mVar 0) (aCons (mVar 1) aNil))) (gT 2 (gsCons (gN 3) (gsCons (gN 4) gsNil))) (mC (.bl true)) (mA (fP 2 (mAlikeL n)) (aCons (mVar 3) (aCons (mVar 4) aNil))) [3, 4]
def mAlEnd (n : Nat) : ME := mAndV (m2 fEq (mA fLen (aCons (mVar 0) aNil)) (mA fLen (aCons (mVar 1) aNil))) (mA fAll (aCons (mAlZip n) aNil))
theorem alZip_ok {n : Nat} {h : MH} {t u : T} {xs ys : List T} {s2 : Option T} (ht : seqOf t h = some xs) (hu : seqOf u h = some ys) (ht' : srcOf t = some xs) (hu' : srcOf u = some ys) (hl : xs.length = ys.length) (hb : xs.length ≤ big)
    (hel : ∀ p ∈ xs.zip ys, closed p.1 = true ∧ closed p.2 = true ∧ ∃ h', mAlikeL n [p.1, p.2] [] = .ok (.bl true) h') :
    mAlZip n [some t, some u, s2, none, none] h = .ok (.lst ((xs.zip ys).map fun _ => .bl true)) h := by
  have e1 : (mIA iZp (aCons (mVar 0) (aCons (mVar 1) aNil))) [some t, some u, s2, none, none] h = .ok (zipT xs ys) h := by
    simp only [mIA, aCons, aNil, mVar, RL.bindL, List.getElem?_cons_zero, List.getElem?_cons_succ, iZp, ht', hu']
  have e2 : lcFrom (gT 2 (gsCons (gN 3) (gsCons (gN 4) gsNil))) (mC (.bl true)) (mA (fP 2 (mAlikeL n)) (aCons (mVar 3) (aCons (mVar 4) aNil))) [some t, some u, s2, none, none] (zipT xs ys) [] h = .ok (.lst ((zipT xs ys).map fun _ => .bl true)) h := by
    refine lc_map (f := fun _ => .bl true) _ (fun x hx => ?_) (by unfold zipT; rw [List.length_map, List.length_zip]; omega)
    obtain ⟨q, hq, rfl⟩ := List.mem_map.mp hx
    obtain ⟨c1, c2, h', e⟩ := hel q hq
    refine ⟨[some t, some u, s2, some q.1, some q.2], rfl, rfl, ?_⟩
    show (if [q.1, q.2].length = 2 ∧ closedL [q.1, q.2] = true then pureR (mAlikeL n [q.1, q.2] []) h else .stuck) = _
    rw [if_pos ⟨rfl, by simp [closedL, c1, c2]⟩, e]
    rfl
  show ((mIA iZp (aCons (mVar 0) (aCons (mVar 1) aNil))) [some t, some u, s2, none, none] h).bind _ = _
  rw [e1]
  show lcFrom _ _ _ (wipeM [some t, some u, s2, none, none] [3, 4]) (zipT xs ys) [] h = _
  have e3 : wipeM [some t, some u, s2, none, none] [3, 4] = [some t, some u, s2, none, none] := rfl
  rw [e3, e2]
  unfold zipT
  rw [List.map_map]
  rfl
theorem bls_true (xs : List (T × T)) : blsOf (xs.map fun _ => T.bl true) = some (xs.map fun _ => true) := by
  induction xs with
  | nil => rfl
  | cons x xs ih => simp only [List.map_cons, blsOf, ih, Option.map_some]
theorem all_true (xs : List (T × T)) : ((xs.map fun _ => true).all id) = true := by
  induction xs with
  | nil => rfl
  | cons x xs ih => simpa using ih
theorem alEnd_ok {n : Nat} {h : MH} {t u : T} {xs ys : List T} {s2 : Option T} (el : fLen [t] h = .ok (.int xs.length) h) (eu : fLen [u] h = .ok (.int ys.length) h) (ht : seqOf t h = some xs) (hu : seqOf u h = some ys) (ht' : srcOf t = some xs) (hu' : srcOf u = some ys) (hl : xs.length = ys.length) (hb : xs.length ≤ big)
    (hel : ∀ p ∈ xs.zip ys, closed p.1 = true ∧ closed p.2 = true ∧ ∃ h', mAlikeL n [p.1, p.2] [] = .ok (.bl true) h') :
    mAlEnd n [some t, some u, s2, none, none] h = .ok (.bl true) h := by
  have z := alZip_ok (s2 := s2) ht hu ht' hu' hl hb hel
  have e4 : fAll [.lst ((xs.zip ys).map fun _ => .bl true)] h = .ok (.bl true) h := by
    simp only [fAll, fBls, lstOf, bls_true, all_true]
  simp only [mAlEnd, mAndV, m2, mA, aCons, aNil, RL.bind, R.bind, mVar, List.getElem?_cons_zero, List.getElem?_cons_succ, el, eu, fEq_i, hl, decide_true, fTru, fAndV, z, e4]
theorem alike_tup {n : Nat} {h : MH} {xs ys : List T} (hl : xs.length = ys.length) (hb : xs.length ≤ big)
    (hel : ∀ p ∈ xs.zip ys, closed p.1 = true ∧ closed p.2 = true ∧ ∃ h', mAlikeL n [p.1, p.2] [] = .ok (.bl true) h') : mAlikeL (n + 1) [.tup xs, .tup ys] h = .ok (.bl true) h := by
  have e : mAlikeL (n + 1) [.tup xs, .tup ys] h = (match (mSq (mRetF (mAlEnd n)) mNx) [some (.tup xs), some (.tup ys), some (.int 3), none, none] h with
    | .nx _ h1 => R.ok .non h1
    | .rt t h1 => .ok t h1
    | .ex x _ h1 => .ex x h1
    | _ => .stuck) := rfl
  rw [e]
  have z := alEnd_ok (n := n) (h := h) (t := .tup xs) (u := .tup ys) (s2 := some (.int 3)) rfl rfl rfl rfl rfl rfl hl hb hel
  simp only [mSq, mRetF, R.toS, z, fzT]
theorem alike_lst {n : Nat} {h : MH} {xs ys : List T} (hl : xs.length = ys.length) (hb : xs.length ≤ big)
    (hel : ∀ p ∈ xs.zip ys, closed p.1 = true ∧ closed p.2 = true ∧ ∃ h', mAlikeL n [p.1, p.2] [] = .ok (.bl true) h') : mAlikeL (n + 1) [.lst xs, .lst ys] h = .ok (.bl true) h := by
  have e : mAlikeL (n + 1) [.lst xs, .lst ys] h = (match (mSq (mRetF (mAlEnd n)) mNx) [some (.lst xs), some (.lst ys), some (.int 3), none, none] h with
    | .nx _ h1 => R.ok .non h1
    | .rt t h1 => .ok t h1
    | .ex x _ h1 => .ex x h1
    | _ => .stuck) := rfl
  rw [e]
  have z := alEnd_ok (n := n) (h := h) (t := .lst xs) (u := .lst ys) (s2 := some (.int 3)) rfl rfl rfl rfl rfl rfl hl hb hel
  simp only [mSq, mRetF, R.toS, z, fzT]
/-- a plain tree of depth below n -/
inductive Pl : Nat → T → Prop where
  | non {n : Nat} : Pl (n + 1) .non
  | bl {n : Nat} (b : Bool) : Pl (n + 1) (.bl b)
  | int {n : Nat} (i : Int) : Pl (n + 1) (.int i)
  | str {n : Nat} (s : Str) : Pl (n + 1) (.str s)
  | tup {n : Nat} {xs : List T} (h : ∀ x ∈ xs, Pl n x) (hb : xs.length ≤ big) : Pl (n + 1) (.tup xs)
  | lst {n : Nat} {xs : List T} (h : ∀ x ∈ xs, Pl n x) (hb : xs.length ≤ big) : Pl (n + 1) (.lst xs)
theorem closedL_of : ∀ {xs : List T}, (∀ x ∈ xs, closed x = true) → closedL xs = true
  | [], _ => rfl
  | x :: xs, h => by
    simp only [closedL, Bool.and_eq_true]
    exact ⟨h x List.mem_cons_self, closedL_of fun y hy => h y (List.mem_cons_of_mem _ hy)⟩
theorem Pl.closed {n : Nat} {t : T} (p : Pl n t) : Mi.closed t = true := by
  induction p with
  | non => rfl
  | bl b => rfl
  | int i => rfl
  | str s => rfl
  | tup h hb ih => simp only [Mi.closed]; exact closedL_of ih
  | lst h hb ih => simp only [Mi.closed]; exact closedL_of ih
theorem zip_self {xs : List T} {p : T × T} (h : p ∈ xs.zip xs) : p.1 = p.2 ∧ p.1 ∈ xs := by
  induction xs with
  | nil => cases h
  | cons x xs ih =>
    rw [List.zip_cons_cons] at h
    rcases List.mem_cons.mp h with e | e
    · subst e; exact ⟨rfl, List.mem_cons_self⟩
    · exact ⟨(ih e).1, List.mem_cons_of_mem _ (ih e).2⟩
theorem alike_refl {n : Nat} {t : T} (p : Pl n t) (h : MH) : mAlikeL n [t, t] h = .ok (.bl true) h := by
  induction p generalizing h with
  | non => exact alike_non
  | bl b => exact alike_bl
  | int i => rw [alike_int0, beq_self_eq_true]
  | str s => rw [alike_str0, decide_eq_true rfl]
  | tup hp hb ih =>
    refine alike_tup rfl hb fun q hq => ?_
    obtain ⟨e, m⟩ := zip_self hq
    rw [← e]
    exact ⟨(hp _ m).closed, (hp _ m).closed, [], ih _ m []⟩
  | lst hp hb ih =>
    refine alike_lst rfl hb fun q hq => ?_
    obtain ⟨e, m⟩ := zip_self hq
    rw [← e]
    exact ⟨(hp _ m).closed, (hp _ m).closed, [], ih _ m []⟩
end Mi
end part_Bh
section part_Bs
set_option maxRecDepth 100000
set_option maxHeartbeats 2000000
/-! Bs: texts as lists of signs. -/
namespace Mi
open PySem PySem.Spec PyProof.Rows L2
def sS (l : List Nat) : Str := ⟨l.toArray⟩
theorem sS_len (l : List Nat) : (sS l).length = l.length := by simp [sS, Str.length]
theorem sS_list (l : List Nat) : (sS l).cps.toList = l := by simp [sS]
theorem sS_inj {l k : List Nat} : sS l = sS k ↔ l = k := by
  constructor
  · intro h
    have := congrArg (fun z : Str => z.cps.toList) h
    simpa [sS] using this
  · intro h; rw [h]
theorem sS_app (l k : List Nat) : sS l ++ sS k = sS (l ++ k) := by
  show (⟨l.toArray ++ k.toArray⟩ : Str) = _
  simp [sS]
theorem sS_of (z : Str) : sS z.cps.toList = z := by cases z; simp [sS]
theorem fAdd_s {l k : List Nat} {h : MH} (hb : l.length + k.length ≤ big) : fAdd (.str (sS l)) (.str (sS k)) h = .ok (.str (sS (l ++ k))) h := by
  show (if (sS l).length + (sS k).length ≤ big then R.ok (T.str (sS l ++ sS k)) h else .stuck) = _
  rw [sS_len, sS_len, if_pos hb, sS_app]
theorem fLen_s {l : List Nat} {h : MH} (hb : l.length ≤ big) : fLen [.str (sS l)] h = .ok (.int l.length) h := by
  show (if (sS l).length ≤ big then R.ok (.int (sS l).length) h else .stuck) = _
  rw [sS_len, if_pos hb]
theorem fIx_s {l : List Nat} {k : Int} {c : Nat} {h : MH} (hb : l.length ≤ big) (e : atI l k = some c) : fIx (.str (sS l)) (.int k) h = .ok (.str (sS [c])) h := by
  show (if (sS l).length ≤ big then (match atI (sS l).cps.toList k with
      | some c => R.ok (T.str ⟨#[c]⟩) h
      | none => .stuck) else .stuck) = _
  rw [sS_len, if_pos hb, sS_list, e]
  rfl
theorem atI_nat {α : Type} {l : List α} {k : Nat} (h : k < l.length) : atI l (k : Int) = some l[k] := by
  unfold atI ixN
  rw [if_pos (by omega), if_pos (by omega)]
  show l[((k : Int)).toNat]? = _
  rw [Int.toNat_natCast]
  exact List.getElem?_eq_getElem h
theorem atI_last {α : Type} {l : List α} {c : α} : atI (l ++ [c]) (-1) = some c := by
  unfold atI ixN
  rw [if_neg (by omega), if_pos (by simp; omega)]
  show (l ++ [c])[((-1 : Int) + ((l ++ [c]).length : Int)).toNat]? = _
  have e : ((-1 : Int) + ((l ++ [c]).length : Int)).toNat = l.length := by
    rw [List.length_append, List.length_singleton]; omega
  rw [e]
  simp
theorem cutS_to {l : List Nat} {k : Nat} : cutS (sS l) none (some (k : Int)) = sS (l.take k) := by
  unfold cutS
  rw [sS_list, sS_len, HT.sIx_none, HT.sIx_nat, List.drop_zero, Nat.sub_zero]
  show sS _ = _
  rw [sS_inj]
  by_cases h : k ≤ l.length
  · rw [Nat.min_eq_left h]
  · rw [Nat.min_eq_right (by omega), List.take_of_length_le (by omega), List.take_of_length_le (by omega)]
theorem sIx_neg1 (n d : Nat) : HT.sIx n d (some (-1)) = n - 1 := by
  show (if (-1 : Int) < 0 then ((-1 : Int) + (n : Int)).toNat else min (-1 : Int).toNat n) = n - 1
  rw [if_pos (by omega)]; omega
theorem cutS_butlast {l : List Nat} : cutS (sS l) none (some (-1)) = sS l.dropLast := by
  unfold cutS
  rw [sS_list, sS_len, HT.sIx_none, sIx_neg1, List.drop_zero, Nat.sub_zero]
  show sS _ = _
  rw [sS_inj, List.dropLast_eq_take]
theorem cutS_mid {l : List Nat} {k : Nat} (hk : k ≤ l.length) : cutS (sS l) (some (k : Int)) (some (-1)) = sS (l.drop k).dropLast := by
  unfold cutS
  rw [sS_list, sS_len, HT.sIx_nat, sIx_neg1, Nat.min_eq_left hk]
  show sS _ = _
  rw [sS_inj, List.dropLast_eq_take, List.length_drop]
  congr 1
  omega
theorem fold_rep (a : Array Nat) : ∀ (n : Nat) (acc : Array Nat), ((List.replicate n a).foldl (· ++ ·) acc).toList = acc.toList ++ (List.replicate n a.toList).flatten
  | 0, acc => by simp
  | n + 1, acc => by
    rw [List.replicate_succ, List.foldl_cons, fold_rep a n, List.replicate_succ]
    simp
theorem flat_one (c : Nat) : ∀ n : Nat, (List.replicate n [c]).flatten = List.replicate n c
  | 0 => rfl
  | n + 1 => by rw [List.replicate_succ, List.flatten_cons, flat_one c n, List.replicate_succ]; rfl
theorem mul_one (c n : Nat) : Txt.mul (sS [c]) (n : Int) = sS (List.replicate n c) := by
  unfold Txt.mul
  by_cases h : (n : Int) < 1
  · have : n = 0 := by omega
    subst this; rfl
  · rw [if_neg h]
    by_cases h2 : n = 1
    · subst h2; rfl
    · have e : ((((n : Int) == 1) || ((sS [c]).length == 0)) = true) = False := by
        rw [sS_len]
        simp
        omega
      rw [if_neg (by rw [e]; exact id)]
      have := fold_rep (sS [c]).cps n #[]
      rw [show (sS [c]).cps.toList = [c] from rfl, flat_one] at this
      have e2 : ((List.replicate ((n : Int)).toNat (sS [c]).cps).foldl (· ++ ·) #[]) = (List.replicate n c).toArray := by
        rw [Int.toNat_natCast]
        apply Array.toList_inj.mp
        rw [this]
        simp
      rw [e2]; rfl
theorem fMul_s {c : Nat} {n : Nat} {h : MH} (hb : n ≤ 1000) : fMul (.str (sS [c])) (.int (n : Int)) h = .ok (.str (sS (List.replicate n c))) h := by
  have e : strMulOk (sS [c]) (n : Int) = true := by
    unfold strMulOk
    simp only [Bool.and_eq_true, decide_eq_true_eq, sS_len, List.length_singleton]
    omega
  show (if strMulOk (sS [c]) (n : Int) then R.ok (T.str (Txt.mul (sS [c]) (n : Int))) h else .stuck) = _
  rw [e, mul_one]; rfl
theorem take_rep (x : Nat) : ∀ (k : Nat) (r : List Nat), (∀ y, r.head? = some y → y ≠ x) → ((List.replicate k x ++ r).takeWhile fun y => decide (y = x)).length = k
  | 0, r, h => by
    cases r with
    | nil => rfl
    | cons y r =>
      have := h y rfl
      simp [List.takeWhile_cons, this]
  | k + 1, r, h => by
    rw [List.replicate_succ, List.cons_append, List.takeWhile_cons, if_pos (by simp), List.length_cons, take_rep x k r h]
theorem rstrip_ok {l : List Nat} {k c : Nat} (h : ∀ y, l.getLast? = some y → y ≠ c) : Txt.rstripChars (sS (l ++ List.replicate k c)) (sS [c]) = sS l := by
  unfold Txt.rstripChars
  rw [stripBy_eq]
  have e1 : PySem.stripLo (sS [c]).cps.contains false (sS (l ++ List.replicate k c)) = 0 := rfl
  have hg : ∀ y, (sS [c]).cps.contains y = decide (y = c) := fun y => by simp [sS]
  have e2 : PySem.stripHi (sS [c]).cps.contains true (sS (l ++ List.replicate k c)) 0 = l.length := by
    show (sS (l ++ List.replicate k c)).length - (((sS (l ++ List.replicate k c)).cps.toList.drop 0).reverse.takeWhile (sS [c]).cps.contains).length = _
    rw [sS_len, sS_list, List.drop_zero, List.reverse_append, List.reverse_replicate, funext hg, take_rep c k l.reverse (fun y hy => h y (by rw [List.head?_reverse] at hy; exact hy)), List.length_append, List.length_replicate]
    omega
  rw [e1, e2]
  show (⟨(l ++ List.replicate k c).toArray.extract 0 l.length⟩ : Str) = _
  unfold sS
  congr 1
  simp
end Mi
end part_Bs
section part_Bt
set_option maxRecDepth 100000
set_option maxHeartbeats 2000000
/-! Bt: the mirrors' equations in one bundle, for simp. -/
namespace Mi
open PySem PySem.Spec PyProof.Rows L2
theorem mi :
    (∀ (N : Nat) (mb : MS) (ts : List T) (h : MH), mDef N mb ts h = (match mb (ts.map some ++ List.replicate (N - ts.length) none) h with
      | .nx _ h1 => R.ok .non h1
      | .rt t h1 => .ok t h1
      | .ex x _ h1 => .ex x h1
      | _ => .stuck)) ∧
    (∀ (m m' : MS) (s : SM) (h : MH), mSq m m' s h = (match m s h with
      | .nx s1 h1 => m' s1 h1
      | r => r)) ∧
    (∀ (s : SM) (h : MH), mNx s h = .nx s h) ∧ (∀ (s : SM) (h : MH), mPass s h = .nx s h) ∧ (∀ (s : SM) (h : MH), mBk s h = .bk s h) ∧ (∀ (s : SM) (h : MH), mCt s h = .ct s h) ∧
    (∀ (me : ME) (s : SM) (h : MH), mEx me s h = (me s h).toS s fun _ h1 => .nx s h1) ∧
    (∀ (me : ME) (s : SM) (h : MH), mRet me s h = (me s h).toS s fun t h1 => .rt t h1) ∧
    (∀ (me : ME) (s : SM) (h : MH), mRetF me s h = (me s h).toS s fun t h1 => .rt (fzT t h1).1 (fzT t h1).2) ∧
    (∀ (s : SM) (h : MH), mRetN s h = .rt .non h) ∧
    (∀ (mc : ME) (m m' : MS) (s : SM) (h : MH), mIfS mc m m' s h = (mc s h).toS s (fIfS m m' s)) ∧
    (∀ (m m' : MS) (s : SM) (h : MH), fIfS m m' s (.bl true) h = m s h) ∧ (∀ (m m' : MS) (s : SM) (h : MH), fIfS m m' s (.bl false) h = m' s h) ∧
    (∀ (i : Nat) (me : ME) (s : SM) (h : MH), mSet i me s h = (me s h).toS s fun t h1 => .nx (s.set i (some t)) h1) ∧
    (∀ (t : T) (h : MH) (s : SM) (f : T → MH → SR), (R.ok t h).toS s f = f t h) ∧ (∀ (x : Exc) (h : MH) (s : SM) (f : T → MH → SR), (R.ex x h).toS s f = .ex x s h) ∧
    (∀ (t : T) (h : MH) (f : T → MH → R), (R.ok t h).bind f = f t h) ∧ (∀ (x : Exc) (h : MH) (f : T → MH → R), (R.ex x h).bind f = .ex x h) ∧
    (∀ (ts : List T) (h : MH) (f : List T → MH → R), (RL.ok ts h).bind f = f ts h) ∧
    (∀ (i : Nat) (s : SM) (h : MH), mVar i s h = (match s[i]? with
      | some (some t) => R.ok t h
      | _ => .stuck)) ∧ (∀ (t : T) (s : SM) (h : MH), mC t s h = .ok t h) ∧
    (∀ (f : T → T → MH → R) (ma mb : ME) (s : SM) (h : MH), m2 f ma mb s h = (ma s h).bind fun t h1 => (mb s h1).bind fun u h2 => f t u h2) ∧
    (∀ (f : T → MH → R) (ma : ME) (s : SM) (h : MH), m1 f ma s h = (ma s h).bind f) ∧
    (∀ (s : SM) (h : MH), aNil s h = .ok [] h) ∧ (∀ (ma : ME) (mr : MA) (s : SM) (h : MH), aCons ma mr s h = (match ma s h with
      | .ok t h1 => match mr s h1 with
        | .ok ts h2 => RL.ok (t :: ts) h2
        | .ex x h2 => .ex x h2
        | .stuck => .stuck
      | .ex x h1 => .ex x h1
      | .stuck => .stuck)) ∧
    (∀ (f : List T → MH → R) (mr : MA) (s : SM) (h : MH), mA f mr s h = (mr s h).bind f) ∧
    (∀ (ma mb : ME) (s : SM) (h : MH), mAnd ma mb s h = (ma s h).bind (fAnd mb s)) ∧ (∀ (mb : ME) (s : SM) (h : MH), fAnd mb s (.bl true) h = mb s h) ∧ (∀ (mb : ME) (s : SM) (h : MH), fAnd mb s (.bl false) h = .ok (.bl false) h) ∧
    (∀ (ma mb : ME) (s : SM) (h : MH), mOr ma mb s h = (ma s h).bind (fOr mb s)) ∧ (∀ (mb : ME) (s : SM) (h : MH), fOr mb s (.bl true) h = .ok (.bl true) h) ∧ (∀ (mb : ME) (s : SM) (h : MH), fOr mb s (.bl false) h = mb s h) ∧
    (∀ (ma : ME) (s : SM) (h : MH), mNot ma s h = (ma s h).bind fNot) ∧ (∀ (b : Bool) (h : MH), fNot (.bl b) h = .ok (.bl (!b)) h) ∧
    (∀ (mc ma mb : ME) (s : SM) (h : MH), mIf mc ma mb s h = (mc s h).bind (fIf ma mb s)) ∧ (∀ (ma mb : ME) (s : SM) (h : MH), fIf ma mb s (.bl true) h = ma s h) ∧ (∀ (ma mb : ME) (s : SM) (h : MH), fIf ma mb s (.bl false) h = mb s h) ∧
    (∀ (ma mb : ME) (s : SM) (h : MH), mOrV ma mb s h = (ma s h).bind (fOrV mb s)) ∧ (∀ (ma mb : ME) (s : SM) (h : MH), mAndV ma mb s h = (ma s h).bind (fAndV mb s)) ∧ (∀ (ma : ME) (s : SM) (h : MH), mNotV ma s h = (ma s h).bind fNotV) ∧
    (∀ (mb : ME) (s : SM) (h : MH), fAndV mb s (.bl true) h = mb s h) ∧ (∀ (mb : ME) (s : SM) (h : MH), fAndV mb s (.bl false) h = .ok (.bl false) h) ∧
    (∀ (mb : ME) (s : SM) (h : MH), fOrV mb s (.bl true) h = .ok (.bl true) h) ∧ (∀ (mb : ME) (s : SM) (h : MH), fOrV mb s (.bl false) h = mb s h) ∧ (∀ (b : Bool) (h : MH), fNotV (.bl b) h = .ok (.bl (!b)) h) ∧
    (∀ (ma : ME) (s : SM) (h : MH), mTru ma s h = (ma s h).bind fTru) ∧ (∀ (b : Bool) (h : MH), fTru (.bl b) h = .ok (.bl b) h) ∧
    (∀ (mi : MI) (mgt : MG) (mb : MS) (s : SM) (h : MH), mFor mi mgt mb s h = (match mi s h with
      | .ok xs h1 => forFrom mgt mb xs s h1
      | .ex x h1 => .ex x s h1
      | .stuck => .stuck)) ∧
    (∀ (me : ME) (mgt : MG) (s : SM) (h : MH), mAs me mgt s h = (me s h).toS s fun t h1 => match mgt t s h1 with
      | .ok s1 h2 => .nx s1 h2
      | .stuck => .stuck) ∧
    (∀ (i : Nat) (t : T) (s : SM) (h : MH), gN i t s h = .ok (s.set i (some t)) h) ∧
    (∀ (f : List T → MH → RL) (mr : MA) (s : SM) (h : MH), mIA f mr s h = (mr s h).bindL f) ∧ (∀ (ts : List T) (h : MH) (f : List T → MH → RL), (RL.ok ts h).bindL f = f ts h) ∧
    (∀ (ma : ME) (s : SM) (h : MH), mSrc ma s h = (ma s h).bindL iS) ∧ (∀ (t : T) (h : MH) (f : T → MH → RL), (R.ok t h).bindL f = f t h) ∧
    (∀ (mt ml mu : ME) (s : SM) (h : MH), mSl mt ml mu s h = (mt s h).bind fun t h1 => (ml s h1).bind fun l h2 => (mu s h2).bind fun u h3 => fSl t l u h3) ∧
    (∀ (i : Int) (h : MH), fPart (.int i) h = .ok (.int i) h) ∧ (∀ (i : Int) (h : MH), fNeg (.int i) h = .ok (.int (-i)) h) ∧
    (∀ (T' : String) (f : T → List T → MH → R) (mo : ME) (mr : MA) (s : SM) (h : MH), mMe T' f mo mr s h = (mo s h).bind fun t h1 => if tyOK T' t h1 then (mr s h1).bind fun ts h2 => f t ts h2 else .stuck) ∧
    (∀ (n nk : Nat) (is : List Nat) (fm : List T → MH → R) (mr mk : MA) (s : SM) (h : MH), mKw n nk is fm mr mk s h = (mr s h).bind fun ts h1 => (mk s h1).bind fun us h2 => if ts.length = n ∧ us.length = nk then fm (pick is (ts ++ us)) h2 else .stuck) ∧
    (∀ (c : Ty5) (t : T) (h : MH), fIsi c t h = (match tyOfT t h with
      | some a => R.ok (.bl (isi5 a c)) h
      | none => .stuck)) ∧
    (∀ (i j : Nat) (mr : MA) (s : SM) (h : MH), mPar i j mr s h = (match mr s h with
      | .ok [t, u] h1 => SR.nx ((s.set i (some t)).set j (some u)) h1
      | .ok _ _ => .stuck
      | .ex x h1 => .ex x s h1
      | .stuck => .stuck)) := by
  repeat' apply And.intro
  all_goals (intros; rfl)
theorem mz : (∀ h : MH, fzT .non h = (.non, h)) ∧ (∀ (b : Bool) (h : MH), fzT (.bl b) h = (.bl b, h)) ∧ (∀ (b : Int) (h : MH), fzT (.int b) h = (.int b, h)) ∧ (∀ (b : Str) (h : MH), fzT (.str b) h = (.str b, h)) ∧
    (∀ (b : List T) (h : MH), fzT (.tup b) h = (.tup b, h)) ∧ (∀ (b : List T) (h : MH), fzT (.lst b) h = (.lst b, h)) ∧ (∀ (b : List T) (h : MH), fzT (.frl b) h = (.frl b, h)) := by
  repeat' apply And.intro
  all_goals (intros; rfl)
theorem mty : (∀ h : MH, tyOfT .non h = some .non) ∧ (∀ (b : Bool) (h : MH), tyOfT (.bl b) h = some .bl) ∧ (∀ (b : Int) (h : MH), tyOfT (.int b) h = some .int) ∧ (∀ (b : Str) (h : MH), tyOfT (.str b) h = some .str) ∧
    (∀ (b : List T) (h : MH), tyOfT (.tup b) h = some .tup) ∧ (∀ (b : List T) (h : MH), tyOfT (.lst b) h = some .lst) ∧ (∀ (b : List T) (h : MH), tyOfT (.frl b) h = some .lst) ∧
    (isi5 .bl .bl = true ∧ isi5 .bl .int = true ∧ isi5 .int .int = true ∧ isi5 .int .bl = false ∧ isi5 .str .str = true ∧ isi5 .tup .tup = true ∧ isi5 .lst .lst = true ∧ isi5 .str .bl = false ∧ isi5 .str .int = false ∧ isi5 .tup .lst = false ∧ isi5 .lst .tup = false) := by
  repeat' apply And.intro
  all_goals (intros; rfl)
/-- slots -/
theorem ms : (∀ (x : T) (xs : List T), (x :: xs).map some = some x :: xs.map some) ∧ (([] : List T).map some = []) ∧ (∀ (x : T) (xs : List T), (x :: xs).length = xs.length + 1) ∧ (([] : List T).length = 0) ∧
    (∀ (x : Option T) (xs ys : List (Option T)), (x :: xs) ++ ys = x :: (xs ++ ys)) ∧ (∀ ys : List (Option T), [] ++ ys = ys) ∧
    (∀ (x : Option T) (xs : List (Option T)), (x :: xs)[0]? = some x) ∧ (∀ (x : Option T) (xs : List (Option T)) (i : Nat), (x :: xs)[i + 1]? = xs[i]?) ∧
    (∀ (x y : Option T) (xs : List (Option T)), (x :: xs).set 0 y = y :: xs) ∧ (∀ (x y : Option T) (xs : List (Option T)) (i : Nat), (x :: xs).set (i + 1) y = x :: xs.set i y) ∧
    (∀ (n : Nat) (x : Option T), List.replicate (n + 1) x = x :: List.replicate n x) ∧ (∀ (x : Option T), List.replicate 0 x = []) := by
  repeat' apply And.intro
  all_goals (intros; rfl)
end Mi
end part_Bt
section part_W63
set_option maxRecDepth 100000
set_option maxHeartbeats 4000000
namespace L_k63
open PySem PySem.Spec PyProof.Rows L2 Mi
def top (i : Nat) : Stmt := PySem.Challenge.pw_hushaccord_k63_errors_apart.main.body.getD i (.Pass ⟨0, 0, 0, 0⟩)
def xs_given : List Str := ["InvalidSign", "InvalidRow", "InvalidHand", "InvalidState", "InvalidRule", "InvalidCount", "InvalidInput", "InvalidKnowledge", "NotLet", "InvalidLimit"]
def xs_index : List Str := ["InvalidStates", "InvalidCase"]
def xs_limit : List Str := ["Full"]
def xs_line : List Str := ["InvalidPage"]
def xs_most : List Str := ["Finished", "TooMany"]
def xs_name : List Str := ["InvalidName", "WrongKind", "DuplicateName", "UnknownName"]
def xs_sign : List Str := ["TakenMove"]
def xs_tag_p0 : List Str := ["InvalidSign", "InvalidRow", "InvalidHand", "InvalidStates", "InvalidState", "InvalidRule", "InvalidTask", "InvalidCase", "InvalidCount", "InvalidTable", "TablesDiffer", "InvalidInput"]
def xs_tag_p1 : List Str := ["InvalidKnowledge", "NotLet", "Finished", "NoRows", "DeadDiffer", "TooMany", "TakenMove", "LastMove", "InvalidText", "InvalidName", "WrongKind", "DuplicateName"]
def xs_tag_p2 : List Str := ["Full", "InvalidLimit", "InvalidCommand", "InvalidPage", "UnknownName", "NothingLeft"]
def xs_tag : List Str := xs_tag_p0 ++ xs_tag_p1 ++ xs_tag_p2
def xs_word : List Str := ["InvalidCommand"]
def tx_DeadDiffer_p0 : List (Str × Bool) := [("InvalidSign", false), ("InvalidRow", false), ("InvalidHand", false), ("InvalidStates", false), ("InvalidState", false), ("InvalidRule", false), ("InvalidTask", false), ("InvalidCase", false), ("InvalidCount", false), ("InvalidTable", false), ("TablesDiffer", false), ("InvalidInput", false)]
def tx_DeadDiffer_p1 : List (Str × Bool) := [("InvalidKnowledge", false), ("NotLet", false), ("Finished", false), ("NoRows", false), ("DeadDiffer", true), ("TooMany", false), ("TakenMove", false), ("LastMove", false), ("InvalidText", false), ("InvalidName", false), ("WrongKind", false), ("DuplicateName", false)]
def tx_DeadDiffer_p2 : List (Str × Bool) := [("Full", false), ("InvalidLimit", false), ("InvalidCommand", false), ("InvalidPage", false), ("UnknownName", false), ("NothingLeft", false)]
def tx_DeadDiffer : List (Str × Bool) := tx_DeadDiffer_p0 ++ tx_DeadDiffer_p1 ++ tx_DeadDiffer_p2
def tx_DuplicateName_p0 : List (Str × Bool) := [("InvalidSign", false), ("InvalidRow", false), ("InvalidHand", false), ("InvalidStates", false), ("InvalidState", false), ("InvalidRule", false), ("InvalidTask", false), ("InvalidCase", false), ("InvalidCount", false), ("InvalidTable", false), ("TablesDiffer", false), ("InvalidInput", false)]
def tx_DuplicateName_p1 : List (Str × Bool) := [("InvalidKnowledge", false), ("NotLet", false), ("Finished", false), ("NoRows", false), ("DeadDiffer", false), ("TooMany", false), ("TakenMove", false), ("LastMove", false), ("InvalidText", false), ("InvalidName", false), ("WrongKind", false), ("DuplicateName", true)]
def tx_DuplicateName_p2 : List (Str × Bool) := [("Full", false), ("InvalidLimit", false), ("InvalidCommand", false), ("InvalidPage", false), ("UnknownName", false), ("NothingLeft", false)]
def tx_DuplicateName : List (Str × Bool) := tx_DuplicateName_p0 ++ tx_DuplicateName_p1 ++ tx_DuplicateName_p2
def tx_Finished_p0 : List (Str × Bool) := [("InvalidSign", false), ("InvalidRow", false), ("InvalidHand", false), ("InvalidStates", false), ("InvalidState", false), ("InvalidRule", false), ("InvalidTask", false), ("InvalidCase", false), ("InvalidCount", false), ("InvalidTable", false), ("TablesDiffer", false), ("InvalidInput", false)]
def tx_Finished_p1 : List (Str × Bool) := [("InvalidKnowledge", false), ("NotLet", false), ("Finished", true), ("NoRows", false), ("DeadDiffer", false), ("TooMany", false), ("TakenMove", false), ("LastMove", false), ("InvalidText", false), ("InvalidName", false), ("WrongKind", false), ("DuplicateName", false)]
def tx_Finished_p2 : List (Str × Bool) := [("Full", false), ("InvalidLimit", false), ("InvalidCommand", false), ("InvalidPage", false), ("UnknownName", false), ("NothingLeft", false)]
def tx_Finished : List (Str × Bool) := tx_Finished_p0 ++ tx_Finished_p1 ++ tx_Finished_p2
def tx_Full_p0 : List (Str × Bool) := [("InvalidSign", false), ("InvalidRow", false), ("InvalidHand", false), ("InvalidStates", false), ("InvalidState", false), ("InvalidRule", false), ("InvalidTask", false), ("InvalidCase", false), ("InvalidCount", false), ("InvalidTable", false), ("TablesDiffer", false), ("InvalidInput", false)]
def tx_Full_p1 : List (Str × Bool) := [("InvalidKnowledge", false), ("NotLet", false), ("Finished", false), ("NoRows", false), ("DeadDiffer", false), ("TooMany", false), ("TakenMove", false), ("LastMove", false), ("InvalidText", false), ("InvalidName", false), ("WrongKind", false), ("DuplicateName", false)]
def tx_Full_p2 : List (Str × Bool) := [("Full", true), ("InvalidLimit", false), ("InvalidCommand", false), ("InvalidPage", false), ("UnknownName", false), ("NothingLeft", false)]
def tx_Full : List (Str × Bool) := tx_Full_p0 ++ tx_Full_p1 ++ tx_Full_p2
def tx_IndexError_p0 : List (Str × Bool) := [("InvalidSign", false), ("InvalidRow", false), ("InvalidHand", false), ("InvalidStates", false), ("InvalidState", false), ("InvalidRule", false), ("InvalidTask", false), ("InvalidCase", false), ("InvalidCount", false), ("InvalidTable", false), ("TablesDiffer", false), ("InvalidInput", false)]
def tx_IndexError_p1 : List (Str × Bool) := [("InvalidKnowledge", false), ("NotLet", false), ("Finished", false), ("NoRows", false), ("DeadDiffer", false), ("TooMany", false), ("TakenMove", false), ("LastMove", false), ("InvalidText", false), ("InvalidName", false), ("WrongKind", false), ("DuplicateName", false)]
def tx_IndexError_p2 : List (Str × Bool) := [("Full", false), ("InvalidLimit", false), ("InvalidCommand", false), ("InvalidPage", false), ("UnknownName", false), ("NothingLeft", true)]
def tx_IndexError : List (Str × Bool) := tx_IndexError_p0 ++ tx_IndexError_p1 ++ tx_IndexError_p2
def tx_InvalidCase_p0 : List (Str × Bool) := [("InvalidSign", false), ("InvalidRow", false), ("InvalidHand", false), ("InvalidStates", false), ("InvalidState", false), ("InvalidRule", false), ("InvalidTask", false), ("InvalidCase", true), ("InvalidCount", false), ("InvalidTable", false), ("TablesDiffer", false), ("InvalidInput", false)]
def tx_InvalidCase_p1 : List (Str × Bool) := [("InvalidKnowledge", false), ("NotLet", false), ("Finished", false), ("NoRows", false), ("DeadDiffer", false), ("TooMany", false), ("TakenMove", false), ("LastMove", false), ("InvalidText", false), ("InvalidName", false), ("WrongKind", false), ("DuplicateName", false)]
def tx_InvalidCase_p2 : List (Str × Bool) := [("Full", false), ("InvalidLimit", false), ("InvalidCommand", false), ("InvalidPage", false), ("UnknownName", false), ("NothingLeft", false)]
def tx_InvalidCase : List (Str × Bool) := tx_InvalidCase_p0 ++ tx_InvalidCase_p1 ++ tx_InvalidCase_p2
def tx_InvalidCommand_p0 : List (Str × Bool) := [("InvalidSign", false), ("InvalidRow", false), ("InvalidHand", false), ("InvalidStates", false), ("InvalidState", false), ("InvalidRule", false), ("InvalidTask", false), ("InvalidCase", false), ("InvalidCount", false), ("InvalidTable", false), ("TablesDiffer", false), ("InvalidInput", false)]
def tx_InvalidCommand_p1 : List (Str × Bool) := [("InvalidKnowledge", false), ("NotLet", false), ("Finished", false), ("NoRows", false), ("DeadDiffer", false), ("TooMany", false), ("TakenMove", false), ("LastMove", false), ("InvalidText", false), ("InvalidName", false), ("WrongKind", false), ("DuplicateName", false)]
def tx_InvalidCommand_p2 : List (Str × Bool) := [("Full", false), ("InvalidLimit", false), ("InvalidCommand", true), ("InvalidPage", false), ("UnknownName", false), ("NothingLeft", false)]
def tx_InvalidCommand : List (Str × Bool) := tx_InvalidCommand_p0 ++ tx_InvalidCommand_p1 ++ tx_InvalidCommand_p2
def tx_InvalidCount_p0 : List (Str × Bool) := [("InvalidSign", false), ("InvalidRow", false), ("InvalidHand", false), ("InvalidStates", false), ("InvalidState", false), ("InvalidRule", false), ("InvalidTask", false), ("InvalidCase", false), ("InvalidCount", true), ("InvalidTable", false), ("TablesDiffer", false), ("InvalidInput", false)]
def tx_InvalidCount_p1 : List (Str × Bool) := [("InvalidKnowledge", false), ("NotLet", false), ("Finished", false), ("NoRows", false), ("DeadDiffer", false), ("TooMany", false), ("TakenMove", false), ("LastMove", false), ("InvalidText", false), ("InvalidName", false), ("WrongKind", false), ("DuplicateName", false)]
def tx_InvalidCount_p2 : List (Str × Bool) := [("Full", false), ("InvalidLimit", false), ("InvalidCommand", false), ("InvalidPage", false), ("UnknownName", false), ("NothingLeft", false)]
def tx_InvalidCount : List (Str × Bool) := tx_InvalidCount_p0 ++ tx_InvalidCount_p1 ++ tx_InvalidCount_p2
def tx_InvalidHand_p0 : List (Str × Bool) := [("InvalidSign", false), ("InvalidRow", false), ("InvalidHand", true), ("InvalidStates", false), ("InvalidState", false), ("InvalidRule", false), ("InvalidTask", false), ("InvalidCase", false), ("InvalidCount", false), ("InvalidTable", false), ("TablesDiffer", false), ("InvalidInput", false)]
def tx_InvalidHand_p1 : List (Str × Bool) := [("InvalidKnowledge", false), ("NotLet", false), ("Finished", false), ("NoRows", false), ("DeadDiffer", false), ("TooMany", false), ("TakenMove", false), ("LastMove", false), ("InvalidText", false), ("InvalidName", false), ("WrongKind", false), ("DuplicateName", false)]
def tx_InvalidHand_p2 : List (Str × Bool) := [("Full", false), ("InvalidLimit", false), ("InvalidCommand", false), ("InvalidPage", false), ("UnknownName", false), ("NothingLeft", false)]
def tx_InvalidHand : List (Str × Bool) := tx_InvalidHand_p0 ++ tx_InvalidHand_p1 ++ tx_InvalidHand_p2
def tx_InvalidInput_p0 : List (Str × Bool) := [("InvalidSign", false), ("InvalidRow", false), ("InvalidHand", false), ("InvalidStates", false), ("InvalidState", false), ("InvalidRule", false), ("InvalidTask", false), ("InvalidCase", false), ("InvalidCount", false), ("InvalidTable", false), ("TablesDiffer", false), ("InvalidInput", true)]
def tx_InvalidInput_p1 : List (Str × Bool) := [("InvalidKnowledge", false), ("NotLet", false), ("Finished", false), ("NoRows", false), ("DeadDiffer", false), ("TooMany", false), ("TakenMove", false), ("LastMove", false), ("InvalidText", false), ("InvalidName", false), ("WrongKind", false), ("DuplicateName", false)]
def tx_InvalidInput_p2 : List (Str × Bool) := [("Full", false), ("InvalidLimit", false), ("InvalidCommand", false), ("InvalidPage", false), ("UnknownName", false), ("NothingLeft", false)]
def tx_InvalidInput : List (Str × Bool) := tx_InvalidInput_p0 ++ tx_InvalidInput_p1 ++ tx_InvalidInput_p2
def tx_InvalidKnowledge_p0 : List (Str × Bool) := [("InvalidSign", false), ("InvalidRow", false), ("InvalidHand", false), ("InvalidStates", false), ("InvalidState", false), ("InvalidRule", false), ("InvalidTask", false), ("InvalidCase", false), ("InvalidCount", false), ("InvalidTable", false), ("TablesDiffer", false), ("InvalidInput", false)]
def tx_InvalidKnowledge_p1 : List (Str × Bool) := [("InvalidKnowledge", true), ("NotLet", false), ("Finished", false), ("NoRows", false), ("DeadDiffer", false), ("TooMany", false), ("TakenMove", false), ("LastMove", false), ("InvalidText", false), ("InvalidName", false), ("WrongKind", false), ("DuplicateName", false)]
def tx_InvalidKnowledge_p2 : List (Str × Bool) := [("Full", false), ("InvalidLimit", false), ("InvalidCommand", false), ("InvalidPage", false), ("UnknownName", false), ("NothingLeft", false)]
def tx_InvalidKnowledge : List (Str × Bool) := tx_InvalidKnowledge_p0 ++ tx_InvalidKnowledge_p1 ++ tx_InvalidKnowledge_p2
def tx_InvalidLimit_p0 : List (Str × Bool) := [("InvalidSign", false), ("InvalidRow", false), ("InvalidHand", false), ("InvalidStates", false), ("InvalidState", false), ("InvalidRule", false), ("InvalidTask", false), ("InvalidCase", false), ("InvalidCount", false), ("InvalidTable", false), ("TablesDiffer", false), ("InvalidInput", false)]
def tx_InvalidLimit_p1 : List (Str × Bool) := [("InvalidKnowledge", false), ("NotLet", false), ("Finished", false), ("NoRows", false), ("DeadDiffer", false), ("TooMany", false), ("TakenMove", false), ("LastMove", false), ("InvalidText", false), ("InvalidName", false), ("WrongKind", false), ("DuplicateName", false)]
def tx_InvalidLimit_p2 : List (Str × Bool) := [("Full", false), ("InvalidLimit", true), ("InvalidCommand", false), ("InvalidPage", false), ("UnknownName", false), ("NothingLeft", false)]
def tx_InvalidLimit : List (Str × Bool) := tx_InvalidLimit_p0 ++ tx_InvalidLimit_p1 ++ tx_InvalidLimit_p2
def tx_InvalidName_p0 : List (Str × Bool) := [("InvalidSign", false), ("InvalidRow", false), ("InvalidHand", false), ("InvalidStates", false), ("InvalidState", false), ("InvalidRule", false), ("InvalidTask", false), ("InvalidCase", false), ("InvalidCount", false), ("InvalidTable", false), ("TablesDiffer", false), ("InvalidInput", false)]
def tx_InvalidName_p1 : List (Str × Bool) := [("InvalidKnowledge", false), ("NotLet", false), ("Finished", false), ("NoRows", false), ("DeadDiffer", false), ("TooMany", false), ("TakenMove", false), ("LastMove", false), ("InvalidText", false), ("InvalidName", true), ("WrongKind", false), ("DuplicateName", false)]
def tx_InvalidName_p2 : List (Str × Bool) := [("Full", false), ("InvalidLimit", false), ("InvalidCommand", false), ("InvalidPage", false), ("UnknownName", false), ("NothingLeft", false)]
def tx_InvalidName : List (Str × Bool) := tx_InvalidName_p0 ++ tx_InvalidName_p1 ++ tx_InvalidName_p2
def tx_InvalidPage_p0 : List (Str × Bool) := [("InvalidSign", false), ("InvalidRow", false), ("InvalidHand", false), ("InvalidStates", false), ("InvalidState", false), ("InvalidRule", false), ("InvalidTask", false), ("InvalidCase", false), ("InvalidCount", false), ("InvalidTable", false), ("TablesDiffer", false), ("InvalidInput", false)]
def tx_InvalidPage_p1 : List (Str × Bool) := [("InvalidKnowledge", false), ("NotLet", false), ("Finished", false), ("NoRows", false), ("DeadDiffer", false), ("TooMany", false), ("TakenMove", false), ("LastMove", false), ("InvalidText", false), ("InvalidName", false), ("WrongKind", false), ("DuplicateName", false)]
def tx_InvalidPage_p2 : List (Str × Bool) := [("Full", false), ("InvalidLimit", false), ("InvalidCommand", false), ("InvalidPage", true), ("UnknownName", false), ("NothingLeft", false)]
def tx_InvalidPage : List (Str × Bool) := tx_InvalidPage_p0 ++ tx_InvalidPage_p1 ++ tx_InvalidPage_p2
def tx_InvalidRow_p0 : List (Str × Bool) := [("InvalidSign", false), ("InvalidRow", true), ("InvalidHand", false), ("InvalidStates", false), ("InvalidState", false), ("InvalidRule", false), ("InvalidTask", false), ("InvalidCase", false), ("InvalidCount", false), ("InvalidTable", false), ("TablesDiffer", false), ("InvalidInput", false)]
def tx_InvalidRow_p1 : List (Str × Bool) := [("InvalidKnowledge", false), ("NotLet", false), ("Finished", false), ("NoRows", false), ("DeadDiffer", false), ("TooMany", false), ("TakenMove", false), ("LastMove", false), ("InvalidText", false), ("InvalidName", false), ("WrongKind", false), ("DuplicateName", false)]
def tx_InvalidRow_p2 : List (Str × Bool) := [("Full", false), ("InvalidLimit", false), ("InvalidCommand", false), ("InvalidPage", false), ("UnknownName", false), ("NothingLeft", false)]
def tx_InvalidRow : List (Str × Bool) := tx_InvalidRow_p0 ++ tx_InvalidRow_p1 ++ tx_InvalidRow_p2
def tx_InvalidRule_p0 : List (Str × Bool) := [("InvalidSign", false), ("InvalidRow", false), ("InvalidHand", false), ("InvalidStates", false), ("InvalidState", false), ("InvalidRule", true), ("InvalidTask", false), ("InvalidCase", false), ("InvalidCount", false), ("InvalidTable", false), ("TablesDiffer", false), ("InvalidInput", false)]
def tx_InvalidRule_p1 : List (Str × Bool) := [("InvalidKnowledge", false), ("NotLet", false), ("Finished", false), ("NoRows", false), ("DeadDiffer", false), ("TooMany", false), ("TakenMove", false), ("LastMove", false), ("InvalidText", false), ("InvalidName", false), ("WrongKind", false), ("DuplicateName", false)]
def tx_InvalidRule_p2 : List (Str × Bool) := [("Full", false), ("InvalidLimit", false), ("InvalidCommand", false), ("InvalidPage", false), ("UnknownName", false), ("NothingLeft", false)]
def tx_InvalidRule : List (Str × Bool) := tx_InvalidRule_p0 ++ tx_InvalidRule_p1 ++ tx_InvalidRule_p2
def tx_InvalidSign_p0 : List (Str × Bool) := [("InvalidSign", true), ("InvalidRow", false), ("InvalidHand", false), ("InvalidStates", false), ("InvalidState", false), ("InvalidRule", false), ("InvalidTask", false), ("InvalidCase", false), ("InvalidCount", false), ("InvalidTable", false), ("TablesDiffer", false), ("InvalidInput", false)]
def tx_InvalidSign_p1 : List (Str × Bool) := [("InvalidKnowledge", false), ("NotLet", false), ("Finished", false), ("NoRows", false), ("DeadDiffer", false), ("TooMany", false), ("TakenMove", false), ("LastMove", false), ("InvalidText", false), ("InvalidName", false), ("WrongKind", false), ("DuplicateName", false)]
def tx_InvalidSign_p2 : List (Str × Bool) := [("Full", false), ("InvalidLimit", false), ("InvalidCommand", false), ("InvalidPage", false), ("UnknownName", false), ("NothingLeft", false)]
def tx_InvalidSign : List (Str × Bool) := tx_InvalidSign_p0 ++ tx_InvalidSign_p1 ++ tx_InvalidSign_p2
def tx_InvalidState_p0 : List (Str × Bool) := [("InvalidSign", false), ("InvalidRow", false), ("InvalidHand", false), ("InvalidStates", false), ("InvalidState", true), ("InvalidRule", false), ("InvalidTask", false), ("InvalidCase", false), ("InvalidCount", false), ("InvalidTable", false), ("TablesDiffer", false), ("InvalidInput", false)]
def tx_InvalidState_p1 : List (Str × Bool) := [("InvalidKnowledge", false), ("NotLet", false), ("Finished", false), ("NoRows", false), ("DeadDiffer", false), ("TooMany", false), ("TakenMove", false), ("LastMove", false), ("InvalidText", false), ("InvalidName", false), ("WrongKind", false), ("DuplicateName", false)]
def tx_InvalidState_p2 : List (Str × Bool) := [("Full", false), ("InvalidLimit", false), ("InvalidCommand", false), ("InvalidPage", false), ("UnknownName", false), ("NothingLeft", false)]
def tx_InvalidState : List (Str × Bool) := tx_InvalidState_p0 ++ tx_InvalidState_p1 ++ tx_InvalidState_p2
def tx_InvalidStates_p0 : List (Str × Bool) := [("InvalidSign", false), ("InvalidRow", false), ("InvalidHand", false), ("InvalidStates", true), ("InvalidState", false), ("InvalidRule", false), ("InvalidTask", false), ("InvalidCase", false), ("InvalidCount", false), ("InvalidTable", false), ("TablesDiffer", false), ("InvalidInput", false)]
def tx_InvalidStates_p1 : List (Str × Bool) := [("InvalidKnowledge", false), ("NotLet", false), ("Finished", false), ("NoRows", false), ("DeadDiffer", false), ("TooMany", false), ("TakenMove", false), ("LastMove", false), ("InvalidText", false), ("InvalidName", false), ("WrongKind", false), ("DuplicateName", false)]
def tx_InvalidStates_p2 : List (Str × Bool) := [("Full", false), ("InvalidLimit", false), ("InvalidCommand", false), ("InvalidPage", false), ("UnknownName", false), ("NothingLeft", false)]
def tx_InvalidStates : List (Str × Bool) := tx_InvalidStates_p0 ++ tx_InvalidStates_p1 ++ tx_InvalidStates_p2
def tx_InvalidTable_p0 : List (Str × Bool) := [("InvalidSign", false), ("InvalidRow", false), ("InvalidHand", false), ("InvalidStates", false), ("InvalidState", false), ("InvalidRule", false), ("InvalidTask", false), ("InvalidCase", false), ("InvalidCount", false), ("InvalidTable", true), ("TablesDiffer", false), ("InvalidInput", false)]
def tx_InvalidTable_p1 : List (Str × Bool) := [("InvalidKnowledge", false), ("NotLet", false), ("Finished", false), ("NoRows", false), ("DeadDiffer", false), ("TooMany", false), ("TakenMove", false), ("LastMove", false), ("InvalidText", false), ("InvalidName", false), ("WrongKind", false), ("DuplicateName", false)]
def tx_InvalidTable_p2 : List (Str × Bool) := [("Full", false), ("InvalidLimit", false), ("InvalidCommand", false), ("InvalidPage", false), ("UnknownName", false), ("NothingLeft", false)]
def tx_InvalidTable : List (Str × Bool) := tx_InvalidTable_p0 ++ tx_InvalidTable_p1 ++ tx_InvalidTable_p2
def tx_InvalidTask_p0 : List (Str × Bool) := [("InvalidSign", false), ("InvalidRow", false), ("InvalidHand", false), ("InvalidStates", false), ("InvalidState", false), ("InvalidRule", false), ("InvalidTask", true), ("InvalidCase", false), ("InvalidCount", false), ("InvalidTable", false), ("TablesDiffer", false), ("InvalidInput", false)]
def tx_InvalidTask_p1 : List (Str × Bool) := [("InvalidKnowledge", false), ("NotLet", false), ("Finished", false), ("NoRows", false), ("DeadDiffer", false), ("TooMany", false), ("TakenMove", false), ("LastMove", false), ("InvalidText", false), ("InvalidName", false), ("WrongKind", false), ("DuplicateName", false)]
def tx_InvalidTask_p2 : List (Str × Bool) := [("Full", false), ("InvalidLimit", false), ("InvalidCommand", false), ("InvalidPage", false), ("UnknownName", false), ("NothingLeft", false)]
def tx_InvalidTask : List (Str × Bool) := tx_InvalidTask_p0 ++ tx_InvalidTask_p1 ++ tx_InvalidTask_p2
def tx_InvalidText_p0 : List (Str × Bool) := [("InvalidSign", false), ("InvalidRow", false), ("InvalidHand", false), ("InvalidStates", false), ("InvalidState", false), ("InvalidRule", false), ("InvalidTask", false), ("InvalidCase", false), ("InvalidCount", false), ("InvalidTable", false), ("TablesDiffer", false), ("InvalidInput", false)]
def tx_InvalidText_p1 : List (Str × Bool) := [("InvalidKnowledge", false), ("NotLet", false), ("Finished", false), ("NoRows", false), ("DeadDiffer", false), ("TooMany", false), ("TakenMove", false), ("LastMove", false), ("InvalidText", true), ("InvalidName", false), ("WrongKind", false), ("DuplicateName", false)]
def tx_InvalidText_p2 : List (Str × Bool) := [("Full", false), ("InvalidLimit", false), ("InvalidCommand", false), ("InvalidPage", false), ("UnknownName", false), ("NothingLeft", false)]
def tx_InvalidText : List (Str × Bool) := tx_InvalidText_p0 ++ tx_InvalidText_p1 ++ tx_InvalidText_p2
def tx_LastMove_p0 : List (Str × Bool) := [("InvalidSign", false), ("InvalidRow", false), ("InvalidHand", false), ("InvalidStates", false), ("InvalidState", false), ("InvalidRule", false), ("InvalidTask", false), ("InvalidCase", false), ("InvalidCount", false), ("InvalidTable", false), ("TablesDiffer", false), ("InvalidInput", false)]
def tx_LastMove_p1 : List (Str × Bool) := [("InvalidKnowledge", false), ("NotLet", false), ("Finished", false), ("NoRows", false), ("DeadDiffer", false), ("TooMany", false), ("TakenMove", false), ("LastMove", true), ("InvalidText", false), ("InvalidName", false), ("WrongKind", false), ("DuplicateName", false)]
def tx_LastMove_p2 : List (Str × Bool) := [("Full", false), ("InvalidLimit", false), ("InvalidCommand", false), ("InvalidPage", false), ("UnknownName", false), ("NothingLeft", false)]
def tx_LastMove : List (Str × Bool) := tx_LastMove_p0 ++ tx_LastMove_p1 ++ tx_LastMove_p2
def tx_LookupError_p0 : List (Str × Bool) := [("InvalidSign", false), ("InvalidRow", false), ("InvalidHand", false), ("InvalidStates", false), ("InvalidState", false), ("InvalidRule", false), ("InvalidTask", false), ("InvalidCase", false), ("InvalidCount", false), ("InvalidTable", false), ("TablesDiffer", false), ("InvalidInput", false)]
def tx_LookupError_p1 : List (Str × Bool) := [("InvalidKnowledge", false), ("NotLet", false), ("Finished", false), ("NoRows", false), ("DeadDiffer", false), ("TooMany", false), ("TakenMove", false), ("LastMove", false), ("InvalidText", false), ("InvalidName", false), ("WrongKind", false), ("DuplicateName", false)]
def tx_LookupError_p2 : List (Str × Bool) := [("Full", false), ("InvalidLimit", false), ("InvalidCommand", false), ("InvalidPage", false), ("UnknownName", true), ("NothingLeft", true)]
def tx_LookupError : List (Str × Bool) := tx_LookupError_p0 ++ tx_LookupError_p1 ++ tx_LookupError_p2
def tx_Missing_p0 : List (Str × Bool) := [("InvalidSign", false), ("InvalidRow", false), ("InvalidHand", false), ("InvalidStates", false), ("InvalidState", false), ("InvalidRule", false), ("InvalidTask", false), ("InvalidCase", false), ("InvalidCount", false), ("InvalidTable", false), ("TablesDiffer", false), ("InvalidInput", false)]
def tx_Missing_p1 : List (Str × Bool) := [("InvalidKnowledge", false), ("NotLet", false), ("Finished", false), ("NoRows", false), ("DeadDiffer", false), ("TooMany", false), ("TakenMove", false), ("LastMove", false), ("InvalidText", false), ("InvalidName", false), ("WrongKind", false), ("DuplicateName", false)]
def tx_Missing_p2 : List (Str × Bool) := [("Full", false), ("InvalidLimit", false), ("InvalidCommand", false), ("InvalidPage", false), ("UnknownName", true), ("NothingLeft", false)]
def tx_Missing : List (Str × Bool) := tx_Missing_p0 ++ tx_Missing_p1 ++ tx_Missing_p2
def tx_NoRows_p0 : List (Str × Bool) := [("InvalidSign", false), ("InvalidRow", false), ("InvalidHand", false), ("InvalidStates", false), ("InvalidState", false), ("InvalidRule", false), ("InvalidTask", false), ("InvalidCase", false), ("InvalidCount", false), ("InvalidTable", false), ("TablesDiffer", false), ("InvalidInput", false)]
def tx_NoRows_p1 : List (Str × Bool) := [("InvalidKnowledge", false), ("NotLet", false), ("Finished", false), ("NoRows", true), ("DeadDiffer", false), ("TooMany", false), ("TakenMove", false), ("LastMove", false), ("InvalidText", false), ("InvalidName", false), ("WrongKind", false), ("DuplicateName", false)]
def tx_NoRows_p2 : List (Str × Bool) := [("Full", false), ("InvalidLimit", false), ("InvalidCommand", false), ("InvalidPage", false), ("UnknownName", false), ("NothingLeft", false)]
def tx_NoRows : List (Str × Bool) := tx_NoRows_p0 ++ tx_NoRows_p1 ++ tx_NoRows_p2
def tx_NotLet_p0 : List (Str × Bool) := [("InvalidSign", false), ("InvalidRow", false), ("InvalidHand", false), ("InvalidStates", false), ("InvalidState", false), ("InvalidRule", false), ("InvalidTask", false), ("InvalidCase", false), ("InvalidCount", false), ("InvalidTable", false), ("TablesDiffer", false), ("InvalidInput", false)]
def tx_NotLet_p1 : List (Str × Bool) := [("InvalidKnowledge", false), ("NotLet", true), ("Finished", false), ("NoRows", false), ("DeadDiffer", false), ("TooMany", false), ("TakenMove", false), ("LastMove", false), ("InvalidText", false), ("InvalidName", false), ("WrongKind", false), ("DuplicateName", false)]
def tx_NotLet_p2 : List (Str × Bool) := [("Full", false), ("InvalidLimit", false), ("InvalidCommand", false), ("InvalidPage", false), ("UnknownName", false), ("NothingLeft", false)]
def tx_NotLet : List (Str × Bool) := tx_NotLet_p0 ++ tx_NotLet_p1 ++ tx_NotLet_p2
def tx_NothingLeft_p0 : List (Str × Bool) := [("InvalidSign", false), ("InvalidRow", false), ("InvalidHand", false), ("InvalidStates", false), ("InvalidState", false), ("InvalidRule", false), ("InvalidTask", false), ("InvalidCase", false), ("InvalidCount", false), ("InvalidTable", false), ("TablesDiffer", false), ("InvalidInput", false)]
def tx_NothingLeft_p1 : List (Str × Bool) := [("InvalidKnowledge", false), ("NotLet", false), ("Finished", false), ("NoRows", false), ("DeadDiffer", false), ("TooMany", false), ("TakenMove", false), ("LastMove", false), ("InvalidText", false), ("InvalidName", false), ("WrongKind", false), ("DuplicateName", false)]
def tx_NothingLeft_p2 : List (Str × Bool) := [("Full", false), ("InvalidLimit", false), ("InvalidCommand", false), ("InvalidPage", false), ("UnknownName", false), ("NothingLeft", true)]
def tx_NothingLeft : List (Str × Bool) := tx_NothingLeft_p0 ++ tx_NothingLeft_p1 ++ tx_NothingLeft_p2
def tx_PostError_p0 : List (Str × Bool) := [("InvalidSign", true), ("InvalidRow", true), ("InvalidHand", true), ("InvalidStates", true), ("InvalidState", true), ("InvalidRule", true), ("InvalidTask", true), ("InvalidCase", true), ("InvalidCount", true), ("InvalidTable", true), ("TablesDiffer", true), ("InvalidInput", true)]
def tx_PostError_p1 : List (Str × Bool) := [("InvalidKnowledge", true), ("NotLet", true), ("Finished", true), ("NoRows", true), ("DeadDiffer", true), ("TooMany", true), ("TakenMove", true), ("LastMove", true), ("InvalidText", true), ("InvalidName", true), ("WrongKind", true), ("DuplicateName", true)]
def tx_PostError_p2 : List (Str × Bool) := [("Full", true), ("InvalidLimit", true), ("InvalidCommand", true), ("InvalidPage", true), ("UnknownName", false), ("NothingLeft", false)]
def tx_PostError : List (Str × Bool) := tx_PostError_p0 ++ tx_PostError_p1 ++ tx_PostError_p2
def tx_TablesDiffer_p0 : List (Str × Bool) := [("InvalidSign", false), ("InvalidRow", false), ("InvalidHand", false), ("InvalidStates", false), ("InvalidState", false), ("InvalidRule", false), ("InvalidTask", false), ("InvalidCase", false), ("InvalidCount", false), ("InvalidTable", false), ("TablesDiffer", true), ("InvalidInput", false)]
def tx_TablesDiffer_p1 : List (Str × Bool) := [("InvalidKnowledge", false), ("NotLet", false), ("Finished", false), ("NoRows", false), ("DeadDiffer", false), ("TooMany", false), ("TakenMove", false), ("LastMove", false), ("InvalidText", false), ("InvalidName", false), ("WrongKind", false), ("DuplicateName", false)]
def tx_TablesDiffer_p2 : List (Str × Bool) := [("Full", false), ("InvalidLimit", false), ("InvalidCommand", false), ("InvalidPage", false), ("UnknownName", false), ("NothingLeft", false)]
def tx_TablesDiffer : List (Str × Bool) := tx_TablesDiffer_p0 ++ tx_TablesDiffer_p1 ++ tx_TablesDiffer_p2
def tx_TakenMove_p0 : List (Str × Bool) := [("InvalidSign", false), ("InvalidRow", false), ("InvalidHand", false), ("InvalidStates", false), ("InvalidState", false), ("InvalidRule", false), ("InvalidTask", false), ("InvalidCase", false), ("InvalidCount", false), ("InvalidTable", false), ("TablesDiffer", false), ("InvalidInput", false)]
def tx_TakenMove_p1 : List (Str × Bool) := [("InvalidKnowledge", false), ("NotLet", false), ("Finished", false), ("NoRows", false), ("DeadDiffer", false), ("TooMany", false), ("TakenMove", true), ("LastMove", false), ("InvalidText", false), ("InvalidName", false), ("WrongKind", false), ("DuplicateName", false)]
def tx_TakenMove_p2 : List (Str × Bool) := [("Full", false), ("InvalidLimit", false), ("InvalidCommand", false), ("InvalidPage", false), ("UnknownName", false), ("NothingLeft", false)]
def tx_TakenMove : List (Str × Bool) := tx_TakenMove_p0 ++ tx_TakenMove_p1 ++ tx_TakenMove_p2
def tx_TooMany_p0 : List (Str × Bool) := [("InvalidSign", false), ("InvalidRow", false), ("InvalidHand", false), ("InvalidStates", false), ("InvalidState", false), ("InvalidRule", false), ("InvalidTask", false), ("InvalidCase", false), ("InvalidCount", false), ("InvalidTable", false), ("TablesDiffer", false), ("InvalidInput", false)]
def tx_TooMany_p1 : List (Str × Bool) := [("InvalidKnowledge", false), ("NotLet", false), ("Finished", false), ("NoRows", false), ("DeadDiffer", false), ("TooMany", true), ("TakenMove", false), ("LastMove", false), ("InvalidText", false), ("InvalidName", false), ("WrongKind", false), ("DuplicateName", false)]
def tx_TooMany_p2 : List (Str × Bool) := [("Full", false), ("InvalidLimit", false), ("InvalidCommand", false), ("InvalidPage", false), ("UnknownName", false), ("NothingLeft", false)]
def tx_TooMany : List (Str × Bool) := tx_TooMany_p0 ++ tx_TooMany_p1 ++ tx_TooMany_p2
def tx_UnknownName_p0 : List (Str × Bool) := [("InvalidSign", false), ("InvalidRow", false), ("InvalidHand", false), ("InvalidStates", false), ("InvalidState", false), ("InvalidRule", false), ("InvalidTask", false), ("InvalidCase", false), ("InvalidCount", false), ("InvalidTable", false), ("TablesDiffer", false), ("InvalidInput", false)]
def tx_UnknownName_p1 : List (Str × Bool) := [("InvalidKnowledge", false), ("NotLet", false), ("Finished", false), ("NoRows", false), ("DeadDiffer", false), ("TooMany", false), ("TakenMove", false), ("LastMove", false), ("InvalidText", false), ("InvalidName", false), ("WrongKind", false), ("DuplicateName", false)]
def tx_UnknownName_p2 : List (Str × Bool) := [("Full", false), ("InvalidLimit", false), ("InvalidCommand", false), ("InvalidPage", false), ("UnknownName", true), ("NothingLeft", false)]
def tx_UnknownName : List (Str × Bool) := tx_UnknownName_p0 ++ tx_UnknownName_p1 ++ tx_UnknownName_p2
def tx_ValueError_p0 : List (Str × Bool) := [("InvalidSign", true), ("InvalidRow", true), ("InvalidHand", true), ("InvalidStates", true), ("InvalidState", true), ("InvalidRule", true), ("InvalidTask", true), ("InvalidCase", true), ("InvalidCount", true), ("InvalidTable", true), ("TablesDiffer", true), ("InvalidInput", true)]
def tx_ValueError_p1 : List (Str × Bool) := [("InvalidKnowledge", true), ("NotLet", true), ("Finished", true), ("NoRows", true), ("DeadDiffer", true), ("TooMany", true), ("TakenMove", true), ("LastMove", true), ("InvalidText", true), ("InvalidName", true), ("WrongKind", true), ("DuplicateName", true)]
def tx_ValueError_p2 : List (Str × Bool) := [("Full", true), ("InvalidLimit", true), ("InvalidCommand", true), ("InvalidPage", true), ("UnknownName", false), ("NothingLeft", false)]
def tx_ValueError : List (Str × Bool) := tx_ValueError_p0 ++ tx_ValueError_p1 ++ tx_ValueError_p2
def tx_WrongKind_p0 : List (Str × Bool) := [("InvalidSign", false), ("InvalidRow", false), ("InvalidHand", false), ("InvalidStates", false), ("InvalidState", false), ("InvalidRule", false), ("InvalidTask", false), ("InvalidCase", false), ("InvalidCount", false), ("InvalidTable", false), ("TablesDiffer", false), ("InvalidInput", false)]
def tx_WrongKind_p1 : List (Str × Bool) := [("InvalidKnowledge", false), ("NotLet", false), ("Finished", false), ("NoRows", false), ("DeadDiffer", false), ("TooMany", false), ("TakenMove", false), ("LastMove", false), ("InvalidText", false), ("InvalidName", false), ("WrongKind", true), ("DuplicateName", false)]
def tx_WrongKind_p2 : List (Str × Bool) := [("Full", false), ("InvalidLimit", false), ("InvalidCommand", false), ("InvalidPage", false), ("UnknownName", false), ("NothingLeft", false)]
def tx_WrongKind : List (Str × Bool) := tx_WrongKind_p0 ++ tx_WrongKind_p1 ++ tx_WrongKind_p2
abbrev si_DeadDiffer : Stmt := (clsBody (top 19)).getD 0 (.Pass ⟨0, 0, 0, 0⟩)
abbrev si_DuplicateName : Stmt := (clsBody (top 26)).getD 0 (.Pass ⟨0, 0, 0, 0⟩)
abbrev si_Finished : Stmt := (clsBody (top 17)).getD 0 (.Pass ⟨0, 0, 0, 0⟩)
abbrev si_Full : Stmt := (clsBody (top 27)).getD 0 (.Pass ⟨0, 0, 0, 0⟩)
abbrev si_InvalidCase : Stmt := (clsBody (top 10)).getD 0 (.Pass ⟨0, 0, 0, 0⟩)
abbrev si_InvalidCommand : Stmt := (clsBody (top 29)).getD 0 (.Pass ⟨0, 0, 0, 0⟩)
abbrev si_InvalidCount : Stmt := (clsBody (top 11)).getD 0 (.Pass ⟨0, 0, 0, 0⟩)
abbrev si_InvalidHand : Stmt := (clsBody (top 5)).getD 0 (.Pass ⟨0, 0, 0, 0⟩)
abbrev si_InvalidInput : Stmt := (clsBody (top 14)).getD 0 (.Pass ⟨0, 0, 0, 0⟩)
abbrev si_InvalidKnowledge : Stmt := (clsBody (top 15)).getD 0 (.Pass ⟨0, 0, 0, 0⟩)
abbrev si_InvalidLimit : Stmt := (clsBody (top 28)).getD 0 (.Pass ⟨0, 0, 0, 0⟩)
abbrev si_InvalidName : Stmt := (clsBody (top 24)).getD 0 (.Pass ⟨0, 0, 0, 0⟩)
abbrev si_InvalidPage : Stmt := (clsBody (top 30)).getD 0 (.Pass ⟨0, 0, 0, 0⟩)
abbrev si_InvalidRow : Stmt := (clsBody (top 4)).getD 0 (.Pass ⟨0, 0, 0, 0⟩)
abbrev si_InvalidRule : Stmt := (clsBody (top 8)).getD 0 (.Pass ⟨0, 0, 0, 0⟩)
abbrev si_InvalidSign : Stmt := (clsBody (top 3)).getD 0 (.Pass ⟨0, 0, 0, 0⟩)
abbrev si_InvalidState : Stmt := (clsBody (top 7)).getD 0 (.Pass ⟨0, 0, 0, 0⟩)
abbrev si_InvalidStates : Stmt := (clsBody (top 6)).getD 0 (.Pass ⟨0, 0, 0, 0⟩)
abbrev si_InvalidTable : Stmt := (clsBody (top 12)).getD 0 (.Pass ⟨0, 0, 0, 0⟩)
abbrev si_InvalidTask : Stmt := (clsBody (top 9)).getD 0 (.Pass ⟨0, 0, 0, 0⟩)
abbrev si_InvalidText : Stmt := (clsBody (top 23)).getD 0 (.Pass ⟨0, 0, 0, 0⟩)
abbrev si_LastMove : Stmt := (clsBody (top 22)).getD 0 (.Pass ⟨0, 0, 0, 0⟩)
abbrev si_NoRows : Stmt := (clsBody (top 18)).getD 0 (.Pass ⟨0, 0, 0, 0⟩)
abbrev si_NotLet : Stmt := (clsBody (top 16)).getD 0 (.Pass ⟨0, 0, 0, 0⟩)
abbrev si_NothingLeft : Stmt := (clsBody (top 32)).getD 0 (.Pass ⟨0, 0, 0, 0⟩)
abbrev si_TablesDiffer : Stmt := (clsBody (top 13)).getD 0 (.Pass ⟨0, 0, 0, 0⟩)
abbrev si_TakenMove : Stmt := (clsBody (top 21)).getD 0 (.Pass ⟨0, 0, 0, 0⟩)
abbrev si_TooMany : Stmt := (clsBody (top 20)).getD 0 (.Pass ⟨0, 0, 0, 0⟩)
abbrev si_UnknownName : Stmt := (clsBody (top 31)).getD 0 (.Pass ⟨0, 0, 0, 0⟩)
abbrev si_WrongKind : Stmt := (clsBody (top 25)).getD 0 (.Pass ⟨0, 0, 0, 0⟩)
abbrev s__law_bag : Stmt := top 34
abbrev N__law_bag : List Str := ["_law_script", "_law_row", "_law_mark", "_law_cell"]
theorem sc__law_bag : FnScope N__law_bag ["_law_script"] (defScope s__law_bag) := ⟨rfl, rfl, rfl, by decide +kernel, rfl, by decide +kernel, by decide +kernel⟩
theorem b__law_bag : PosB s__law_bag "_law_bag" "_law_bag" ["_law_script"] := fun _ _ _ _ _ _ us hl => match us, hl with | [_], _ => rfl
def m_law_bag : MF := mDef 4 ((mSq (mSet 1 (mA fList (aCons (mSl (mVar 0) (mC .non) (m1 fPart (mC (.int 63)))) aNil)))
    (mSq (mSet 2 (m2 fAdd (mC (.int 5608)) (m2 fMul (mC (.int 31)) (mA fLen (aCons (mVar 1) aNil)))))
    (mSq (mFor (mSrc (mVar 1)) (gN 3) (mSq (mSet 2 (m2 fMod (mA fInt (aCons (m2 fAdd (m2 fAdd (m2 fMul (mVar 2) (mC (.int 47093))) (m2 fMod (mA fInt (aCons (mVar 3) aNil)) (mC (.int 2147483389)))) (mC (.int 17))) aNil)) (mC (.int 2147483549))))
    mNx))
    (mSq (mRet (mA fLstN (aCons (mVar 1) (aCons (mC (.int 0)) (aCons (mC (.int 0)) (aCons (mVar 2) aNil))))))
    mNx)))))
abbrev s__law_draw : Stmt := top 35
abbrev N__law_draw : List Str := ["_law_bag_here", "_law_many", "_law_cell", "_law_found", "_law_mixed"]
theorem sc__law_draw : FnScope N__law_draw ["_law_bag_here", "_law_many"] (defScope s__law_draw) := ⟨rfl, rfl, rfl, by decide +kernel, rfl, by decide +kernel, by decide +kernel⟩
theorem b__law_draw : PosB s__law_draw "_law_draw" "_law_draw" ["_law_bag_here", "_law_many"] := fun _ _ _ _ _ _ us hl => match us, hl with | [_, _], _ => rfl
def m_law_draw : MF := mDef 5 ((mSq (mIfS (mAnd (m2 fEq (m2 fIx (mVar 0) (mC (.int 2))) (mC (.int 0))) (m2 fLt (m2 fIx (mVar 0) (mC (.int 1))) (mA fLen (aCons (m2 fIx (mVar 0) (mC (.int 0))) aNil)))) (mSq (mSet 2 (m2 fIx (m2 fIx (mVar 0) (mC (.int 0))) (m2 fIx (mVar 0) (mC (.int 1)))))
    (mSq (mAs (m2 fAdd (m2 fIx (mVar 0) (mC (.int 1))) (mC (.int 1))) (gSt (mVar 0) (mC (.int 1))))
    (mSq (mIfS (m2 fGe (mVar 2) (m2 fPow (mC (.int 10)) (mC (.int 18)))) (mSq (mAs (mVar 2) (gSt (mVar 0) (mC (.int 2))))
    mNx) (mSq (mSet 4 (m2 fAdd (m2 fMul (m2 fIx (mVar 0) (mC (.int 3))) (mC (.int 41381))) (m2 fMod (mA fInt (aCons (mVar 2) aNil)) (mC (.int 2000000033)))))
    (mSq (mAs (m2 fMod (mA fInt (aCons (m2 fAdd (mVar 4) (m2 fIx (mVar 0) (mC (.int 1)))) aNil)) (mC (.int 2147483549))) (gSt (mVar 0) (mC (.int 3))))
    mNx)))
    mNx))) mNx)
    (mSq (mIfS (m2 fGt (m2 fIx (mVar 0) (mC (.int 2))) (mC (.int 0))) (mSq (mSet 3 (m2 fMod (mA fInt (aCons (m2 fIx (mVar 0) (mC (.int 2))) aNil)) (mVar 1)))
    (mSq (mAs (m2 fFdiv (m2 fIx (mVar 0) (mC (.int 2))) (mVar 1)) (gSt (mVar 0) (mC (.int 2))))
    (mSq (mRetF (mVar 3))
    mNx))) mNx)
    (mSq (mAs (m2 fMod (mA fInt (aCons (m2 fAdd (m2 fMul (m2 fIx (mVar 0) (mC (.int 3))) (mC (.int 45137))) (mC (.int 1019))) aNil)) (mC (.int 2147483549))) (gSt (mVar 0) (mC (.int 3))))
    (mSq (mRetF (m2 fMod (mA fInt (aCons (m2 fFdiv (m2 fMod (mA fInt (aCons (m2 fMul (m2 fIx (mVar 0) (mC (.int 3))) (m2 fIx (mVar 0) (mC (.int 3)))) aNil)) (mC (.int 999999929))) (mC (.int 37))) aNil)) (mVar 1)))
    mNx)))))
abbrev s__law_of : Stmt := top 36
abbrev N__law_of : List Str := ["_law_bag_here", "_law_things"]
theorem sc__law_of : FnScope N__law_of ["_law_bag_here", "_law_things"] (defScope s__law_of) := ⟨rfl, rfl, rfl, by decide +kernel, rfl, by decide +kernel, by decide +kernel⟩
theorem b__law_of : PosB s__law_of "_law_of" "_law_of" ["_law_bag_here", "_law_things"] := fun _ _ _ _ _ _ us hl => match us, hl with | [_, _], _ => rfl
def m_law_of : MF := mDef 2 ((mSq (mRetF (m2 fIx (mVar 1) (mA (fS 2 m_law_draw) (aCons (mVar 0) (aCons (mA fLen (aCons (mVar 1) aNil)) aNil)))))
    mNx))
abbrev s__law_alike : Stmt := top 37
abbrev N__law_alike : List Str := ["_law_found", "_law_due", "_law_sort", "_law_one", "_law_two"]
theorem sc__law_alike : FnScope N__law_alike ["_law_found", "_law_due"] (defScope s__law_alike) := ⟨rfl, rfl, rfl, by decide +kernel, rfl, by decide +kernel, by decide +kernel⟩
theorem b__law_alike : PosB s__law_alike "_law_alike" "_law_alike" ["_law_found", "_law_due"] := fun _ _ _ _ _ _ us hl => match us, hl with | [_, _], _ => rfl
def m_law_alike : Nat → MF
  | 0 => fun _ _ => .stuck
  | n + 1 => mDef 5 ((mSq (mIfS (mOr (m2 (fIs false) (mVar 1) (mC .non)) (m2 (fIs false) (mVar 0) (mC .non))) (mSq (mRetF (mAndV (m2 (fIs false) (mVar 1) (mC .non)) (m2 (fIs false) (mVar 0) (mC .non))))
    mNx) mNx)
    (mSq (mFor (mSrc (mA fTup (aCons (mC (.int 1)) (aCons (mC (.int 2)) (aCons (mC (.int 3)) aNil))))) (gN 2) (mSq (mIfS (mAnd (m2 fEq (mVar 2) (mC (.int 1))) (mOr (mTru (m1 (fIsi .bl) (mVar 1))) (mTru (m1 (fIsi .bl) (mVar 0))))) (mSq (mRetF (mAndV (m1 (fIsi .bl) (mVar 1)) (mAndV (m1 (fIsi .bl) (mVar 0)) (m2 fEq (mVar 0) (mVar 1)))))
    mNx) mNx)
    (mSq (mIfS (mAnd (m2 fEq (mVar 2) (mC (.int 2))) (mOr (mTru (m1 (fIsi .str) (mVar 1))) (mTru (m1 (fIsi .str) (mVar 0))))) (mSq (mRetF (mAndV (m1 (fIsi .str) (mVar 1)) (mAndV (m1 (fIsi .str) (mVar 0)) (m2 fEq (mVar 0) (mVar 1)))))
    mNx) mNx)
    (mSq (mIfS (mAnd (m2 fEq (mVar 2) (mC (.int 3))) (mOr (mTru (m1 (fIsi .int) (mVar 1))) (mTru (m1 (fIsi .int) (mVar 0))))) (mSq (mRetF (mAndV (m1 (fIsi .int) (mVar 1)) (mAndV (m1 (fIsi .int) (mVar 0)) (m2 fEq (mVar 0) (mVar 1)))))
    mNx) mNx)
    mNx))))
    (mSq (mIfS (mOr (m2 fNe (m1 (fIsi .tup) (mVar 1)) (m1 (fIsi .tup) (mVar 0))) (m2 fNe (m1 (fIsi .lst) (mVar 1)) (m1 (fIsi .lst) (mVar 0)))) (mSq (mRetF (mC (.bl false)))
    mNx) mNx)
    (mSq (mRetF (mAndV (m2 fEq (mA fLen (aCons (mVar 0) aNil)) (mA fLen (aCons (mVar 1) aNil))) (mA fAll (aCons (mLc (mIA iZp (aCons (mVar 0) (aCons (mVar 1) aNil))) (gT 2 (gsCons (gN 3) (gsCons (gN 4) gsNil))) (mC (.bl true)) (mA (fP 2 (m_law_alike n)) (aCons (mVar 3) (aCons (mVar 4) aNil))) [3, 4]) aNil))))
    mNx)))))
abbrev s__law_field : Stmt := top 38
abbrev N__law_field : List Str := ["_law_e", "_law_bare"]
theorem sc__law_field : FnScope N__law_field ["_law_e"] (defScope s__law_field) := ⟨rfl, rfl, rfl, by decide +kernel, rfl, by decide +kernel, by decide +kernel⟩
theorem b__law_field : PosB s__law_field "_law_field" "_law_field" ["_law_e"] := fun _ _ _ _ _ _ us hl => match us, hl with | [_], _ => rfl
def m_law_field : MF := mDef 2 ((mSq (mIfS (m2 (fIn false) (m1 (fFldX xs_tag "tag") (mVar 0)) (mA fLst (aCons (mC (.str "InvalidStates")) (aCons (mC (.str "InvalidCase")) aNil)))) (mSq (mRetF (m1 (fFldX xs_index "index") (mVar 0)))
    mNx) mNx)
    (mSq (mIfS (m2 (fIn false) (m1 (fFldX xs_tag "tag") (mVar 0)) (mA fLst (aCons (mC (.str "TooMany")) (aCons (mC (.str "Finished")) aNil)))) (mSq (mRetF (m1 (fFldX xs_most "most") (mVar 0)))
    mNx) mNx)
    (mSq (mIfS (m2 fEq (m1 (fFldX xs_tag "tag") (mVar 0)) (mC (.str "TakenMove"))) (mSq (mRetF (m1 (fFldX xs_sign "sign") (mVar 0)))
    mNx) mNx)
    (mSq (mIfS (m2 (fIn false) (m1 (fFldX xs_tag "tag") (mVar 0)) (mA fLst (aCons (mC (.str "InvalidName")) (aCons (mC (.str "WrongKind")) (aCons (mC (.str "DuplicateName")) (aCons (mC (.str "UnknownName")) aNil)))))) (mSq (mRetF (m1 (fFldX xs_name "name") (mVar 0)))
    mNx) mNx)
    (mSq (mIfS (m2 fEq (m1 (fFldX xs_tag "tag") (mVar 0)) (mC (.str "Full"))) (mSq (mRetF (m1 (fFldX xs_limit "limit") (mVar 0)))
    mNx) mNx)
    (mSq (mIfS (m2 fEq (m1 (fFldX xs_tag "tag") (mVar 0)) (mC (.str "InvalidCommand"))) (mSq (mRetF (m1 (fFldX xs_word "word") (mVar 0)))
    mNx) mNx)
    (mSq (mIfS (m2 fEq (m1 (fFldX xs_tag "tag") (mVar 0)) (mC (.str "InvalidPage"))) (mSq (mRetF (m1 (fFldX xs_line "line") (mVar 0)))
    mNx) mNx)
    (mSq (mSet 1 (mA fLst (aCons (mC (.str "InvalidTask")) (aCons (mC (.str "InvalidTable")) (aCons (mC (.str "TablesDiffer")) (aCons (mC (.str "NoRows")) (aCons (mC (.str "DeadDiffer")) (aCons (mC (.str "LastMove")) (aCons (mC (.str "InvalidText")) (aCons (mC (.str "NothingLeft")) aNil))))))))))
    (mSq (mRetF (mIf (m2 (fIn false) (m1 (fFldX xs_tag "tag") (mVar 0)) (mVar 1)) (mC .non) (m1 (fFldX xs_given "given") (mVar 0))))
    mNx))))))))))
abbrev s__law_errors_by_name : Stmt := top 40
abbrev N__law_errors_by_name : List Str := ["_law_field_here", "_law_some", "_law_one"]
theorem sc__law_errors_by_name : FnScope N__law_errors_by_name ["_law_field_here"] (defScope s__law_errors_by_name) := ⟨rfl, rfl, rfl, by decide +kernel, rfl, by decide +kernel, by decide +kernel⟩
theorem b__law_errors_by_name : PosB s__law_errors_by_name "_law_errors_by_name" "_law_errors_by_name" ["_law_field_here"] := fun _ _ _ _ _ _ us hl => match us, hl with | [_], _ => rfl
def m_law_errors_by_name : MF := mDef 3 ((mSq (mSet 1 (mA fLst (aCons (mA (fExn1 "InvalidSign" "InvalidSign" "given") (aCons (mVar 0) aNil)) (aCons (mA (fExn1 "InvalidRow" "InvalidRow" "given") (aCons (mVar 0) aNil)) (aCons (mA (fExn1 "InvalidHand" "InvalidHand" "given") (aCons (mVar 0) aNil)) (aCons (mA (fExn1 "InvalidState" "InvalidState" "given") (aCons (mVar 0) aNil)) (aCons (mA (fExn1 "InvalidRule" "InvalidRule" "given") (aCons (mVar 0) aNil)) aNil)))))))
    (mSq (mSet 1 (m2 fAdd (mVar 1) (mA fLst (aCons (mA (fExn1 "InvalidCount" "InvalidCount" "given") (aCons (mVar 0) aNil)) (aCons (mA (fExn1 "InvalidInput" "InvalidInput" "given") (aCons (mVar 0) aNil)) (aCons (mA (fExn1 "InvalidKnowledge" "InvalidKnowledge" "given") (aCons (mVar 0) aNil)) (aCons (mA (fExn1 "NotLet" "NotLet" "given") (aCons (mVar 0) aNil)) (aCons (mA (fExn1 "InvalidLimit" "InvalidLimit" "given") (aCons (mVar 0) aNil)) aNil))))))))
    (mSq (mSet 1 (m2 fAdd (mVar 1) (mA fLst (aCons (mA (fExn1 "InvalidStates" "InvalidStates" "index") (aCons (mVar 0) aNil)) (aCons (mA (fExn1 "InvalidCase" "InvalidCase" "index") (aCons (mVar 0) aNil)) (aCons (mA (fExn1 "TooMany" "TooMany" "most") (aCons (mVar 0) aNil)) (aCons (mA (fExn1 "Finished" "Finished" "most") (aCons (mVar 0) aNil)) (aCons (mA (fExn1 "TakenMove" "TakenMove" "sign") (aCons (mVar 0) aNil)) aNil))))))))
    (mSq (mSet 1 (m2 fAdd (mVar 1) (mA fLst (aCons (mA (fExn1 "InvalidName" "InvalidName" "name") (aCons (mVar 0) aNil)) (aCons (mA (fExn1 "WrongKind" "WrongKind" "name") (aCons (mVar 0) aNil)) (aCons (mA (fExn1 "DuplicateName" "DuplicateName" "name") (aCons (mVar 0) aNil)) (aCons (mA (fExn1 "UnknownName" "UnknownName" "name") (aCons (mVar 0) aNil)) (aCons (mA (fExn1 "Full" "Full" "limit") (aCons (mVar 0) aNil)) aNil))))))))
    (mSq (mSet 1 (m2 fAdd (mVar 1) (mA fLst (aCons (mA (fExn1 "InvalidCommand" "InvalidCommand" "word") (aCons (mVar 0) aNil)) (aCons (mA (fExn1 "InvalidPage" "InvalidPage" "line") (aCons (mVar 0) aNil)) aNil)))))
    (mSq (mRetF (mA (fP 2 (m_law_alike 8)) (aCons (mLc (mSrc (mVar 1)) (gN 2) (mC (.bl true)) (mA (fP 1 m_law_field) (aCons (mVar 2) aNil)) [2]) (aCons (m2 fMul (mA fLst (aCons (mVar 0) aNil)) (mC (.int 22))) aNil))))
    mNx)))))))
abbrev s__law_error_classes : Stmt := top 39
abbrev N__law_error_classes : List Str := ["_law_one", "_law_found", "_law_my_word", "_law_good"]
theorem sc__law_error_classes : FnScope N__law_error_classes ["_law_one"] (defScope s__law_error_classes) := ⟨rfl, rfl, rfl, by decide +kernel, rfl, by decide +kernel, by decide +kernel⟩
theorem b__law_error_classes : PosB s__law_error_classes "_law_error_classes" "_law_error_classes" ["_law_one"] := fun _ _ _ _ _ _ us hl => match us, hl with | [_], _ => rfl
def m_law_error_classes : MF := mDef 4 ((mSq (mSet 1 (mA fLst (aCons (mA fTup (aCons (mC (.str "InvalidSign")) (aCons (m1 (fIsX tx_InvalidSign) (mVar 0)) aNil))) (aCons (mA fTup (aCons (mC (.str "InvalidRow")) (aCons (m1 (fIsX tx_InvalidRow) (mVar 0)) aNil))) (aCons (mA fTup (aCons (mC (.str "InvalidHand")) (aCons (m1 (fIsX tx_InvalidHand) (mVar 0)) aNil))) aNil)))))
    (mSq (mSet 1 (m2 fAdd (mVar 1) (mA fLst (aCons (mA fTup (aCons (mC (.str "InvalidState")) (aCons (m1 (fIsX tx_InvalidState) (mVar 0)) aNil))) (aCons (mA fTup (aCons (mC (.str "InvalidRule")) (aCons (m1 (fIsX tx_InvalidRule) (mVar 0)) aNil))) (aCons (mA fTup (aCons (mC (.str "InvalidCount")) (aCons (m1 (fIsX tx_InvalidCount) (mVar 0)) aNil))) aNil))))))
    (mSq (mSet 1 (m2 fAdd (mVar 1) (mA fLst (aCons (mA fTup (aCons (mC (.str "InvalidInput")) (aCons (m1 (fIsX tx_InvalidInput) (mVar 0)) aNil))) (aCons (mA fTup (aCons (mC (.str "InvalidKnowledge")) (aCons (m1 (fIsX tx_InvalidKnowledge) (mVar 0)) aNil))) (aCons (mA fTup (aCons (mC (.str "NotLet")) (aCons (m1 (fIsX tx_NotLet) (mVar 0)) aNil))) aNil))))))
    (mSq (mSet 1 (m2 fAdd (mVar 1) (mA fLst (aCons (mA fTup (aCons (mC (.str "InvalidLimit")) (aCons (m1 (fIsX tx_InvalidLimit) (mVar 0)) aNil))) (aCons (mA fTup (aCons (mC (.str "InvalidStates")) (aCons (m1 (fIsX tx_InvalidStates) (mVar 0)) aNil))) (aCons (mA fTup (aCons (mC (.str "InvalidCase")) (aCons (m1 (fIsX tx_InvalidCase) (mVar 0)) aNil))) aNil))))))
    (mSq (mSet 1 (m2 fAdd (mVar 1) (mA fLst (aCons (mA fTup (aCons (mC (.str "TooMany")) (aCons (m1 (fIsX tx_TooMany) (mVar 0)) aNil))) (aCons (mA fTup (aCons (mC (.str "Finished")) (aCons (m1 (fIsX tx_Finished) (mVar 0)) aNil))) (aCons (mA fTup (aCons (mC (.str "TakenMove")) (aCons (m1 (fIsX tx_TakenMove) (mVar 0)) aNil))) aNil))))))
    (mSq (mSet 1 (m2 fAdd (mVar 1) (mA fLst (aCons (mA fTup (aCons (mC (.str "InvalidName")) (aCons (m1 (fIsX tx_InvalidName) (mVar 0)) aNil))) (aCons (mA fTup (aCons (mC (.str "WrongKind")) (aCons (m1 (fIsX tx_WrongKind) (mVar 0)) aNil))) (aCons (mA fTup (aCons (mC (.str "DuplicateName")) (aCons (m1 (fIsX tx_DuplicateName) (mVar 0)) aNil))) aNil))))))
    (mSq (mSet 1 (m2 fAdd (mVar 1) (mA fLst (aCons (mA fTup (aCons (mC (.str "UnknownName")) (aCons (m1 (fIsX tx_UnknownName) (mVar 0)) aNil))) (aCons (mA fTup (aCons (mC (.str "Full")) (aCons (m1 (fIsX tx_Full) (mVar 0)) aNil))) (aCons (mA fTup (aCons (mC (.str "InvalidCommand")) (aCons (m1 (fIsX tx_InvalidCommand) (mVar 0)) aNil))) aNil))))))
    (mSq (mSet 1 (m2 fAdd (mVar 1) (mA fLst (aCons (mA fTup (aCons (mC (.str "InvalidPage")) (aCons (m1 (fIsX tx_InvalidPage) (mVar 0)) aNil))) (aCons (mA fTup (aCons (mC (.str "InvalidTask")) (aCons (m1 (fIsX tx_InvalidTask) (mVar 0)) aNil))) (aCons (mA fTup (aCons (mC (.str "InvalidTable")) (aCons (m1 (fIsX tx_InvalidTable) (mVar 0)) aNil))) aNil))))))
    (mSq (mSet 1 (m2 fAdd (mVar 1) (mA fLst (aCons (mA fTup (aCons (mC (.str "TablesDiffer")) (aCons (m1 (fIsX tx_TablesDiffer) (mVar 0)) aNil))) (aCons (mA fTup (aCons (mC (.str "NoRows")) (aCons (m1 (fIsX tx_NoRows) (mVar 0)) aNil))) (aCons (mA fTup (aCons (mC (.str "DeadDiffer")) (aCons (m1 (fIsX tx_DeadDiffer) (mVar 0)) aNil))) aNil))))))
    (mSq (mSet 1 (m2 fAdd (mVar 1) (mA fLst (aCons (mA fTup (aCons (mC (.str "LastMove")) (aCons (m1 (fIsX tx_LastMove) (mVar 0)) aNil))) (aCons (mA fTup (aCons (mC (.str "InvalidText")) (aCons (m1 (fIsX tx_InvalidText) (mVar 0)) aNil))) (aCons (mA fTup (aCons (mC (.str "NothingLeft")) (aCons (m1 (fIsX tx_NothingLeft) (mVar 0)) aNil))) aNil))))))
    (mSq (mRetF (mLc (mSrc (mVar 1)) (gT 2 (gsCons (gN 2) (gsCons (gN 3) gsNil))) (mTru (mVar 3)) (mVar 2) [2, 3]))
    mNx))))))))))))
abbrev s_law : Stmt := top 41
abbrev N_law : List Str := ["_law_script", "_law_bag_here", "_law_field_here", "_law_my_given", "_law_bare", "_law_words", "_law_one", "_law_plain", "_law_kinds"]
theorem sc_law : FnScope N_law ["_law_script"] (defScope s_law) := ⟨rfl, rfl, rfl, by decide +kernel, rfl, by decide +kernel, by decide +kernel⟩
theorem b_law : PosB s_law "law" "law" ["_law_script"] := fun _ _ _ _ _ _ us hl => match us, hl with | [_], _ => rfl
def m_law : MF := mDef 9 ((mSq (mSet 1 (mA (fS 1 m_law_bag) (aCons (mVar 0) aNil)))
    (mSq (mSet 2 (mA (fS 2 m_law_of) (aCons (mVar 1) (aCons (mA fLst (aCons (mC (.int 0)) (aCons (m1 fNeg (mC (.int 1))) (aCons (mC (.str "near")) (aCons (mC .non) (aCons (m2 fPow (mC (.int 10)) (mC (.int 8))) (aCons (mA fTup (aCons (mC (.int 1)) (aCons (mC (.int 2)) aNil))) (aCons (mC (.bl true)) (aCons (mA fLst (aCons (mC (.str "x")) aNil)) aNil))))))))) aNil))))
    (mFz 1 (mSq (mSet 3 (mA fLst (aCons (mA (fExn1 "InvalidSign" "InvalidSign" "given") (aCons (mVar 2) aNil)) (aCons (mA (fExn1 "InvalidRow" "InvalidRow" "given") (aCons (mVar 2) aNil)) (aCons (mA (fExn1 "InvalidHand" "InvalidHand" "given") (aCons (mVar 2) aNil)) (aCons (mA (fExn1 "InvalidState" "InvalidState" "given") (aCons (mVar 2) aNil)) (aCons (mA (fExn1 "InvalidRule" "InvalidRule" "given") (aCons (mVar 2) aNil)) (aCons (mA (fExn1 "InvalidCount" "InvalidCount" "given") (aCons (mVar 2) aNil)) aNil))))))))
    (mSq (mSet 3 (m2 fAdd (mVar 3) (mA fLst (aCons (mA (fExn1 "InvalidInput" "InvalidInput" "given") (aCons (mVar 2) aNil)) (aCons (mA (fExn1 "InvalidKnowledge" "InvalidKnowledge" "given") (aCons (mVar 2) aNil)) (aCons (mA (fExn1 "NotLet" "NotLet" "given") (aCons (mVar 2) aNil)) (aCons (mA (fExn1 "InvalidLimit" "InvalidLimit" "given") (aCons (mVar 2) aNil)) (aCons (mA (fExn1 "InvalidStates" "InvalidStates" "index") (aCons (mVar 2) aNil)) (aCons (mA (fExn1 "InvalidCase" "InvalidCase" "index") (aCons (mVar 2) aNil)) aNil)))))))))
    (mSq (mSet 3 (m2 fAdd (mVar 3) (mA fLst (aCons (mA (fExn1 "TooMany" "TooMany" "most") (aCons (mVar 2) aNil)) (aCons (mA (fExn1 "Finished" "Finished" "most") (aCons (mVar 2) aNil)) (aCons (mA (fExn1 "TakenMove" "TakenMove" "sign") (aCons (mVar 2) aNil)) (aCons (mA (fExn1 "InvalidName" "InvalidName" "name") (aCons (mVar 2) aNil)) (aCons (mA (fExn1 "WrongKind" "WrongKind" "name") (aCons (mVar 2) aNil)) (aCons (mA (fExn1 "DuplicateName" "DuplicateName" "name") (aCons (mVar 2) aNil)) (aCons (mA (fExn1 "UnknownName" "UnknownName" "name") (aCons (mVar 2) aNil)) aNil))))))))))
    (mSq (mSet 3 (m2 fAdd (mVar 3) (mA fLst (aCons (mA (fExn1 "Full" "Full" "limit") (aCons (mVar 2) aNil)) (aCons (mA (fExn1 "InvalidCommand" "InvalidCommand" "word") (aCons (mVar 2) aNil)) (aCons (mA (fExn1 "InvalidPage" "InvalidPage" "line") (aCons (mVar 2) aNil)) aNil))))))
    (mSq (mSet 4 (mA fLst (aCons (mA (fExn0 "InvalidTask" "InvalidTask") aNil) (aCons (mA (fExn0 "InvalidTable" "InvalidTable") aNil) (aCons (mA (fExn0 "TablesDiffer" "TablesDiffer") aNil) (aCons (mA (fExn0 "NoRows" "NoRows") aNil) (aCons (mA (fExn0 "DeadDiffer" "DeadDiffer") aNil) (aCons (mA (fExn0 "LastMove" "LastMove") aNil) (aCons (mA (fExn0 "InvalidText" "InvalidText") aNil) (aCons (mA (fExn0 "NothingLeft" "NothingLeft") aNil) aNil))))))))))
    (mSq (mIfS (mNot (mTru (mA (fP 2 (m_law_alike 8)) (aCons (mLc (mSrc (mVar 3)) (gN 6) (mC (.bl true)) (mA (fP 1 m_law_field) (aCons (mVar 6) aNil)) [6]) (aCons (m2 fMul (mA fLst (aCons (mVar 2) aNil)) (mA fLen (aCons (mVar 3) aNil))) aNil))))) (mSq (mRetF (mC (.bl false)))
    mNx) mNx)
    (mSq (mSet 5 (mA fLst (aCons (mC (.str "InvalidSign")) (aCons (mC (.str "InvalidRow")) (aCons (mC (.str "InvalidHand")) (aCons (mC (.str "InvalidState")) (aCons (mC (.str "InvalidRule")) (aCons (mC (.str "InvalidCount")) (aCons (mC (.str "InvalidInput")) (aCons (mC (.str "InvalidKnowledge")) (aCons (mC (.str "NotLet")) aNil)))))))))))
    (mSq (mSet 5 (m2 fAdd (mVar 5) (mA fLst (aCons (mC (.str "InvalidLimit")) (aCons (mC (.str "InvalidStates")) (aCons (mC (.str "InvalidCase")) (aCons (mC (.str "TooMany")) (aCons (mC (.str "Finished")) (aCons (mC (.str "TakenMove")) (aCons (mC (.str "InvalidName")) (aCons (mC (.str "WrongKind")) (aCons (mC (.str "DuplicateName")) aNil))))))))))))
    (mSq (mSet 5 (m2 fAdd (mVar 5) (mA fLst (aCons (mC (.str "UnknownName")) (aCons (mC (.str "Full")) (aCons (mC (.str "InvalidCommand")) (aCons (mC (.str "InvalidPage")) (aCons (mC (.str "InvalidTask")) (aCons (mC (.str "InvalidTable")) (aCons (mC (.str "TablesDiffer")) (aCons (mC (.str "NoRows")) (aCons (mC (.str "DeadDiffer")) aNil))))))))))))
    (mSq (mIfS (m2 fNe (mLc (mSrc (m2 fAdd (mVar 3) (mVar 4))) (gN 6) (mC (.bl true)) (m1 (fFldX xs_tag "tag") (mVar 6)) [6]) (m2 fAdd (mVar 5) (mA fLst (aCons (mC (.str "LastMove")) (aCons (mC (.str "InvalidText")) (aCons (mC (.str "NothingLeft")) aNil)))))) (mSq (mRetF (mC (.bl false)))
    mNx) mNx)
    (mSq (mFor (mSrc (m2 fAdd (mVar 3) (mVar 4))) (gN 6) (mSq (mSet 7 (m2 (fIn true) (m1 (fFldX xs_tag "tag") (mVar 6)) (mA fLst (aCons (mC (.str "UnknownName")) (aCons (mC (.str "NothingLeft")) aNil)))))
    (mSq (mSet 8 (mA fLst (aCons (m1 (fIsX tx_PostError) (mVar 6)) (aCons (m1 (fIsX tx_ValueError) (mVar 6)) (aCons (m1 (fIsX tx_Missing) (mVar 6)) (aCons (m1 (fIsX tx_LookupError) (mVar 6)) (aCons (m1 (fIsX tx_IndexError) (mVar 6)) aNil)))))))
    (mSq (mIfS (m2 fNe (mVar 8) (mA fLst (aCons (mVar 7) (aCons (mVar 7) (aCons (m2 fEq (m1 (fFldX xs_tag "tag") (mVar 6)) (mC (.str "UnknownName"))) (aCons (mNotV (mVar 7)) (aCons (m2 fEq (m1 (fFldX xs_tag "tag") (mVar 6)) (mC (.str "NothingLeft"))) aNil))))))) (mSq (mRetF (mC (.bl false)))
    mNx) mNx)
    (mSq (mIfS (m2 fNe (mA (fP 1 m_law_error_classes) (aCons (mVar 6) aNil)) (mA fLst (aCons (m1 (fFldX xs_tag "tag") (mVar 6)) aNil))) (mSq (mRetF (mC (.bl false)))
    mNx) mNx)
    mNx)))))
    (mSq (mRetF (mA (fP 1 m_law_errors_by_name) (aCons (mVar 2) aNil)))
    mNx))))))))))))))))
abbrev FunAt (K : PySem.W.Frag) (mg : Str → Option Value) (x : Str) (st : Stmt) : Prop := ∃ (f : Addr) (fd : FuncData), FunD K x x (defArgs st) (defBody st) (defScope st) [] [] f fd ∧ mg x = some (.ref f)
structure Env (P : Program) (w : World) (base : Heap) (K : PySem.W.Frag) (mg : Str → Option Value) : Prop where
  f_IndexError : mg "IndexError" = none
  f_LookupError : mg "LookupError" = none
  f_ValueError : mg "ValueError" = none
  f_all : mg "all" = none
  f_bool : mg "bool" = none
  f_int : mg "int" = none
  f_isinstance : mg "isinstance" = none
  f_len : mg "len" = none
  f_list : mg "list" = none
  f_str : mg "str" = none
  f_tuple : mg "tuple" = none
  f_zip : mg "zip" = none
  d__law_bag : FunAt K mg "_law_bag" s__law_bag
  d__law_draw : FunAt K mg "_law_draw" s__law_draw
  d__law_of : FunAt K mg "_law_of" s__law_of
  d__law_alike : FunAt K mg "_law_alike" s__law_alike
  d__law_field : FunAt K mg "_law_field" s__law_field
  d__law_errors_by_name : FunAt K mg "_law_errors_by_name" s__law_errors_by_name
  d__law_error_classes : FunAt K mg "_law_error_classes" s__law_error_classes
  d_law : FunAt K mg "law" s_law
  x_DeadDiffer : HasE0 P w K mg base 1 "DeadDiffer" "DeadDiffer"
  x_DuplicateName : HasE1 P w K mg base 1 "DuplicateName" "DuplicateName" "name"
  x_Finished : HasE1 P w K mg base 1 "Finished" "Finished" "most"
  x_Full : HasE1 P w K mg base 1 "Full" "Full" "limit"
  x_InvalidCase : HasE1 P w K mg base 1 "InvalidCase" "InvalidCase" "index"
  x_InvalidCommand : HasE1 P w K mg base 1 "InvalidCommand" "InvalidCommand" "word"
  x_InvalidCount : HasE1 P w K mg base 1 "InvalidCount" "InvalidCount" "given"
  x_InvalidHand : HasE1 P w K mg base 1 "InvalidHand" "InvalidHand" "given"
  x_InvalidInput : HasE1 P w K mg base 1 "InvalidInput" "InvalidInput" "given"
  x_InvalidKnowledge : HasE1 P w K mg base 1 "InvalidKnowledge" "InvalidKnowledge" "given"
  x_InvalidLimit : HasE1 P w K mg base 1 "InvalidLimit" "InvalidLimit" "given"
  x_InvalidName : HasE1 P w K mg base 1 "InvalidName" "InvalidName" "name"
  x_InvalidPage : HasE1 P w K mg base 1 "InvalidPage" "InvalidPage" "line"
  x_InvalidRow : HasE1 P w K mg base 1 "InvalidRow" "InvalidRow" "given"
  x_InvalidRule : HasE1 P w K mg base 1 "InvalidRule" "InvalidRule" "given"
  x_InvalidSign : HasE1 P w K mg base 1 "InvalidSign" "InvalidSign" "given"
  x_InvalidState : HasE1 P w K mg base 1 "InvalidState" "InvalidState" "given"
  x_InvalidStates : HasE1 P w K mg base 1 "InvalidStates" "InvalidStates" "index"
  x_InvalidTable : HasE0 P w K mg base 1 "InvalidTable" "InvalidTable"
  x_InvalidTask : HasE0 P w K mg base 1 "InvalidTask" "InvalidTask"
  x_InvalidText : HasE0 P w K mg base 1 "InvalidText" "InvalidText"
  x_LastMove : HasE0 P w K mg base 1 "LastMove" "LastMove"
  x_NoRows : HasE0 P w K mg base 1 "NoRows" "NoRows"
  x_NotLet : HasE1 P w K mg base 1 "NotLet" "NotLet" "given"
  x_NothingLeft : HasE0 P w K mg base 1 "NothingLeft" "NothingLeft"
  x_TablesDiffer : HasE0 P w K mg base 1 "TablesDiffer" "TablesDiffer"
  x_TakenMove : HasE1 P w K mg base 1 "TakenMove" "TakenMove" "sign"
  x_TooMany : HasE1 P w K mg base 1 "TooMany" "TooMany" "most"
  x_UnknownName : HasE1 P w K mg base 1 "UnknownName" "UnknownName" "name"
  x_WrongKind : HasE1 P w K mg base 1 "WrongKind" "WrongKind" "name"
  xc_DeadDiffer : mg "DeadDiffer" = some (.ref (He.ga K "DeadDiffer"))
  xi_DeadDiffer : IsxC K mg (.ref (He.ga K "DeadDiffer")) tx_DeadDiffer
  xc_DuplicateName : mg "DuplicateName" = some (.ref (He.ga K "DuplicateName"))
  xi_DuplicateName : IsxC K mg (.ref (He.ga K "DuplicateName")) tx_DuplicateName
  xc_Finished : mg "Finished" = some (.ref (He.ga K "Finished"))
  xi_Finished : IsxC K mg (.ref (He.ga K "Finished")) tx_Finished
  xc_Full : mg "Full" = some (.ref (He.ga K "Full"))
  xi_Full : IsxC K mg (.ref (He.ga K "Full")) tx_Full
  xi_IndexError : IsxC K mg (.type "IndexError") tx_IndexError
  xc_InvalidCase : mg "InvalidCase" = some (.ref (He.ga K "InvalidCase"))
  xi_InvalidCase : IsxC K mg (.ref (He.ga K "InvalidCase")) tx_InvalidCase
  xc_InvalidCommand : mg "InvalidCommand" = some (.ref (He.ga K "InvalidCommand"))
  xi_InvalidCommand : IsxC K mg (.ref (He.ga K "InvalidCommand")) tx_InvalidCommand
  xc_InvalidCount : mg "InvalidCount" = some (.ref (He.ga K "InvalidCount"))
  xi_InvalidCount : IsxC K mg (.ref (He.ga K "InvalidCount")) tx_InvalidCount
  xc_InvalidHand : mg "InvalidHand" = some (.ref (He.ga K "InvalidHand"))
  xi_InvalidHand : IsxC K mg (.ref (He.ga K "InvalidHand")) tx_InvalidHand
  xc_InvalidInput : mg "InvalidInput" = some (.ref (He.ga K "InvalidInput"))
  xi_InvalidInput : IsxC K mg (.ref (He.ga K "InvalidInput")) tx_InvalidInput
  xc_InvalidKnowledge : mg "InvalidKnowledge" = some (.ref (He.ga K "InvalidKnowledge"))
  xi_InvalidKnowledge : IsxC K mg (.ref (He.ga K "InvalidKnowledge")) tx_InvalidKnowledge
  xc_InvalidLimit : mg "InvalidLimit" = some (.ref (He.ga K "InvalidLimit"))
  xi_InvalidLimit : IsxC K mg (.ref (He.ga K "InvalidLimit")) tx_InvalidLimit
  xc_InvalidName : mg "InvalidName" = some (.ref (He.ga K "InvalidName"))
  xi_InvalidName : IsxC K mg (.ref (He.ga K "InvalidName")) tx_InvalidName
  xc_InvalidPage : mg "InvalidPage" = some (.ref (He.ga K "InvalidPage"))
  xi_InvalidPage : IsxC K mg (.ref (He.ga K "InvalidPage")) tx_InvalidPage
  xc_InvalidRow : mg "InvalidRow" = some (.ref (He.ga K "InvalidRow"))
  xi_InvalidRow : IsxC K mg (.ref (He.ga K "InvalidRow")) tx_InvalidRow
  xc_InvalidRule : mg "InvalidRule" = some (.ref (He.ga K "InvalidRule"))
  xi_InvalidRule : IsxC K mg (.ref (He.ga K "InvalidRule")) tx_InvalidRule
  xc_InvalidSign : mg "InvalidSign" = some (.ref (He.ga K "InvalidSign"))
  xi_InvalidSign : IsxC K mg (.ref (He.ga K "InvalidSign")) tx_InvalidSign
  xc_InvalidState : mg "InvalidState" = some (.ref (He.ga K "InvalidState"))
  xi_InvalidState : IsxC K mg (.ref (He.ga K "InvalidState")) tx_InvalidState
  xc_InvalidStates : mg "InvalidStates" = some (.ref (He.ga K "InvalidStates"))
  xi_InvalidStates : IsxC K mg (.ref (He.ga K "InvalidStates")) tx_InvalidStates
  xc_InvalidTable : mg "InvalidTable" = some (.ref (He.ga K "InvalidTable"))
  xi_InvalidTable : IsxC K mg (.ref (He.ga K "InvalidTable")) tx_InvalidTable
  xc_InvalidTask : mg "InvalidTask" = some (.ref (He.ga K "InvalidTask"))
  xi_InvalidTask : IsxC K mg (.ref (He.ga K "InvalidTask")) tx_InvalidTask
  xc_InvalidText : mg "InvalidText" = some (.ref (He.ga K "InvalidText"))
  xi_InvalidText : IsxC K mg (.ref (He.ga K "InvalidText")) tx_InvalidText
  xc_LastMove : mg "LastMove" = some (.ref (He.ga K "LastMove"))
  xi_LastMove : IsxC K mg (.ref (He.ga K "LastMove")) tx_LastMove
  xi_LookupError : IsxC K mg (.type "LookupError") tx_LookupError
  xc_Missing : mg "Missing" = some (.ref (He.ga K "Missing"))
  xi_Missing : IsxC K mg (.ref (He.ga K "Missing")) tx_Missing
  xc_NoRows : mg "NoRows" = some (.ref (He.ga K "NoRows"))
  xi_NoRows : IsxC K mg (.ref (He.ga K "NoRows")) tx_NoRows
  xc_NotLet : mg "NotLet" = some (.ref (He.ga K "NotLet"))
  xi_NotLet : IsxC K mg (.ref (He.ga K "NotLet")) tx_NotLet
  xc_NothingLeft : mg "NothingLeft" = some (.ref (He.ga K "NothingLeft"))
  xi_NothingLeft : IsxC K mg (.ref (He.ga K "NothingLeft")) tx_NothingLeft
  xc_PostError : mg "PostError" = some (.ref (He.ga K "PostError"))
  xi_PostError : IsxC K mg (.ref (He.ga K "PostError")) tx_PostError
  xc_TablesDiffer : mg "TablesDiffer" = some (.ref (He.ga K "TablesDiffer"))
  xi_TablesDiffer : IsxC K mg (.ref (He.ga K "TablesDiffer")) tx_TablesDiffer
  xc_TakenMove : mg "TakenMove" = some (.ref (He.ga K "TakenMove"))
  xi_TakenMove : IsxC K mg (.ref (He.ga K "TakenMove")) tx_TakenMove
  xc_TooMany : mg "TooMany" = some (.ref (He.ga K "TooMany"))
  xi_TooMany : IsxC K mg (.ref (He.ga K "TooMany")) tx_TooMany
  xc_UnknownName : mg "UnknownName" = some (.ref (He.ga K "UnknownName"))
  xi_UnknownName : IsxC K mg (.ref (He.ga K "UnknownName")) tx_UnknownName
  xi_ValueError : IsxC K mg (.type "ValueError") tx_ValueError
  xc_WrongKind : mg "WrongKind" = some (.ref (He.ga K "WrongKind"))
  xi_WrongKind : IsxC K mg (.ref (He.ga K "WrongKind")) tx_WrongKind
  xf_given : FldX K mg xs_given "given"
  xf_index : FldX K mg xs_index "index"
  xf_limit : FldX K mg xs_limit "limit"
  xf_line : FldX K mg xs_line "line"
  xf_most : FldX K mg xs_most "most"
  xf_name : FldX K mg xs_name "name"
  xf_sign : FldX K mg xs_sign "sign"
  xf_tag : FldX K mg xs_tag "tag"
  xf_word : FldX K mg xs_word "word"
section
variable {P : Program} {w : World} {K : PySem.W.Frag} {mg : Str → Option Value} {base : Heap}
theorem ok__law_bag (Y : Env P w base K mg) : Has P w K mg base 1 "_law_bag" "_law_bag" s__law_bag ["_law_script"] m_law_bag := by
  obtain ⟨f, fd, F, hm⟩ := Y.d__law_bag
  refine ⟨f, fd, F, hm, def_ok2 (k := 0) F sc__law_bag rfl fun cdv A outer s H E hr tk po => ?_⟩
  have nd := sc__law_bag.nd
  exact (sss_cons (ss_set (i := 1) nd (se_callTy call_list_of mList Y.f_list (sa_cons (se_slice (se_var (i := 0)) so_none (so_some se_int) part_none part_some) sa_nil)))
    (sss_cons (ss_set (i := 2) nd (se_op op_addV mAddV se_int (se_op op_mulV mMulV se_int (se_callB call_lenAll mLen Y.f_len (sa_cons (se_var (i := 1)) sa_nil)))))
    (sss_cons (ss_for po rfl (si_src (se_var (i := 1))) (sg_name (i := 3) nd) (sss_cons (ss_set (i := 2) nd (se_op op_mod mModV (se_callTy call_intAll mInt Y.f_int (sa_cons (se_op op_addV mAddV (se_op op_addV mAddV (se_op op_mulV mMulV (se_var (i := 2)) se_int) (se_op op_mod mModV (se_callTy call_intAll mInt Y.f_int (sa_cons (se_var (i := 3)) sa_nil)) se_int)) se_int) sa_nil)) se_int))
    sss_nil))
    (sss_cons (ss_ret (se_lstN (sa_cons (se_var (i := 1)) (sa_cons se_int (sa_cons se_int (sa_cons (se_var (i := 2)) sa_nil))))))
    sss_nil))))
theorem ok__law_draw (Y : Env P w base K mg) : Has P w K mg base 1 "_law_draw" "_law_draw" s__law_draw ["_law_bag_here", "_law_many"] m_law_draw := by
  obtain ⟨f, fd, F, hm⟩ := Y.d__law_draw
  refine ⟨f, fd, F, hm, def_ok2 (k := 0) F sc__law_draw rfl fun cdv A outer s H E hr tk po => ?_⟩
  have nd := sc__law_draw.nd
  exact (sss_cons (ss_if (sw_st (sw_and (st_cmp (op_eqA hr.units) mEqV blEq (se_ix (se_var (i := 0)) se_int) se_int (nomark _)) (sw_and1 (st_cmp op_ltV mLtV blLt (se_ix (se_var (i := 0)) se_int) (se_callB call_lenAll mLen Y.f_len (sa_cons (se_ix (se_var (i := 0)) se_int) sa_nil)) (nomark _))))) (sss_cons (ss_set (i := 2) nd (se_ix (se_ix (se_var (i := 0)) se_int) (se_ix (se_var (i := 0)) se_int)))
    (sss_cons (ss_asg (se_op op_addV mAddV (se_ix (se_var (i := 0)) se_int) se_int) (sg_sub (se_var (i := 0)) se_int))
    (sss_cons (ss_if (st_cmp op_geV mGeV blGe (se_var (i := 2)) (se_op op_pow mPowV se_int se_int) (nomark _)) (sss_cons (ss_asg (se_var (i := 2)) (sg_sub (se_var (i := 0)) se_int))
    sss_nil) (sss_cons (ss_set (i := 4) nd (se_op op_addV mAddV (se_op op_mulV mMulV (se_ix (se_var (i := 0)) se_int) se_int) (se_op op_mod mModV (se_callTy call_intAll mInt Y.f_int (sa_cons (se_var (i := 2)) sa_nil)) se_int)))
    (sss_cons (ss_asg (se_op op_mod mModV (se_callTy call_intAll mInt Y.f_int (sa_cons (se_op op_addV mAddV (se_var (i := 4)) (se_ix (se_var (i := 0)) se_int)) sa_nil)) se_int) (sg_sub (se_var (i := 0)) se_int))
    sss_nil)))
    sss_nil))) sss_nil)
    (sss_cons (ss_if (st_cmp op_gtV mGtV blGt (se_ix (se_var (i := 0)) se_int) se_int (nomark _)) (sss_cons (ss_set (i := 3) nd (se_op op_mod mModV (se_callTy call_intAll mInt Y.f_int (sa_cons (se_ix (se_var (i := 0)) se_int) sa_nil)) (se_var (i := 1))))
    (sss_cons (ss_asg (se_op op_fdiv mFdivV (se_ix (se_var (i := 0)) se_int) (se_var (i := 1))) (sg_sub (se_var (i := 0)) se_int))
    (sss_cons (ss_retF (se_var (i := 3)))
    sss_nil))) sss_nil)
    (sss_cons (ss_asg (se_op op_mod mModV (se_callTy call_intAll mInt Y.f_int (sa_cons (se_op op_addV mAddV (se_op op_mulV mMulV (se_ix (se_var (i := 0)) se_int) se_int) se_int) sa_nil)) se_int) (sg_sub (se_var (i := 0)) se_int))
    (sss_cons (ss_retF (se_op op_mod mModV (se_callTy call_intAll mInt Y.f_int (sa_cons (se_op op_fdiv mFdivV (se_op op_mod mModV (se_callTy call_intAll mInt Y.f_int (sa_cons (se_op op_mulV mMulV (se_ix (se_var (i := 0)) se_int) (se_ix (se_var (i := 0)) se_int)) sa_nil)) se_int) se_int) sa_nil)) (se_var (i := 1))))
    sss_nil))))
theorem ok__law_of (Y : Env P w base K mg) : Has P w K mg base 2 "_law_of" "_law_of" s__law_of ["_law_bag_here", "_law_things"] m_law_of := by
  have H__law_draw := (ok__law_draw (P := P) (w := w) (base := base) Y).up (k := 1) (by omega)
  obtain ⟨f, fd, F, hm⟩ := Y.d__law_of
  refine ⟨f, fd, F, hm, def_ok2 (k := 1) F sc__law_of rfl fun cdv A outer s H E hr tk po => ?_⟩
  have nd := sc__law_of.nd
  exact (sss_cons (ss_retF (se_ix (se_var (i := 1)) (se_hcall H__law_draw hr tk calls_st b__law_draw (sa_cons (se_var (i := 0)) (sa_cons (se_callB call_lenAll mLen Y.f_len (sa_cons (se_var (i := 1)) sa_nil)) sa_nil)))))
    sss_nil)
theorem ok__law_alike (Y : Env P w base K mg) (n : Nat) : Has P w K mg base (1 + n) "_law_alike" "_law_alike" s__law_alike ["_law_found", "_law_due"] (m_law_alike n) := by
  induction n with
  | zero =>
    obtain ⟨f, fd, F, hm⟩ := Y.d__law_alike
    exact ⟨f, fd, F, hm, fnOk_stuck F sc__law_alike⟩
  | succ n ih =>
    obtain ⟨f, fd, F, hm⟩ := Y.d__law_alike
    refine ⟨f, fd, F, hm, def_ok2 F sc__law_alike rfl fun cdv A outer s H E hr tk po => ?_⟩
    have nd := sc__law_alike.nd
    exact (sss_cons (ss_if (sw_st (sw_or (st_cmp op_isV mIsV blIs (se_var (i := 1)) se_non (nomark _)) (sw_or1 (st_cmp op_isV mIsV blIs (se_var (i := 0)) se_non (nomark _))))) (sss_cons (ss_retF (se_and (se_cmp op_isV mIsV (se_var (i := 1)) se_non (nomark _)) (se_one (se_cmp op_isV mIsV (se_var (i := 0)) se_non (nomark _)))))
      sss_nil) sss_nil)
      (sss_cons (ss_for po rfl (si_src (se_tup (sa_cons se_int (sa_cons se_int (sa_cons se_int sa_nil))))) (sg_name (i := 2) nd) (sss_cons (ss_if (sw_st (sw_and (st_cmp (op_eqA hr.units) mEqV blEq (se_var (i := 2)) se_int (nomark _)) (sw_and1 (sw_st (sw_or (st_val (se_isi .bl Y.f_isinstance Y.f_bool (se_var (i := 1)))) (sw_or1 (st_val (se_isi .bl Y.f_isinstance Y.f_bool (se_var (i := 0)))))))))) (sss_cons (ss_retF (se_and (se_isi .bl Y.f_isinstance Y.f_bool (se_var (i := 1))) (se_and (se_isi .bl Y.f_isinstance Y.f_bool (se_var (i := 0))) (se_one (se_cmp (op_eqA hr.units) mEqV (se_var (i := 0)) (se_var (i := 1)) (nomark _))))))
      sss_nil) sss_nil)
      (sss_cons (ss_if (sw_st (sw_and (st_cmp (op_eqA hr.units) mEqV blEq (se_var (i := 2)) se_int (nomark _)) (sw_and1 (sw_st (sw_or (st_val (se_isi .str Y.f_isinstance Y.f_str (se_var (i := 1)))) (sw_or1 (st_val (se_isi .str Y.f_isinstance Y.f_str (se_var (i := 0)))))))))) (sss_cons (ss_retF (se_and (se_isi .str Y.f_isinstance Y.f_str (se_var (i := 1))) (se_and (se_isi .str Y.f_isinstance Y.f_str (se_var (i := 0))) (se_one (se_cmp (op_eqA hr.units) mEqV (se_var (i := 0)) (se_var (i := 1)) (nomark _))))))
      sss_nil) sss_nil)
      (sss_cons (ss_if (sw_st (sw_and (st_cmp (op_eqA hr.units) mEqV blEq (se_var (i := 2)) se_int (nomark _)) (sw_and1 (sw_st (sw_or (st_val (se_isi .int Y.f_isinstance Y.f_int (se_var (i := 1)))) (sw_or1 (st_val (se_isi .int Y.f_isinstance Y.f_int (se_var (i := 0)))))))))) (sss_cons (ss_retF (se_and (se_isi .int Y.f_isinstance Y.f_int (se_var (i := 1))) (se_and (se_isi .int Y.f_isinstance Y.f_int (se_var (i := 0))) (se_one (se_cmp (op_eqA hr.units) mEqV (se_var (i := 0)) (se_var (i := 1)) (nomark _))))))
      sss_nil) sss_nil)
      sss_nil))))
      (sss_cons (ss_if (sw_st (sw_or (st_cmp (op_neA hr.units) mNeV blNe (se_isi .tup Y.f_isinstance Y.f_tuple (se_var (i := 1))) (se_isi .tup Y.f_isinstance Y.f_tuple (se_var (i := 0))) (nomark _)) (sw_or1 (st_cmp (op_neA hr.units) mNeV blNe (se_isi .lst Y.f_isinstance Y.f_list (se_var (i := 1))) (se_isi .lst Y.f_isinstance Y.f_list (se_var (i := 0))) (nomark _))))) (sss_cons (ss_retF se_bl)
      sss_nil) sss_nil)
      (sss_cons (ss_retF (se_and (se_cmp (op_eqA hr.units) mEqV (se_callB call_lenAll mLen Y.f_len (sa_cons (se_var (i := 0)) sa_nil)) (se_callB call_lenAll mLen Y.f_len (sa_cons (se_var (i := 1)) sa_nil)) (nomark _)) (se_one (se_callB (cr_all rfl) mAll Y.f_all (sa_cons (se_lc (own := [("_law_one", 3), ("_law_two", 4)]) rfl nd (si_zip Y.f_zip (sa_cons (se_var (i := 0)) (sa_cons (se_var (i := 1)) sa_nil))) (blkOk_at (N := N__law_alike) (sc := defScope s__law_alike) rfl rfl (by decide +kernel)) rfl (fun _ _ _ _ _ => (sg_tup rfl (sgs_cons (sg_name (i := 3) nd) (sgs_cons (sg_name (i := 4) nd) sgs_nil)))) (fun _ _ _ _ _ => sts_nil) (fun _ _ _ _ _ => (se_hcall ih hr takes0 calls_pu b__law_alike (sa_cons (se_var (i := 3)) (sa_cons (se_var (i := 4)) sa_nil))))) sa_nil)))))
      sss_nil))))
theorem ok__law_field (Y : Env P w base K mg) : Has P w K mg base 1 "_law_field" "_law_field" s__law_field ["_law_e"] m_law_field := by
  obtain ⟨f, fd, F, hm⟩ := Y.d__law_field
  refine ⟨f, fd, F, hm, def_ok2 (k := 0) F sc__law_field rfl fun cdv A outer s H E hr tk po => ?_⟩
  have nd := sc__law_field.nd
  exact (sss_cons (ss_if (st_cmp (op_inV (hu65 hr)) mInV blIn (se_fldX Y.xf_tag (se_var (i := 0))) (se_lst (sa_cons se_str (sa_cons se_str sa_nil))) (by with_unfolding_all rfl)) (sss_cons (ss_retF (se_fldX Y.xf_index (se_var (i := 0))))
    sss_nil) sss_nil)
    (sss_cons (ss_if (st_cmp (op_inV (hu65 hr)) mInV blIn (se_fldX Y.xf_tag (se_var (i := 0))) (se_lst (sa_cons se_str (sa_cons se_str sa_nil))) (by with_unfolding_all rfl)) (sss_cons (ss_retF (se_fldX Y.xf_most (se_var (i := 0))))
    sss_nil) sss_nil)
    (sss_cons (ss_if (st_cmp (op_eqA hr.units) mEqV blEq (se_fldX Y.xf_tag (se_var (i := 0))) se_str (nomark _)) (sss_cons (ss_retF (se_fldX Y.xf_sign (se_var (i := 0))))
    sss_nil) sss_nil)
    (sss_cons (ss_if (st_cmp (op_inV (hu65 hr)) mInV blIn (se_fldX Y.xf_tag (se_var (i := 0))) (se_lst (sa_cons se_str (sa_cons se_str (sa_cons se_str (sa_cons se_str sa_nil))))) (by with_unfolding_all rfl)) (sss_cons (ss_retF (se_fldX Y.xf_name (se_var (i := 0))))
    sss_nil) sss_nil)
    (sss_cons (ss_if (st_cmp (op_eqA hr.units) mEqV blEq (se_fldX Y.xf_tag (se_var (i := 0))) se_str (nomark _)) (sss_cons (ss_retF (se_fldX Y.xf_limit (se_var (i := 0))))
    sss_nil) sss_nil)
    (sss_cons (ss_if (st_cmp (op_eqA hr.units) mEqV blEq (se_fldX Y.xf_tag (se_var (i := 0))) se_str (nomark _)) (sss_cons (ss_retF (se_fldX Y.xf_word (se_var (i := 0))))
    sss_nil) sss_nil)
    (sss_cons (ss_if (st_cmp (op_eqA hr.units) mEqV blEq (se_fldX Y.xf_tag (se_var (i := 0))) se_str (nomark _)) (sss_cons (ss_retF (se_fldX Y.xf_line (se_var (i := 0))))
    sss_nil) sss_nil)
    (sss_cons (ss_set (i := 1) nd (se_lst (sa_cons se_str (sa_cons se_str (sa_cons se_str (sa_cons se_str (sa_cons se_str (sa_cons se_str (sa_cons se_str (sa_cons se_str sa_nil))))))))))
    (sss_cons (ss_retF (se_if (st_cmp (op_inV (hu65 hr)) mInV blIn (se_fldX Y.xf_tag (se_var (i := 0))) (se_var (i := 1)) (by with_unfolding_all rfl)) se_non (se_fldX Y.xf_given (se_var (i := 0)))))
    sss_nil)))))))))
theorem ok__law_errors_by_name (Y : Env P w base K mg) : Has P w K mg base 10 "_law_errors_by_name" "_law_errors_by_name" s__law_errors_by_name ["_law_field_here"] m_law_errors_by_name := by
  have X_DuplicateName := Y.x_DuplicateName.up (k := 9 - 1) (by omega)
  have X_Finished := Y.x_Finished.up (k := 9 - 1) (by omega)
  have X_Full := Y.x_Full.up (k := 9 - 1) (by omega)
  have X_InvalidCase := Y.x_InvalidCase.up (k := 9 - 1) (by omega)
  have X_InvalidCommand := Y.x_InvalidCommand.up (k := 9 - 1) (by omega)
  have X_InvalidCount := Y.x_InvalidCount.up (k := 9 - 1) (by omega)
  have X_InvalidHand := Y.x_InvalidHand.up (k := 9 - 1) (by omega)
  have X_InvalidInput := Y.x_InvalidInput.up (k := 9 - 1) (by omega)
  have X_InvalidKnowledge := Y.x_InvalidKnowledge.up (k := 9 - 1) (by omega)
  have X_InvalidLimit := Y.x_InvalidLimit.up (k := 9 - 1) (by omega)
  have X_InvalidName := Y.x_InvalidName.up (k := 9 - 1) (by omega)
  have X_InvalidPage := Y.x_InvalidPage.up (k := 9 - 1) (by omega)
  have X_InvalidRow := Y.x_InvalidRow.up (k := 9 - 1) (by omega)
  have X_InvalidRule := Y.x_InvalidRule.up (k := 9 - 1) (by omega)
  have X_InvalidSign := Y.x_InvalidSign.up (k := 9 - 1) (by omega)
  have X_InvalidState := Y.x_InvalidState.up (k := 9 - 1) (by omega)
  have X_InvalidStates := Y.x_InvalidStates.up (k := 9 - 1) (by omega)
  have X_NotLet := Y.x_NotLet.up (k := 9 - 1) (by omega)
  have X_TakenMove := Y.x_TakenMove.up (k := 9 - 1) (by omega)
  have X_TooMany := Y.x_TooMany.up (k := 9 - 1) (by omega)
  have X_UnknownName := Y.x_UnknownName.up (k := 9 - 1) (by omega)
  have X_WrongKind := Y.x_WrongKind.up (k := 9 - 1) (by omega)
  have H__law_alike := (ok__law_alike (P := P) (w := w) (base := base) Y 8).up (k := 9) (by omega)
  have H__law_field := (ok__law_field (P := P) (w := w) (base := base) Y).up (k := 9) (by omega)
  obtain ⟨f, fd, F, hm⟩ := Y.d__law_errors_by_name
  refine ⟨f, fd, F, hm, def_ok2 (k := 9) F sc__law_errors_by_name rfl fun cdv A outer s H E hr tk po => ?_⟩
  have nd := sc__law_errors_by_name.nd
  exact (sss_cons (ss_set (i := 1) nd (se_lst (sa_cons (se_exnK X_InvalidSign hr tk (sk_cons (se_var (i := 0)) sk_nil)) (sa_cons (se_exnK X_InvalidRow hr tk (sk_cons (se_var (i := 0)) sk_nil)) (sa_cons (se_exnK X_InvalidHand hr tk (sk_cons (se_var (i := 0)) sk_nil)) (sa_cons (se_exnK X_InvalidState hr tk (sk_cons (se_var (i := 0)) sk_nil)) (sa_cons (se_exnK X_InvalidRule hr tk (sk_cons (se_var (i := 0)) sk_nil)) sa_nil)))))))
    (sss_cons (ss_set (i := 1) nd (se_op op_addV mAddV (se_var (i := 1)) (se_lst (sa_cons (se_exnK X_InvalidCount hr tk (sk_cons (se_var (i := 0)) sk_nil)) (sa_cons (se_exnK X_InvalidInput hr tk (sk_cons (se_var (i := 0)) sk_nil)) (sa_cons (se_exnK X_InvalidKnowledge hr tk (sk_cons (se_var (i := 0)) sk_nil)) (sa_cons (se_exnK X_NotLet hr tk (sk_cons (se_var (i := 0)) sk_nil)) (sa_cons (se_exnK X_InvalidLimit hr tk (sk_cons (se_var (i := 0)) sk_nil)) sa_nil))))))))
    (sss_cons (ss_set (i := 1) nd (se_op op_addV mAddV (se_var (i := 1)) (se_lst (sa_cons (se_exnK X_InvalidStates hr tk (sk_cons (se_var (i := 0)) sk_nil)) (sa_cons (se_exnK X_InvalidCase hr tk (sk_cons (se_var (i := 0)) sk_nil)) (sa_cons (se_exnK X_TooMany hr tk (sk_cons (se_var (i := 0)) sk_nil)) (sa_cons (se_exnK X_Finished hr tk (sk_cons (se_var (i := 0)) sk_nil)) (sa_cons (se_exnK X_TakenMove hr tk (sk_cons (se_var (i := 0)) sk_nil)) sa_nil))))))))
    (sss_cons (ss_set (i := 1) nd (se_op op_addV mAddV (se_var (i := 1)) (se_lst (sa_cons (se_exnK X_InvalidName hr tk (sk_cons (se_var (i := 0)) sk_nil)) (sa_cons (se_exnK X_WrongKind hr tk (sk_cons (se_var (i := 0)) sk_nil)) (sa_cons (se_exnK X_DuplicateName hr tk (sk_cons (se_var (i := 0)) sk_nil)) (sa_cons (se_exnK X_UnknownName hr tk (sk_cons (se_var (i := 0)) sk_nil)) (sa_cons (se_exnK X_Full hr tk (sk_cons (se_var (i := 0)) sk_nil)) sa_nil))))))))
    (sss_cons (ss_set (i := 1) nd (se_op op_addV mAddV (se_var (i := 1)) (se_lst (sa_cons (se_exnK X_InvalidCommand hr tk (sk_cons (se_var (i := 0)) sk_nil)) (sa_cons (se_exnK X_InvalidPage hr tk (sk_cons (se_var (i := 0)) sk_nil)) sa_nil)))))
    (sss_cons (ss_retF (se_hcall H__law_alike hr tk calls_pu b__law_alike (sa_cons (se_lc (own := [("_law_one", 2)]) rfl nd (si_src (se_var (i := 1))) (blkOk_at (N := N__law_errors_by_name) (sc := defScope s__law_errors_by_name) rfl rfl (by decide +kernel)) rfl (fun _ _ _ _ _ => (sg_name (i := 2) nd)) (fun _ _ _ _ _ => sts_nil) (fun _ _ _ _ _ => (se_hcall H__law_field hr takes0 calls_pu b__law_field (sa_cons (se_var (i := 2)) sa_nil)))) (sa_cons (se_op op_mulV mMulV (se_lst (sa_cons (se_var (i := 0)) sa_nil)) se_int) sa_nil))))
    sss_nil))))))
theorem ok__law_error_classes (Y : Env P w base K mg) : Has P w K mg base 1 "_law_error_classes" "_law_error_classes" s__law_error_classes ["_law_one"] m_law_error_classes := by
  obtain ⟨f, fd, F, hm⟩ := Y.d__law_error_classes
  refine ⟨f, fd, F, hm, def_ok2 (k := 0) F sc__law_error_classes rfl fun cdv A outer s H E hr tk po => ?_⟩
  have nd := sc__law_error_classes.nd
  exact (sss_cons (ss_set (i := 1) nd (se_lst (sa_cons (se_tup (sa_cons se_str (sa_cons (se_isX Y.xc_InvalidSign Y.xi_InvalidSign Y.f_isinstance (se_var (i := 0))) sa_nil))) (sa_cons (se_tup (sa_cons se_str (sa_cons (se_isX Y.xc_InvalidRow Y.xi_InvalidRow Y.f_isinstance (se_var (i := 0))) sa_nil))) (sa_cons (se_tup (sa_cons se_str (sa_cons (se_isX Y.xc_InvalidHand Y.xi_InvalidHand Y.f_isinstance (se_var (i := 0))) sa_nil))) sa_nil)))))
    (sss_cons (ss_set (i := 1) nd (se_op op_addV mAddV (se_var (i := 1)) (se_lst (sa_cons (se_tup (sa_cons se_str (sa_cons (se_isX Y.xc_InvalidState Y.xi_InvalidState Y.f_isinstance (se_var (i := 0))) sa_nil))) (sa_cons (se_tup (sa_cons se_str (sa_cons (se_isX Y.xc_InvalidRule Y.xi_InvalidRule Y.f_isinstance (se_var (i := 0))) sa_nil))) (sa_cons (se_tup (sa_cons se_str (sa_cons (se_isX Y.xc_InvalidCount Y.xi_InvalidCount Y.f_isinstance (se_var (i := 0))) sa_nil))) sa_nil))))))
    (sss_cons (ss_set (i := 1) nd (se_op op_addV mAddV (se_var (i := 1)) (se_lst (sa_cons (se_tup (sa_cons se_str (sa_cons (se_isX Y.xc_InvalidInput Y.xi_InvalidInput Y.f_isinstance (se_var (i := 0))) sa_nil))) (sa_cons (se_tup (sa_cons se_str (sa_cons (se_isX Y.xc_InvalidKnowledge Y.xi_InvalidKnowledge Y.f_isinstance (se_var (i := 0))) sa_nil))) (sa_cons (se_tup (sa_cons se_str (sa_cons (se_isX Y.xc_NotLet Y.xi_NotLet Y.f_isinstance (se_var (i := 0))) sa_nil))) sa_nil))))))
    (sss_cons (ss_set (i := 1) nd (se_op op_addV mAddV (se_var (i := 1)) (se_lst (sa_cons (se_tup (sa_cons se_str (sa_cons (se_isX Y.xc_InvalidLimit Y.xi_InvalidLimit Y.f_isinstance (se_var (i := 0))) sa_nil))) (sa_cons (se_tup (sa_cons se_str (sa_cons (se_isX Y.xc_InvalidStates Y.xi_InvalidStates Y.f_isinstance (se_var (i := 0))) sa_nil))) (sa_cons (se_tup (sa_cons se_str (sa_cons (se_isX Y.xc_InvalidCase Y.xi_InvalidCase Y.f_isinstance (se_var (i := 0))) sa_nil))) sa_nil))))))
    (sss_cons (ss_set (i := 1) nd (se_op op_addV mAddV (se_var (i := 1)) (se_lst (sa_cons (se_tup (sa_cons se_str (sa_cons (se_isX Y.xc_TooMany Y.xi_TooMany Y.f_isinstance (se_var (i := 0))) sa_nil))) (sa_cons (se_tup (sa_cons se_str (sa_cons (se_isX Y.xc_Finished Y.xi_Finished Y.f_isinstance (se_var (i := 0))) sa_nil))) (sa_cons (se_tup (sa_cons se_str (sa_cons (se_isX Y.xc_TakenMove Y.xi_TakenMove Y.f_isinstance (se_var (i := 0))) sa_nil))) sa_nil))))))
    (sss_cons (ss_set (i := 1) nd (se_op op_addV mAddV (se_var (i := 1)) (se_lst (sa_cons (se_tup (sa_cons se_str (sa_cons (se_isX Y.xc_InvalidName Y.xi_InvalidName Y.f_isinstance (se_var (i := 0))) sa_nil))) (sa_cons (se_tup (sa_cons se_str (sa_cons (se_isX Y.xc_WrongKind Y.xi_WrongKind Y.f_isinstance (se_var (i := 0))) sa_nil))) (sa_cons (se_tup (sa_cons se_str (sa_cons (se_isX Y.xc_DuplicateName Y.xi_DuplicateName Y.f_isinstance (se_var (i := 0))) sa_nil))) sa_nil))))))
    (sss_cons (ss_set (i := 1) nd (se_op op_addV mAddV (se_var (i := 1)) (se_lst (sa_cons (se_tup (sa_cons se_str (sa_cons (se_isX Y.xc_UnknownName Y.xi_UnknownName Y.f_isinstance (se_var (i := 0))) sa_nil))) (sa_cons (se_tup (sa_cons se_str (sa_cons (se_isX Y.xc_Full Y.xi_Full Y.f_isinstance (se_var (i := 0))) sa_nil))) (sa_cons (se_tup (sa_cons se_str (sa_cons (se_isX Y.xc_InvalidCommand Y.xi_InvalidCommand Y.f_isinstance (se_var (i := 0))) sa_nil))) sa_nil))))))
    (sss_cons (ss_set (i := 1) nd (se_op op_addV mAddV (se_var (i := 1)) (se_lst (sa_cons (se_tup (sa_cons se_str (sa_cons (se_isX Y.xc_InvalidPage Y.xi_InvalidPage Y.f_isinstance (se_var (i := 0))) sa_nil))) (sa_cons (se_tup (sa_cons se_str (sa_cons (se_isX Y.xc_InvalidTask Y.xi_InvalidTask Y.f_isinstance (se_var (i := 0))) sa_nil))) (sa_cons (se_tup (sa_cons se_str (sa_cons (se_isX Y.xc_InvalidTable Y.xi_InvalidTable Y.f_isinstance (se_var (i := 0))) sa_nil))) sa_nil))))))
    (sss_cons (ss_set (i := 1) nd (se_op op_addV mAddV (se_var (i := 1)) (se_lst (sa_cons (se_tup (sa_cons se_str (sa_cons (se_isX Y.xc_TablesDiffer Y.xi_TablesDiffer Y.f_isinstance (se_var (i := 0))) sa_nil))) (sa_cons (se_tup (sa_cons se_str (sa_cons (se_isX Y.xc_NoRows Y.xi_NoRows Y.f_isinstance (se_var (i := 0))) sa_nil))) (sa_cons (se_tup (sa_cons se_str (sa_cons (se_isX Y.xc_DeadDiffer Y.xi_DeadDiffer Y.f_isinstance (se_var (i := 0))) sa_nil))) sa_nil))))))
    (sss_cons (ss_set (i := 1) nd (se_op op_addV mAddV (se_var (i := 1)) (se_lst (sa_cons (se_tup (sa_cons se_str (sa_cons (se_isX Y.xc_LastMove Y.xi_LastMove Y.f_isinstance (se_var (i := 0))) sa_nil))) (sa_cons (se_tup (sa_cons se_str (sa_cons (se_isX Y.xc_InvalidText Y.xi_InvalidText Y.f_isinstance (se_var (i := 0))) sa_nil))) (sa_cons (se_tup (sa_cons se_str (sa_cons (se_isX Y.xc_NothingLeft Y.xi_NothingLeft Y.f_isinstance (se_var (i := 0))) sa_nil))) sa_nil))))))
    (sss_cons (ss_retF (se_lc (own := [("_law_my_word", 2), ("_law_good", 3)]) rfl nd (si_src (se_var (i := 1))) (blkOk_at (N := N__law_error_classes) (sc := defScope s__law_error_classes) rfl rfl (by decide +kernel)) rfl (fun _ _ _ _ _ => (sg_tup rfl (sgs_cons (sg_name (i := 2) nd) (sgs_cons (sg_name (i := 3) nd) sgs_nil)))) (fun _ _ _ _ _ => (sts_one (st_val (se_var (i := 3))))) (fun _ _ _ _ _ => (se_var (i := 2)))))
    sss_nil)))))))))))
theorem ok_law (Y : Env P w base K mg) : Has P w K mg base 11 "law" "law" s_law ["_law_script"] m_law := by
  have X_DeadDiffer := Y.x_DeadDiffer.up (k := 10 - 1) (by omega)
  have X_DuplicateName := Y.x_DuplicateName.up (k := 10 - 1) (by omega)
  have X_Finished := Y.x_Finished.up (k := 10 - 1) (by omega)
  have X_Full := Y.x_Full.up (k := 10 - 1) (by omega)
  have X_InvalidCase := Y.x_InvalidCase.up (k := 10 - 1) (by omega)
  have X_InvalidCommand := Y.x_InvalidCommand.up (k := 10 - 1) (by omega)
  have X_InvalidCount := Y.x_InvalidCount.up (k := 10 - 1) (by omega)
  have X_InvalidHand := Y.x_InvalidHand.up (k := 10 - 1) (by omega)
  have X_InvalidInput := Y.x_InvalidInput.up (k := 10 - 1) (by omega)
  have X_InvalidKnowledge := Y.x_InvalidKnowledge.up (k := 10 - 1) (by omega)
  have X_InvalidLimit := Y.x_InvalidLimit.up (k := 10 - 1) (by omega)
  have X_InvalidName := Y.x_InvalidName.up (k := 10 - 1) (by omega)
  have X_InvalidPage := Y.x_InvalidPage.up (k := 10 - 1) (by omega)
  have X_InvalidRow := Y.x_InvalidRow.up (k := 10 - 1) (by omega)
  have X_InvalidRule := Y.x_InvalidRule.up (k := 10 - 1) (by omega)
  have X_InvalidSign := Y.x_InvalidSign.up (k := 10 - 1) (by omega)
  have X_InvalidState := Y.x_InvalidState.up (k := 10 - 1) (by omega)
  have X_InvalidStates := Y.x_InvalidStates.up (k := 10 - 1) (by omega)
  have X_InvalidTable := Y.x_InvalidTable.up (k := 10 - 1) (by omega)
  have X_InvalidTask := Y.x_InvalidTask.up (k := 10 - 1) (by omega)
  have X_InvalidText := Y.x_InvalidText.up (k := 10 - 1) (by omega)
  have X_LastMove := Y.x_LastMove.up (k := 10 - 1) (by omega)
  have X_NoRows := Y.x_NoRows.up (k := 10 - 1) (by omega)
  have X_NotLet := Y.x_NotLet.up (k := 10 - 1) (by omega)
  have X_NothingLeft := Y.x_NothingLeft.up (k := 10 - 1) (by omega)
  have X_TablesDiffer := Y.x_TablesDiffer.up (k := 10 - 1) (by omega)
  have X_TakenMove := Y.x_TakenMove.up (k := 10 - 1) (by omega)
  have X_TooMany := Y.x_TooMany.up (k := 10 - 1) (by omega)
  have X_UnknownName := Y.x_UnknownName.up (k := 10 - 1) (by omega)
  have X_WrongKind := Y.x_WrongKind.up (k := 10 - 1) (by omega)
  have H__law_alike := (ok__law_alike (P := P) (w := w) (base := base) Y 8).up (k := 10) (by omega)
  have H__law_bag := (ok__law_bag (P := P) (w := w) (base := base) Y).up (k := 10) (by omega)
  have H__law_error_classes := (ok__law_error_classes (P := P) (w := w) (base := base) Y).up (k := 10) (by omega)
  have H__law_errors_by_name := (ok__law_errors_by_name (P := P) (w := w) (base := base) Y).up (k := 10) (by omega)
  have H__law_field := (ok__law_field (P := P) (w := w) (base := base) Y).up (k := 10) (by omega)
  have H__law_of := (ok__law_of (P := P) (w := w) (base := base) Y).up (k := 10) (by omega)
  obtain ⟨f, fd, F, hm⟩ := Y.d_law
  refine ⟨f, fd, F, hm, def_ok2 (k := 10) F sc_law rfl fun cdv A outer s H E hr tk po => ?_⟩
  have nd := sc_law.nd
  exact (sss_cons (ss_set (i := 1) nd (se_hcall H__law_bag hr tk calls_st b__law_bag (sa_cons (se_var (i := 0)) sa_nil)))
    (sss_cons (ss_set (i := 2) nd (se_hcall H__law_of hr tk calls_st b__law_of (sa_cons (se_var (i := 1)) (sa_cons (se_lst (sa_cons se_int (sa_cons (se_neg se_int) (sa_cons se_str (sa_cons se_non (sa_cons (se_op op_pow mPowV se_int se_int) (sa_cons (se_tup (sa_cons se_int (sa_cons se_int sa_nil))) (sa_cons se_bl (sa_cons (se_lst (sa_cons se_str sa_nil)) sa_nil))))))))) sa_nil))))
    (sss_fz 1 (sss_cons (ss_set (i := 3) nd (se_lst (sa_cons (se_exn1 X_InvalidSign hr tk (se_var (i := 2))) (sa_cons (se_exn1 X_InvalidRow hr tk (se_var (i := 2))) (sa_cons (se_exn1 X_InvalidHand hr tk (se_var (i := 2))) (sa_cons (se_exn1 X_InvalidState hr tk (se_var (i := 2))) (sa_cons (se_exn1 X_InvalidRule hr tk (se_var (i := 2))) (sa_cons (se_exn1 X_InvalidCount hr tk (se_var (i := 2))) sa_nil))))))))
    (sss_cons (ss_set (i := 3) nd (se_op op_addV mAddV (se_var (i := 3)) (se_lst (sa_cons (se_exn1 X_InvalidInput hr tk (se_var (i := 2))) (sa_cons (se_exn1 X_InvalidKnowledge hr tk (se_var (i := 2))) (sa_cons (se_exn1 X_NotLet hr tk (se_var (i := 2))) (sa_cons (se_exn1 X_InvalidLimit hr tk (se_var (i := 2))) (sa_cons (se_exn1 X_InvalidStates hr tk (se_var (i := 2))) (sa_cons (se_exn1 X_InvalidCase hr tk (se_var (i := 2))) sa_nil)))))))))
    (sss_cons (ss_set (i := 3) nd (se_op op_addV mAddV (se_var (i := 3)) (se_lst (sa_cons (se_exn1 X_TooMany hr tk (se_var (i := 2))) (sa_cons (se_exn1 X_Finished hr tk (se_var (i := 2))) (sa_cons (se_exn1 X_TakenMove hr tk (se_var (i := 2))) (sa_cons (se_exn1 X_InvalidName hr tk (se_var (i := 2))) (sa_cons (se_exn1 X_WrongKind hr tk (se_var (i := 2))) (sa_cons (se_exn1 X_DuplicateName hr tk (se_var (i := 2))) (sa_cons (se_exn1 X_UnknownName hr tk (se_var (i := 2))) sa_nil))))))))))
    (sss_cons (ss_set (i := 3) nd (se_op op_addV mAddV (se_var (i := 3)) (se_lst (sa_cons (se_exn1 X_Full hr tk (se_var (i := 2))) (sa_cons (se_exn1 X_InvalidCommand hr tk (se_var (i := 2))) (sa_cons (se_exn1 X_InvalidPage hr tk (se_var (i := 2))) sa_nil))))))
    (sss_cons (ss_set (i := 4) nd (se_lst (sa_cons (se_exn0 X_InvalidTask hr tk) (sa_cons (se_exn0 X_InvalidTable hr tk) (sa_cons (se_exn0 X_TablesDiffer hr tk) (sa_cons (se_exn0 X_NoRows hr tk) (sa_cons (se_exn0 X_DeadDiffer hr tk) (sa_cons (se_exn0 X_LastMove hr tk) (sa_cons (se_exn0 X_InvalidText hr tk) (sa_cons (se_exn0 X_NothingLeft hr tk) sa_nil))))))))))
    (sss_cons (ss_if (st_not (st_val (se_hcall H__law_alike hr tk calls_pu b__law_alike (sa_cons (se_lc (own := [("_law_one", 6)]) rfl nd (si_src (se_var (i := 3))) (blkOk_at (N := N_law) (sc := defScope s_law) rfl rfl (by decide +kernel)) rfl (fun _ _ _ _ _ => (sg_name (i := 6) nd)) (fun _ _ _ _ _ => sts_nil) (fun _ _ _ _ _ => (se_hcall H__law_field hr takes0 calls_pu b__law_field (sa_cons (se_var (i := 6)) sa_nil)))) (sa_cons (se_op op_mulV mMulV (se_lst (sa_cons (se_var (i := 2)) sa_nil)) (se_callB call_lenAll mLen Y.f_len (sa_cons (se_var (i := 3)) sa_nil))) sa_nil))))) (sss_cons (ss_retF se_bl)
    sss_nil) sss_nil)
    (sss_cons (ss_set (i := 5) nd (se_lst (sa_cons se_str (sa_cons se_str (sa_cons se_str (sa_cons se_str (sa_cons se_str (sa_cons se_str (sa_cons se_str (sa_cons se_str (sa_cons se_str sa_nil)))))))))))
    (sss_cons (ss_set (i := 5) nd (se_op op_addV mAddV (se_var (i := 5)) (se_lst (sa_cons se_str (sa_cons se_str (sa_cons se_str (sa_cons se_str (sa_cons se_str (sa_cons se_str (sa_cons se_str (sa_cons se_str (sa_cons se_str sa_nil))))))))))))
    (sss_cons (ss_set (i := 5) nd (se_op op_addV mAddV (se_var (i := 5)) (se_lst (sa_cons se_str (sa_cons se_str (sa_cons se_str (sa_cons se_str (sa_cons se_str (sa_cons se_str (sa_cons se_str (sa_cons se_str (sa_cons se_str sa_nil))))))))))))
    (sss_cons (ss_if (st_cmp (op_neA hr.units) mNeV blNe (se_lc (own := [("_law_one", 6)]) rfl nd (si_src (se_op op_addV mAddV (se_var (i := 3)) (se_var (i := 4)))) (blkOk_at (N := N_law) (sc := defScope s_law) rfl rfl (by decide +kernel)) rfl (fun _ _ _ _ _ => (sg_name (i := 6) nd)) (fun _ _ _ _ _ => sts_nil) (fun _ _ _ _ _ => (se_fldX Y.xf_tag (se_var (i := 6))))) (se_op op_addV mAddV (se_var (i := 5)) (se_lst (sa_cons se_str (sa_cons se_str (sa_cons se_str sa_nil))))) (nomark _)) (sss_cons (ss_retF se_bl)
    sss_nil) sss_nil)
    (sss_cons (ss_for po rfl (si_src (se_op op_addV mAddV (se_var (i := 3)) (se_var (i := 4)))) (sg_name (i := 6) nd) (sss_cons (ss_set (i := 7) nd (se_cmp (op_notinV (hu65 hr)) mInV (se_fldX Y.xf_tag (se_var (i := 6))) (se_lst (sa_cons se_str (sa_cons se_str sa_nil))) (by with_unfolding_all rfl)))
    (sss_cons (ss_set (i := 8) nd (se_lst (sa_cons (se_isX Y.xc_PostError Y.xi_PostError Y.f_isinstance (se_var (i := 6))) (sa_cons (se_isXB Y.xi_ValueError Y.f_isinstance Y.f_ValueError (se_var (i := 6))) (sa_cons (se_isX Y.xc_Missing Y.xi_Missing Y.f_isinstance (se_var (i := 6))) (sa_cons (se_isXB Y.xi_LookupError Y.f_isinstance Y.f_LookupError (se_var (i := 6))) (sa_cons (se_isXB Y.xi_IndexError Y.f_isinstance Y.f_IndexError (se_var (i := 6))) sa_nil)))))))
    (sss_cons (ss_if (st_cmp (op_neA hr.units) mNeV blNe (se_var (i := 8)) (se_lst (sa_cons (se_var (i := 7)) (sa_cons (se_var (i := 7)) (sa_cons (se_cmp (op_eqA hr.units) mEqV (se_fldX Y.xf_tag (se_var (i := 6))) se_str (nomark _)) (sa_cons (se_not (se_var (i := 7))) (sa_cons (se_cmp (op_eqA hr.units) mEqV (se_fldX Y.xf_tag (se_var (i := 6))) se_str (nomark _)) sa_nil)))))) (nomark _)) (sss_cons (ss_retF se_bl)
    sss_nil) sss_nil)
    (sss_cons (ss_if (st_cmp (op_neA hr.units) mNeV blNe (se_hcall H__law_error_classes hr tk calls_pu b__law_error_classes (sa_cons (se_var (i := 6)) sa_nil)) (se_lst (sa_cons (se_fldX Y.xf_tag (se_var (i := 6))) sa_nil)) (nomark _)) (sss_cons (ss_retF se_bl)
    sss_nil) sss_nil)
    sss_nil)))))
    (sss_cons (ss_retF (se_hcall H__law_errors_by_name hr tk calls_pu b__law_errors_by_name (sa_cons (se_var (i := 2)) sa_nil)))
    sss_nil)))))))))))))))
end
end L_k63
end part_W63
section part_P63
set_option maxRecDepth 100000
set_option maxHeartbeats 4000000
/-! the plain law of k63 -/
namespace L_k63
open PySem PySem.Spec PyProof.Rows L2 Mi
def rest : MS := (mSq (mSet 3 (mA fLst (aCons (mA (fExn1 "InvalidSign" "InvalidSign" "given") (aCons (mVar 2) aNil)) (aCons (mA (fExn1 "InvalidRow" "InvalidRow" "given") (aCons (mVar 2) aNil)) (aCons (mA (fExn1 "InvalidHand" "InvalidHand" "given") (aCons (mVar 2) aNil)) (aCons (mA (fExn1 "InvalidState" "InvalidState" "given") (aCons (mVar 2) aNil)) (aCons (mA (fExn1 "InvalidRule" "InvalidRule" "given") (aCons (mVar 2) aNil)) (aCons (mA (fExn1 "InvalidCount" "InvalidCount" "given") (aCons (mVar 2) aNil)) aNil))))))))
    (mSq (mSet 3 (m2 fAdd (mVar 3) (mA fLst (aCons (mA (fExn1 "InvalidInput" "InvalidInput" "given") (aCons (mVar 2) aNil)) (aCons (mA (fExn1 "InvalidKnowledge" "InvalidKnowledge" "given") (aCons (mVar 2) aNil)) (aCons (mA (fExn1 "NotLet" "NotLet" "given") (aCons (mVar 2) aNil)) (aCons (mA (fExn1 "InvalidLimit" "InvalidLimit" "given") (aCons (mVar 2) aNil)) (aCons (mA (fExn1 "InvalidStates" "InvalidStates" "index") (aCons (mVar 2) aNil)) (aCons (mA (fExn1 "InvalidCase" "InvalidCase" "index") (aCons (mVar 2) aNil)) aNil)))))))))
    (mSq (mSet 3 (m2 fAdd (mVar 3) (mA fLst (aCons (mA (fExn1 "TooMany" "TooMany" "most") (aCons (mVar 2) aNil)) (aCons (mA (fExn1 "Finished" "Finished" "most") (aCons (mVar 2) aNil)) (aCons (mA (fExn1 "TakenMove" "TakenMove" "sign") (aCons (mVar 2) aNil)) (aCons (mA (fExn1 "InvalidName" "InvalidName" "name") (aCons (mVar 2) aNil)) (aCons (mA (fExn1 "WrongKind" "WrongKind" "name") (aCons (mVar 2) aNil)) (aCons (mA (fExn1 "DuplicateName" "DuplicateName" "name") (aCons (mVar 2) aNil)) (aCons (mA (fExn1 "UnknownName" "UnknownName" "name") (aCons (mVar 2) aNil)) aNil))))))))))
    (mSq (mSet 3 (m2 fAdd (mVar 3) (mA fLst (aCons (mA (fExn1 "Full" "Full" "limit") (aCons (mVar 2) aNil)) (aCons (mA (fExn1 "InvalidCommand" "InvalidCommand" "word") (aCons (mVar 2) aNil)) (aCons (mA (fExn1 "InvalidPage" "InvalidPage" "line") (aCons (mVar 2) aNil)) aNil))))))
    (mSq (mSet 4 (mA fLst (aCons (mA (fExn0 "InvalidTask" "InvalidTask") aNil) (aCons (mA (fExn0 "InvalidTable" "InvalidTable") aNil) (aCons (mA (fExn0 "TablesDiffer" "TablesDiffer") aNil) (aCons (mA (fExn0 "NoRows" "NoRows") aNil) (aCons (mA (fExn0 "DeadDiffer" "DeadDiffer") aNil) (aCons (mA (fExn0 "LastMove" "LastMove") aNil) (aCons (mA (fExn0 "InvalidText" "InvalidText") aNil) (aCons (mA (fExn0 "NothingLeft" "NothingLeft") aNil) aNil))))))))))
    (mSq (mIfS (mNot (mTru (mA (fP 2 (m_law_alike 8)) (aCons (mLc (mSrc (mVar 3)) (gN 6) (mC (.bl true)) (mA (fP 1 m_law_field) (aCons (mVar 6) aNil)) [6]) (aCons (m2 fMul (mA fLst (aCons (mVar 2) aNil)) (mA fLen (aCons (mVar 3) aNil))) aNil))))) (mSq (mRetF (mC (.bl false)))
    mNx) mNx)
    (mSq (mSet 5 (mA fLst (aCons (mC (.str "InvalidSign")) (aCons (mC (.str "InvalidRow")) (aCons (mC (.str "InvalidHand")) (aCons (mC (.str "InvalidState")) (aCons (mC (.str "InvalidRule")) (aCons (mC (.str "InvalidCount")) (aCons (mC (.str "InvalidInput")) (aCons (mC (.str "InvalidKnowledge")) (aCons (mC (.str "NotLet")) aNil)))))))))))
    (mSq (mSet 5 (m2 fAdd (mVar 5) (mA fLst (aCons (mC (.str "InvalidLimit")) (aCons (mC (.str "InvalidStates")) (aCons (mC (.str "InvalidCase")) (aCons (mC (.str "TooMany")) (aCons (mC (.str "Finished")) (aCons (mC (.str "TakenMove")) (aCons (mC (.str "InvalidName")) (aCons (mC (.str "WrongKind")) (aCons (mC (.str "DuplicateName")) aNil))))))))))))
    (mSq (mSet 5 (m2 fAdd (mVar 5) (mA fLst (aCons (mC (.str "UnknownName")) (aCons (mC (.str "Full")) (aCons (mC (.str "InvalidCommand")) (aCons (mC (.str "InvalidPage")) (aCons (mC (.str "InvalidTask")) (aCons (mC (.str "InvalidTable")) (aCons (mC (.str "TablesDiffer")) (aCons (mC (.str "NoRows")) (aCons (mC (.str "DeadDiffer")) aNil))))))))))))
    (mSq (mIfS (m2 fNe (mLc (mSrc (m2 fAdd (mVar 3) (mVar 4))) (gN 6) (mC (.bl true)) (m1 (fFldX xs_tag "tag") (mVar 6)) [6]) (m2 fAdd (mVar 5) (mA fLst (aCons (mC (.str "LastMove")) (aCons (mC (.str "InvalidText")) (aCons (mC (.str "NothingLeft")) aNil)))))) (mSq (mRetF (mC (.bl false)))
    mNx) mNx)
    (mSq (mFor (mSrc (m2 fAdd (mVar 3) (mVar 4))) (gN 6) (mSq (mSet 7 (m2 (fIn true) (m1 (fFldX xs_tag "tag") (mVar 6)) (mA fLst (aCons (mC (.str "UnknownName")) (aCons (mC (.str "NothingLeft")) aNil)))))
    (mSq (mSet 8 (mA fLst (aCons (m1 (fIsX tx_PostError) (mVar 6)) (aCons (m1 (fIsX tx_ValueError) (mVar 6)) (aCons (m1 (fIsX tx_Missing) (mVar 6)) (aCons (m1 (fIsX tx_LookupError) (mVar 6)) (aCons (m1 (fIsX tx_IndexError) (mVar 6)) aNil)))))))
    (mSq (mIfS (m2 fNe (mVar 8) (mA fLst (aCons (mVar 7) (aCons (mVar 7) (aCons (m2 fEq (m1 (fFldX xs_tag "tag") (mVar 6)) (mC (.str "UnknownName"))) (aCons (mNotV (mVar 7)) (aCons (m2 fEq (m1 (fFldX xs_tag "tag") (mVar 6)) (mC (.str "NothingLeft"))) aNil))))))) (mSq (mRetF (mC (.bl false)))
    mNx) mNx)
    (mSq (mIfS (m2 fNe (mA (fP 1 m_law_error_classes) (aCons (mVar 6) aNil)) (mA fLst (aCons (m1 (fFldX xs_tag "tag") (mVar 6)) aNil))) (mSq (mRetF (mC (.bl false)))
    mNx) mNx)
    mNx)))))
    (mSq (mRetF (mA (fP 1 m_law_errors_by_name) (aCons (mVar 2) aNil)))
    mNx))))))))))))
def vals : List T := [.int 0, .int (-1), .str "near", .non, .int 100000000, .tup [.int 1, .int 2], .bl true, .lst [.str "x"]]
theorem rest0 (a b : Option T) (h : MH) : rest [a, b, some (.int 0), none, none, none, none, none, none] h = .rt (.bl true) h := by kernel_rfl
theorem rest1 (a b : Option T) (h : MH) : rest [a, b, some (.int (-1)), none, none, none, none, none, none] h = .rt (.bl true) h := by kernel_rfl
theorem rest2 (a b : Option T) (h : MH) : rest [a, b, some (.str "near"), none, none, none, none, none, none] h = .rt (.bl true) h := by kernel_rfl
theorem rest3 (a b : Option T) (h : MH) : rest [a, b, some .non, none, none, none, none, none, none] h = .rt (.bl true) h := by kernel_rfl
theorem rest4 (a b : Option T) (h : MH) : rest [a, b, some (.int 100000000), none, none, none, none, none, none] h = .rt (.bl true) h := by kernel_rfl
theorem rest5 (a b : Option T) (h : MH) : rest [a, b, some (.tup [.int 1, .int 2]), none, none, none, none, none, none] h = .rt (.bl true) h := by kernel_rfl
theorem rest6 (a b : Option T) (h : MH) : rest [a, b, some (.bl true), none, none, none, none, none, none] h = .rt (.bl true) h := by kernel_rfl
theorem rest7 (a b : Option T) (h : MH) : rest [a, b, some (.lst [.str "x"]), none, none, none, none, none, none] h = .rt (.bl true) h := by kernel_rfl
theorem rest_ok (a b : Option T) (h : MH) (x : T) (hx : x ∈ vals) : rest [a, b, some x, none, none, none, none, none, none] h = .rt (.bl true) h := by
  simp only [vals, List.mem_cons, List.not_mem_nil, or_false] at hx
  rcases hx with rfl | rfl | rfl | rfl | rfl | rfl | rfl | rfl
  · exact rest0 a b h
  · exact rest1 a b h
  · exact rest2 a b h
  · exact rest3 a b h
  · exact rest4 a b h
  · exact rest5 a b h
  · exact rest6 a b h
  · exact rest7 a b h
def lst : ME := (mA fLst (aCons (mC (.int 0)) (aCons (m1 fNeg (mC (.int 1))) (aCons (mC (.str "near")) (aCons (mC .non) (aCons (m2 fPow (mC (.int 10)) (mC (.int 8))) (aCons (mA fTup (aCons (mC (.int 1)) (aCons (mC (.int 2)) aNil))) (aCons (mC (.bl true)) (aCons (mA fLst (aCons (mC (.str "x")) aNil)) aNil)))))))))
theorem m_law_eq : m_law = mDef 9 (mSq (mSet 1 (mA (fS 1 m_law_bag) (aCons (mVar 0) aNil))) (mSq (mSet 2 (mA (fS 2 m_law_of) (aCons (mVar 1) (aCons lst aNil)))) (mFz 1 rest))) := rfl
theorem lV (s : SM) (h : MH) : lst s h = .ok (.lst vals) h := by kernel_rfl
theorem pure_law (ns : List Int) (h : ns.length ≤ 63) : ∃ h', m_law [.frl (ns.map T.int)] [] = .ok (.bl true) h' := by
  obtain ⟨o, b1, B1⟩ := bag_ok ns []
  have b1' : (fS 1 m_law_bag) [.frl (ns.map T.int)] [] = .ok (.ref 0) [o] := b1
  have B1' : Bag [o] 0 := B1
  obtain ⟨x, h2, d2, hx, B2, K2⟩ := of_lst (xs := vals) B1' (by simp [vals]) (by simp [vals]) rfl
  have d2' : (fS 2 m_law_of) [.ref 0, .lst vals] [o] = .ok x h2 := d2
  refine ⟨(fzT (.ref 0) h2).2, ?_⟩
  rw [m_law_eq]
  simp only [mi, ms, Nat.reduceAdd, Nat.reduceSub, b1', lV, d2']
  unfold mFz
  simp only [ms]
  rw [rest_ok _ _ _ x hx]
end L_k63
end part_P63
section part_H63
set_option maxRecDepth 100000
set_option maxHeartbeats 0
namespace L_k63
open PySem PySem.Spec PyProof.Rows L2 Mi
def names0 : List Str := ["PostError", "Missing", "InvalidSign", "InvalidRow", "InvalidHand", "InvalidStates", "InvalidState", "InvalidRule", "InvalidTask", "InvalidCase", "InvalidCount", "InvalidTable", "TablesDiffer", "InvalidInput", "InvalidKnowledge", "NotLet", "Finished", "NoRows", "DeadDiffer", "TooMany"]
def names1 : List Str := ["TakenMove", "LastMove", "InvalidText", "InvalidName", "WrongKind", "DuplicateName", "Full", "InvalidLimit", "InvalidCommand", "InvalidPage", "UnknownName", "NothingLeft", "_law_bag", "_law_draw", "_law_of", "_law_alike", "_law_field", "_law_error_classes", "_law_errors_by_name"]
def names : List Str := names0 ++ names1
def d__law_bag : He.DefD := ⟨("_law_bag", none), "_law_bag", "_law_bag", defArgs s__law_bag, defBody s__law_bag, defScope s__law_bag, [], []⟩
def d__law_draw : He.DefD := ⟨("_law_draw", none), "_law_draw", "_law_draw", defArgs s__law_draw, defBody s__law_draw, defScope s__law_draw, [], []⟩
def d__law_of : He.DefD := ⟨("_law_of", none), "_law_of", "_law_of", defArgs s__law_of, defBody s__law_of, defScope s__law_of, [], []⟩
def d__law_alike : He.DefD := ⟨("_law_alike", none), "_law_alike", "_law_alike", defArgs s__law_alike, defBody s__law_alike, defScope s__law_alike, [], []⟩
def d__law_field : He.DefD := ⟨("_law_field", none), "_law_field", "_law_field", defArgs s__law_field, defBody s__law_field, defScope s__law_field, [], []⟩
def d__law_errors_by_name : He.DefD := ⟨("_law_errors_by_name", none), "_law_errors_by_name", "_law_errors_by_name", defArgs s__law_errors_by_name, defBody s__law_errors_by_name, defScope s__law_errors_by_name, [], []⟩
def d__law_error_classes : He.DefD := ⟨("_law_error_classes", none), "_law_error_classes", "_law_error_classes", defArgs s__law_error_classes, defBody s__law_error_classes, defScope s__law_error_classes, [], []⟩
def d_law : He.DefD := ⟨("law", none), "law", "law", defArgs s_law, defBody s_law, defScope s_law, [], []⟩
def fn0 : List He.DefD := [d__law_bag, d__law_draw, d__law_of, d__law_alike, d__law_field, d__law_errors_by_name, d__law_error_classes, d_law]
def fn : List He.DefD := fn0
def fa0 : List He.Fa := [.glo "_law_bag", .glo "_law_draw", .glo "_law_of", .glo "_law_alike", .glo "_law_field", .glo "_law_errors_by_name", .glo "_law_error_classes", .glo "law", .free "IndexError", .free "LookupError", .free "ValueError", .free "all", .free "bool", .free "int", .free "isinstance"]
def fa1 : List He.Fa := [.free "len", .free "list", .free "str", .free "tuple", .free "zip", .glo "DeadDiffer", .glo "DuplicateName", .glo "Finished", .glo "Full", .glo "InvalidCase", .glo "InvalidCommand", .glo "InvalidCount", .glo "InvalidHand", .glo "InvalidInput", .glo "InvalidKnowledge"]
def fa2 : List He.Fa := [.glo "InvalidLimit", .glo "InvalidName", .glo "InvalidPage", .glo "InvalidRow", .glo "InvalidRule", .glo "InvalidSign", .glo "InvalidState", .glo "InvalidStates", .glo "InvalidTable", .glo "InvalidTask", .glo "InvalidText", .glo "LastMove", .glo "Missing", .glo "NoRows", .glo "NotLet"]
def fa3 : List He.Fa := [.glo "NothingLeft", .glo "PostError", .glo "TablesDiffer", .glo "TakenMove", .glo "TooMany", .glo "UnknownName", .glo "WrongKind"]
def fa : List He.Fa := fa0 ++ fa1 ++ fa2 ++ fa3
def e_DeadDiffer : He.DefD := ⟨("DeadDiffer", some ini), "__init__", "DeadDiffer.__init__", defArgs si_DeadDiffer, defBody si_DeadDiffer, defScope si_DeadDiffer, [], []⟩
def e_DuplicateName : He.DefD := ⟨("DuplicateName", some ini), "__init__", "DuplicateName.__init__", defArgs si_DuplicateName, defBody si_DuplicateName, defScope si_DuplicateName, [], []⟩
def e_Finished : He.DefD := ⟨("Finished", some ini), "__init__", "Finished.__init__", defArgs si_Finished, defBody si_Finished, defScope si_Finished, [], []⟩
def e_Full : He.DefD := ⟨("Full", some ini), "__init__", "Full.__init__", defArgs si_Full, defBody si_Full, defScope si_Full, [], []⟩
def e_InvalidCase : He.DefD := ⟨("InvalidCase", some ini), "__init__", "InvalidCase.__init__", defArgs si_InvalidCase, defBody si_InvalidCase, defScope si_InvalidCase, [], []⟩
def e_InvalidCommand : He.DefD := ⟨("InvalidCommand", some ini), "__init__", "InvalidCommand.__init__", defArgs si_InvalidCommand, defBody si_InvalidCommand, defScope si_InvalidCommand, [], []⟩
def e_InvalidCount : He.DefD := ⟨("InvalidCount", some ini), "__init__", "InvalidCount.__init__", defArgs si_InvalidCount, defBody si_InvalidCount, defScope si_InvalidCount, [], []⟩
def e_InvalidHand : He.DefD := ⟨("InvalidHand", some ini), "__init__", "InvalidHand.__init__", defArgs si_InvalidHand, defBody si_InvalidHand, defScope si_InvalidHand, [], []⟩
def e_InvalidInput : He.DefD := ⟨("InvalidInput", some ini), "__init__", "InvalidInput.__init__", defArgs si_InvalidInput, defBody si_InvalidInput, defScope si_InvalidInput, [], []⟩
def e_InvalidKnowledge : He.DefD := ⟨("InvalidKnowledge", some ini), "__init__", "InvalidKnowledge.__init__", defArgs si_InvalidKnowledge, defBody si_InvalidKnowledge, defScope si_InvalidKnowledge, [], []⟩
def e_InvalidLimit : He.DefD := ⟨("InvalidLimit", some ini), "__init__", "InvalidLimit.__init__", defArgs si_InvalidLimit, defBody si_InvalidLimit, defScope si_InvalidLimit, [], []⟩
def e_InvalidName : He.DefD := ⟨("InvalidName", some ini), "__init__", "InvalidName.__init__", defArgs si_InvalidName, defBody si_InvalidName, defScope si_InvalidName, [], []⟩
def e_InvalidPage : He.DefD := ⟨("InvalidPage", some ini), "__init__", "InvalidPage.__init__", defArgs si_InvalidPage, defBody si_InvalidPage, defScope si_InvalidPage, [], []⟩
def e_InvalidRow : He.DefD := ⟨("InvalidRow", some ini), "__init__", "InvalidRow.__init__", defArgs si_InvalidRow, defBody si_InvalidRow, defScope si_InvalidRow, [], []⟩
def e_InvalidRule : He.DefD := ⟨("InvalidRule", some ini), "__init__", "InvalidRule.__init__", defArgs si_InvalidRule, defBody si_InvalidRule, defScope si_InvalidRule, [], []⟩
def e_InvalidSign : He.DefD := ⟨("InvalidSign", some ini), "__init__", "InvalidSign.__init__", defArgs si_InvalidSign, defBody si_InvalidSign, defScope si_InvalidSign, [], []⟩
def e_InvalidState : He.DefD := ⟨("InvalidState", some ini), "__init__", "InvalidState.__init__", defArgs si_InvalidState, defBody si_InvalidState, defScope si_InvalidState, [], []⟩
def e_InvalidStates : He.DefD := ⟨("InvalidStates", some ini), "__init__", "InvalidStates.__init__", defArgs si_InvalidStates, defBody si_InvalidStates, defScope si_InvalidStates, [], []⟩
def e_InvalidTable : He.DefD := ⟨("InvalidTable", some ini), "__init__", "InvalidTable.__init__", defArgs si_InvalidTable, defBody si_InvalidTable, defScope si_InvalidTable, [], []⟩
def e_InvalidTask : He.DefD := ⟨("InvalidTask", some ini), "__init__", "InvalidTask.__init__", defArgs si_InvalidTask, defBody si_InvalidTask, defScope si_InvalidTask, [], []⟩
def e_InvalidText : He.DefD := ⟨("InvalidText", some ini), "__init__", "InvalidText.__init__", defArgs si_InvalidText, defBody si_InvalidText, defScope si_InvalidText, [], []⟩
def e_LastMove : He.DefD := ⟨("LastMove", some ini), "__init__", "LastMove.__init__", defArgs si_LastMove, defBody si_LastMove, defScope si_LastMove, [], []⟩
def e_NoRows : He.DefD := ⟨("NoRows", some ini), "__init__", "NoRows.__init__", defArgs si_NoRows, defBody si_NoRows, defScope si_NoRows, [], []⟩
def e_NotLet : He.DefD := ⟨("NotLet", some ini), "__init__", "NotLet.__init__", defArgs si_NotLet, defBody si_NotLet, defScope si_NotLet, [], []⟩
def e_NothingLeft : He.DefD := ⟨("NothingLeft", some ini), "__init__", "NothingLeft.__init__", defArgs si_NothingLeft, defBody si_NothingLeft, defScope si_NothingLeft, [], []⟩
def e_TablesDiffer : He.DefD := ⟨("TablesDiffer", some ini), "__init__", "TablesDiffer.__init__", defArgs si_TablesDiffer, defBody si_TablesDiffer, defScope si_TablesDiffer, [], []⟩
def e_TakenMove : He.DefD := ⟨("TakenMove", some ini), "__init__", "TakenMove.__init__", defArgs si_TakenMove, defBody si_TakenMove, defScope si_TakenMove, [], []⟩
def e_TooMany : He.DefD := ⟨("TooMany", some ini), "__init__", "TooMany.__init__", defArgs si_TooMany, defBody si_TooMany, defScope si_TooMany, [], []⟩
def e_UnknownName : He.DefD := ⟨("UnknownName", some ini), "__init__", "UnknownName.__init__", defArgs si_UnknownName, defBody si_UnknownName, defScope si_UnknownName, [], []⟩
def e_WrongKind : He.DefD := ⟨("WrongKind", some ini), "__init__", "WrongKind.__init__", defArgs si_WrongKind, defBody si_WrongKind, defScope si_WrongKind, [], []⟩
def sf0 : List He.DefD := [e_DeadDiffer, e_DuplicateName, e_Finished, e_Full, e_InvalidCase, e_InvalidCommand, e_InvalidCount, e_InvalidHand, e_InvalidInput, e_InvalidKnowledge, e_InvalidLimit, e_InvalidName, e_InvalidPage, e_InvalidRow, e_InvalidRule]
def sf1 : List He.DefD := [e_InvalidSign, e_InvalidState, e_InvalidStates, e_InvalidTable, e_InvalidTask, e_InvalidText, e_LastMove, e_NoRows, e_NotLet, e_NothingLeft, e_TablesDiffer, e_TakenMove, e_TooMany, e_UnknownName, e_WrongKind]
def sf : List He.DefD := sf0 ++ sf1
abbrev pfile : Str := PySem.Challenge.pw_hushaccord_k63_errors_apart.main.file
def ex0 (K : PySem.W.Frag) : Bool := exnB K pfile "DeadDiffer" "ValueError" "ValueError.__new__" "ValueError.__init__" [.type "ValueError", .type "Exception", .type "BaseException", .type "object"] ["tag"]
def ex1 (K : PySem.W.Frag) : Bool := exnB K pfile "DuplicateName" "ValueError" "ValueError.__new__" "ValueError.__init__" [.type "ValueError", .type "Exception", .type "BaseException", .type "object"] ["tag", "name"]
def ex2 (K : PySem.W.Frag) : Bool := exnB K pfile "Finished" "ValueError" "ValueError.__new__" "ValueError.__init__" [.type "ValueError", .type "Exception", .type "BaseException", .type "object"] ["tag", "most"]
def ex3 (K : PySem.W.Frag) : Bool := exnB K pfile "Full" "ValueError" "ValueError.__new__" "ValueError.__init__" [.type "ValueError", .type "Exception", .type "BaseException", .type "object"] ["tag", "limit"]
def ex4 (K : PySem.W.Frag) : Bool := exnB K pfile "InvalidCase" "ValueError" "ValueError.__new__" "ValueError.__init__" [.type "ValueError", .type "Exception", .type "BaseException", .type "object"] ["tag", "index"]
def ex5 (K : PySem.W.Frag) : Bool := exnB K pfile "InvalidCommand" "ValueError" "ValueError.__new__" "ValueError.__init__" [.type "ValueError", .type "Exception", .type "BaseException", .type "object"] ["tag", "word"]
def ex6 (K : PySem.W.Frag) : Bool := exnB K pfile "InvalidCount" "ValueError" "ValueError.__new__" "ValueError.__init__" [.type "ValueError", .type "Exception", .type "BaseException", .type "object"] ["tag", "given"]
def ex7 (K : PySem.W.Frag) : Bool := exnB K pfile "InvalidHand" "ValueError" "ValueError.__new__" "ValueError.__init__" [.type "ValueError", .type "Exception", .type "BaseException", .type "object"] ["tag", "given"]
def ex8 (K : PySem.W.Frag) : Bool := exnB K pfile "InvalidInput" "ValueError" "ValueError.__new__" "ValueError.__init__" [.type "ValueError", .type "Exception", .type "BaseException", .type "object"] ["tag", "given"]
def ex9 (K : PySem.W.Frag) : Bool := exnB K pfile "InvalidKnowledge" "ValueError" "ValueError.__new__" "ValueError.__init__" [.type "ValueError", .type "Exception", .type "BaseException", .type "object"] ["tag", "given"]
def ex10 (K : PySem.W.Frag) : Bool := exnB K pfile "InvalidLimit" "ValueError" "ValueError.__new__" "ValueError.__init__" [.type "ValueError", .type "Exception", .type "BaseException", .type "object"] ["tag", "given"]
def ex11 (K : PySem.W.Frag) : Bool := exnB K pfile "InvalidName" "ValueError" "ValueError.__new__" "ValueError.__init__" [.type "ValueError", .type "Exception", .type "BaseException", .type "object"] ["tag", "name"]
def ex12 (K : PySem.W.Frag) : Bool := exnB K pfile "InvalidPage" "ValueError" "ValueError.__new__" "ValueError.__init__" [.type "ValueError", .type "Exception", .type "BaseException", .type "object"] ["tag", "line"]
def ex13 (K : PySem.W.Frag) : Bool := exnB K pfile "InvalidRow" "ValueError" "ValueError.__new__" "ValueError.__init__" [.type "ValueError", .type "Exception", .type "BaseException", .type "object"] ["tag", "given"]
def ex14 (K : PySem.W.Frag) : Bool := exnB K pfile "InvalidRule" "ValueError" "ValueError.__new__" "ValueError.__init__" [.type "ValueError", .type "Exception", .type "BaseException", .type "object"] ["tag", "given"]
def ex15 (K : PySem.W.Frag) : Bool := exnB K pfile "InvalidSign" "ValueError" "ValueError.__new__" "ValueError.__init__" [.type "ValueError", .type "Exception", .type "BaseException", .type "object"] ["tag", "given"]
def ex16 (K : PySem.W.Frag) : Bool := exnB K pfile "InvalidState" "ValueError" "ValueError.__new__" "ValueError.__init__" [.type "ValueError", .type "Exception", .type "BaseException", .type "object"] ["tag", "given"]
def ex17 (K : PySem.W.Frag) : Bool := exnB K pfile "InvalidStates" "ValueError" "ValueError.__new__" "ValueError.__init__" [.type "ValueError", .type "Exception", .type "BaseException", .type "object"] ["tag", "index"]
def ex18 (K : PySem.W.Frag) : Bool := exnB K pfile "InvalidTable" "ValueError" "ValueError.__new__" "ValueError.__init__" [.type "ValueError", .type "Exception", .type "BaseException", .type "object"] ["tag"]
def ex19 (K : PySem.W.Frag) : Bool := exnB K pfile "InvalidTask" "ValueError" "ValueError.__new__" "ValueError.__init__" [.type "ValueError", .type "Exception", .type "BaseException", .type "object"] ["tag"]
def ex20 (K : PySem.W.Frag) : Bool := exnB K pfile "InvalidText" "ValueError" "ValueError.__new__" "ValueError.__init__" [.type "ValueError", .type "Exception", .type "BaseException", .type "object"] ["tag"]
def ex21 (K : PySem.W.Frag) : Bool := exnB K pfile "LastMove" "ValueError" "ValueError.__new__" "ValueError.__init__" [.type "ValueError", .type "Exception", .type "BaseException", .type "object"] ["tag"]
def ex22 (K : PySem.W.Frag) : Bool := exnB K pfile "NoRows" "ValueError" "ValueError.__new__" "ValueError.__init__" [.type "ValueError", .type "Exception", .type "BaseException", .type "object"] ["tag"]
def ex23 (K : PySem.W.Frag) : Bool := exnB K pfile "NotLet" "ValueError" "ValueError.__new__" "ValueError.__init__" [.type "ValueError", .type "Exception", .type "BaseException", .type "object"] ["tag", "given"]
def ex24 (K : PySem.W.Frag) : Bool := exnB K pfile "NothingLeft" "IndexError" "IndexError.__new__" "IndexError.__init__" [.type "IndexError", .type "LookupError", .type "Exception", .type "BaseException", .type "object"] ["tag"]
def ex25 (K : PySem.W.Frag) : Bool := exnB K pfile "TablesDiffer" "ValueError" "ValueError.__new__" "ValueError.__init__" [.type "ValueError", .type "Exception", .type "BaseException", .type "object"] ["tag"]
def ex26 (K : PySem.W.Frag) : Bool := exnB K pfile "TakenMove" "ValueError" "ValueError.__new__" "ValueError.__init__" [.type "ValueError", .type "Exception", .type "BaseException", .type "object"] ["tag", "sign"]
def ex27 (K : PySem.W.Frag) : Bool := exnB K pfile "TooMany" "ValueError" "ValueError.__new__" "ValueError.__init__" [.type "ValueError", .type "Exception", .type "BaseException", .type "object"] ["tag", "most"]
def ex28 (K : PySem.W.Frag) : Bool := exnB K pfile "UnknownName" "LookupError" "LookupError.__new__" "LookupError.__init__" [.type "LookupError", .type "Exception", .type "BaseException", .type "object"] ["tag", "name"]
def ex29 (K : PySem.W.Frag) : Bool := exnB K pfile "WrongKind" "ValueError" "ValueError.__new__" "ValueError.__init__" [.type "ValueError", .type "Exception", .type "BaseException", .type "object"] ["tag", "name"]
def ex30 (K : PySem.W.Frag) : Bool := isxB K (.ref (He.ga K "DeadDiffer")) tx_DeadDiffer
def ex31 (K : PySem.W.Frag) : Bool := isxB K (.ref (He.ga K "DuplicateName")) tx_DuplicateName
def ex32 (K : PySem.W.Frag) : Bool := isxB K (.ref (He.ga K "Finished")) tx_Finished
def ex33 (K : PySem.W.Frag) : Bool := isxB K (.ref (He.ga K "Full")) tx_Full
def ex34 (K : PySem.W.Frag) : Bool := isxB K (.type "IndexError") tx_IndexError
def ex35 (K : PySem.W.Frag) : Bool := isxB K (.ref (He.ga K "InvalidCase")) tx_InvalidCase
def ex36 (K : PySem.W.Frag) : Bool := isxB K (.ref (He.ga K "InvalidCommand")) tx_InvalidCommand
def ex37 (K : PySem.W.Frag) : Bool := isxB K (.ref (He.ga K "InvalidCount")) tx_InvalidCount
def ex38 (K : PySem.W.Frag) : Bool := isxB K (.ref (He.ga K "InvalidHand")) tx_InvalidHand
def ex39 (K : PySem.W.Frag) : Bool := isxB K (.ref (He.ga K "InvalidInput")) tx_InvalidInput
def ex40 (K : PySem.W.Frag) : Bool := isxB K (.ref (He.ga K "InvalidKnowledge")) tx_InvalidKnowledge
def ex41 (K : PySem.W.Frag) : Bool := isxB K (.ref (He.ga K "InvalidLimit")) tx_InvalidLimit
def ex42 (K : PySem.W.Frag) : Bool := isxB K (.ref (He.ga K "InvalidName")) tx_InvalidName
def ex43 (K : PySem.W.Frag) : Bool := isxB K (.ref (He.ga K "InvalidPage")) tx_InvalidPage
def ex44 (K : PySem.W.Frag) : Bool := isxB K (.ref (He.ga K "InvalidRow")) tx_InvalidRow
def ex45 (K : PySem.W.Frag) : Bool := isxB K (.ref (He.ga K "InvalidRule")) tx_InvalidRule
def ex46 (K : PySem.W.Frag) : Bool := isxB K (.ref (He.ga K "InvalidSign")) tx_InvalidSign
def ex47 (K : PySem.W.Frag) : Bool := isxB K (.ref (He.ga K "InvalidState")) tx_InvalidState
def ex48 (K : PySem.W.Frag) : Bool := isxB K (.ref (He.ga K "InvalidStates")) tx_InvalidStates
def ex49 (K : PySem.W.Frag) : Bool := isxB K (.ref (He.ga K "InvalidTable")) tx_InvalidTable
def ex50 (K : PySem.W.Frag) : Bool := isxB K (.ref (He.ga K "InvalidTask")) tx_InvalidTask
def ex51 (K : PySem.W.Frag) : Bool := isxB K (.ref (He.ga K "InvalidText")) tx_InvalidText
def ex52 (K : PySem.W.Frag) : Bool := isxB K (.ref (He.ga K "LastMove")) tx_LastMove
def ex53 (K : PySem.W.Frag) : Bool := isxB K (.type "LookupError") tx_LookupError
def ex54 (K : PySem.W.Frag) : Bool := isxB K (.ref (He.ga K "Missing")) tx_Missing
def ex55 (K : PySem.W.Frag) : Bool := isxB K (.ref (He.ga K "NoRows")) tx_NoRows
def ex56 (K : PySem.W.Frag) : Bool := isxB K (.ref (He.ga K "NotLet")) tx_NotLet
def ex57 (K : PySem.W.Frag) : Bool := isxB K (.ref (He.ga K "NothingLeft")) tx_NothingLeft
def ex58 (K : PySem.W.Frag) : Bool := isxB K (.ref (He.ga K "PostError")) tx_PostError
def ex59 (K : PySem.W.Frag) : Bool := isxB K (.ref (He.ga K "TablesDiffer")) tx_TablesDiffer
def ex60 (K : PySem.W.Frag) : Bool := isxB K (.ref (He.ga K "TakenMove")) tx_TakenMove
def ex61 (K : PySem.W.Frag) : Bool := isxB K (.ref (He.ga K "TooMany")) tx_TooMany
def ex62 (K : PySem.W.Frag) : Bool := isxB K (.ref (He.ga K "UnknownName")) tx_UnknownName
def ex63 (K : PySem.W.Frag) : Bool := isxB K (.type "ValueError") tx_ValueError
def ex64 (K : PySem.W.Frag) : Bool := isxB K (.ref (He.ga K "WrongKind")) tx_WrongKind
def ex65 (K : PySem.W.Frag) : Bool := fldXB K xs_given "given"
def ex66 (K : PySem.W.Frag) : Bool := fldXB K xs_index "index"
def ex67 (K : PySem.W.Frag) : Bool := fldXB K xs_limit "limit"
def ex68 (K : PySem.W.Frag) : Bool := fldXB K xs_line "line"
def ex69 (K : PySem.W.Frag) : Bool := fldXB K xs_most "most"
def ex70 (K : PySem.W.Frag) : Bool := fldXB K xs_name "name"
def ex71 (K : PySem.W.Frag) : Bool := fldXB K xs_sign "sign"
def ex72 (K : PySem.W.Frag) : Bool := fldXB K xs_tag "tag"
def ex73 (K : PySem.W.Frag) : Bool := fldXB K xs_word "word"
def ex (K : PySem.W.Frag) : Bool := ex0 K && (ex1 K && (ex2 K && (ex3 K && (ex4 K && (ex5 K && (ex6 K && (ex7 K && (ex8 K && (ex9 K && (ex10 K && (ex11 K && (ex12 K && (ex13 K && (ex14 K && (ex15 K && (ex16 K && (ex17 K && (ex18 K && (ex19 K && (ex20 K && (ex21 K && (ex22 K && (ex23 K && (ex24 K && (ex25 K && (ex26 K && (ex27 K && (ex28 K && (ex29 K && (ex30 K && (ex31 K && (ex32 K && (ex33 K && (ex34 K && (ex35 K && (ex36 K && (ex37 K && (ex38 K && (ex39 K && (ex40 K && (ex41 K && (ex42 K && (ex43 K && (ex44 K && (ex45 K && (ex46 K && (ex47 K && (ex48 K && (ex49 K && (ex50 K && (ex51 K && (ex52 K && (ex53 K && (ex54 K && (ex55 K && (ex56 K && (ex57 K && (ex58 K && (ex59 K && (ex60 K && (ex61 K && (ex62 K && (ex63 K && (ex64 K && (ex65 K && (ex66 K && (ex67 K && (ex68 K && (ex69 K && (ex70 K && (ex71 K && (ex72 K && (ex73 K)))))))))))))))))))))))))))))))))))))))))))))))))))))))))))))))))))))))))
abbrev R : PySem.W.OpenRow := PySem.W.OpenLaw.row PySem.Challenge.rw_hushaccord_k63_errors_apart
abbrev qv : Program := PySem.W.view R.prog [41]
abbrev hk : PySem.W.Hook := hookY 4 fa fn sf ex
def ob (s : PySem.W.SharedT) : AlY := obsY 4 fa fn sf ex (HandSHeadRun.getT s)
theorem ob_eq (s : PySem.W.SharedT) : ob s = hk.obs s.abs := obsY_eq (HandSHeadRun.getT_eq s)
theorem run_false (w : World) : HandSHeadRun.RunEq R qv hk ob 11000 names (w.withFollow "special-get-raises" false) := by
  intro os
  kernel_rfl
theorem run_true (w : World) : HandSHeadRun.RunEq R qv hk ob 11000 names (w.withFollow "special-get-raises" true) := by
  intro os
  kernel_rfl
theorem run (w : World) : HandSHeadRun.RunEq R qv hk ob 11000 names w := PySem.W.byRow2 "special-get-raises" run_false run_true w
abbrev PP : Program := (PySem.Challenge.rw_hushaccord_k63_errors_apart).prog
theorem env {K : PySem.W.Frag} {h base : Heap} {mg : Str → Option Value} {w : World} (X : K.In h) (G : h.Ns mainGlobals mg) (c0 : SaysY fa fn sf ex K) : Env PP w base K mg := by
  have c := c0.d
  have b0 : ex K = true := c0.more
  unfold ex at b0
  obtain ⟨x0, b1⟩ := bb b0
  obtain ⟨x1, b2⟩ := bb b1
  obtain ⟨x2, b3⟩ := bb b2
  obtain ⟨x3, b4⟩ := bb b3
  obtain ⟨x4, b5⟩ := bb b4
  obtain ⟨x5, b6⟩ := bb b5
  obtain ⟨x6, b7⟩ := bb b6
  obtain ⟨x7, b8⟩ := bb b7
  obtain ⟨x8, b9⟩ := bb b8
  obtain ⟨x9, b10⟩ := bb b9
  obtain ⟨x10, b11⟩ := bb b10
  obtain ⟨x11, b12⟩ := bb b11
  obtain ⟨x12, b13⟩ := bb b12
  obtain ⟨x13, b14⟩ := bb b13
  obtain ⟨x14, b15⟩ := bb b14
  obtain ⟨x15, b16⟩ := bb b15
  obtain ⟨x16, b17⟩ := bb b16
  obtain ⟨x17, b18⟩ := bb b17
  obtain ⟨x18, b19⟩ := bb b18
  obtain ⟨x19, b20⟩ := bb b19
  obtain ⟨x20, b21⟩ := bb b20
  obtain ⟨x21, b22⟩ := bb b21
  obtain ⟨x22, b23⟩ := bb b22
  obtain ⟨x23, b24⟩ := bb b23
  obtain ⟨x24, b25⟩ := bb b24
  obtain ⟨x25, b26⟩ := bb b25
  obtain ⟨x26, b27⟩ := bb b26
  obtain ⟨x27, b28⟩ := bb b27
  obtain ⟨x28, b29⟩ := bb b28
  obtain ⟨x29, b30⟩ := bb b29
  obtain ⟨x30, b31⟩ := bb b30
  obtain ⟨x31, b32⟩ := bb b31
  obtain ⟨x32, b33⟩ := bb b32
  obtain ⟨x33, b34⟩ := bb b33
  obtain ⟨x34, b35⟩ := bb b34
  obtain ⟨x35, b36⟩ := bb b35
  obtain ⟨x36, b37⟩ := bb b36
  obtain ⟨x37, b38⟩ := bb b37
  obtain ⟨x38, b39⟩ := bb b38
  obtain ⟨x39, b40⟩ := bb b39
  obtain ⟨x40, b41⟩ := bb b40
  obtain ⟨x41, b42⟩ := bb b41
  obtain ⟨x42, b43⟩ := bb b42
  obtain ⟨x43, b44⟩ := bb b43
  obtain ⟨x44, b45⟩ := bb b44
  obtain ⟨x45, b46⟩ := bb b45
  obtain ⟨x46, b47⟩ := bb b46
  obtain ⟨x47, b48⟩ := bb b47
  obtain ⟨x48, b49⟩ := bb b48
  obtain ⟨x49, b50⟩ := bb b49
  obtain ⟨x50, b51⟩ := bb b50
  obtain ⟨x51, b52⟩ := bb b51
  obtain ⟨x52, b53⟩ := bb b52
  obtain ⟨x53, b54⟩ := bb b53
  obtain ⟨x54, b55⟩ := bb b54
  obtain ⟨x55, b56⟩ := bb b55
  obtain ⟨x56, b57⟩ := bb b56
  obtain ⟨x57, b58⟩ := bb b57
  obtain ⟨x58, b59⟩ := bb b58
  obtain ⟨x59, b60⟩ := bb b59
  obtain ⟨x60, b61⟩ := bb b60
  obtain ⟨x61, b62⟩ := bb b61
  obtain ⟨x62, b63⟩ := bb b62
  obtain ⟨x63, b64⟩ := bb b63
  obtain ⟨x64, b65⟩ := bb b64
  obtain ⟨x65, b66⟩ := bb b65
  obtain ⟨x66, b67⟩ := bb b66
  obtain ⟨x67, b68⟩ := bb b67
  obtain ⟨x68, b69⟩ := bb b68
  obtain ⟨x69, b70⟩ := bb b69
  obtain ⟨x70, b71⟩ := bb b70
  obtain ⟨x71, b72⟩ := bb b71
  obtain ⟨x72, b73⟩ := bb b72
  have x73 := b73
  exact ⟨He.free_ok X G (c.fact 8 (f := .free "IndexError") rfl),
    He.free_ok X G (c.fact 9 (f := .free "LookupError") rfl),
    He.free_ok X G (c.fact 10 (f := .free "ValueError") rfl),
    He.free_ok X G (c.fact 11 (f := .free "all") rfl),
    He.free_ok X G (c.fact 12 (f := .free "bool") rfl),
    He.free_ok X G (c.fact 13 (f := .free "int") rfl),
    He.free_ok X G (c.fact 14 (f := .free "isinstance") rfl),
    He.free_ok X G (c.fact 15 (f := .free "len") rfl),
    He.free_ok X G (c.fact 16 (f := .free "list") rfl),
    He.free_ok X G (c.fact 17 (f := .free "str") rfl),
    He.free_ok X G (c.fact 18 (f := .free "tuple") rfl),
    He.free_ok X G (c.fact 19 (f := .free "zip") rfl),
    (let ⟨fd, F⟩ := c.def_ 0 (d := d__law_bag) rfl; ⟨_, fd, F, He.glo_ok X G (c.fact 0 (f := .glo "_law_bag") rfl)⟩),
    (let ⟨fd, F⟩ := c.def_ 1 (d := d__law_draw) rfl; ⟨_, fd, F, He.glo_ok X G (c.fact 1 (f := .glo "_law_draw") rfl)⟩),
    (let ⟨fd, F⟩ := c.def_ 2 (d := d__law_of) rfl; ⟨_, fd, F, He.glo_ok X G (c.fact 2 (f := .glo "_law_of") rfl)⟩),
    (let ⟨fd, F⟩ := c.def_ 3 (d := d__law_alike) rfl; ⟨_, fd, F, He.glo_ok X G (c.fact 3 (f := .glo "_law_alike") rfl)⟩),
    (let ⟨fd, F⟩ := c.def_ 4 (d := d__law_field) rfl; ⟨_, fd, F, He.glo_ok X G (c.fact 4 (f := .glo "_law_field") rfl)⟩),
    (let ⟨fd, F⟩ := c.def_ 5 (d := d__law_errors_by_name) rfl; ⟨_, fd, F, He.glo_ok X G (c.fact 5 (f := .glo "_law_errors_by_name") rfl)⟩),
    (let ⟨fd, F⟩ := c.def_ 6 (d := d__law_error_classes) rfl; ⟨_, fd, F, He.glo_ok X G (c.fact 6 (f := .glo "_law_error_classes") rfl)⟩),
    (let ⟨fd, F⟩ := c.def_ 7 (d := d_law) rfl; ⟨_, fd, F, He.glo_ok X G (c.fact 7 (f := .glo "law") rfl)⟩),
    hasE0_of base_VE X G x0 (c0.def_ 0 (d := e_DeadDiffer) rfl) rfl rfl (by decide +kernel) (by decide) rfl (fun _ => ⟨_, rfl⟩) (by decide +kernel) rfl ⟨_, rfl, rfl⟩ (fun _ _ _ _ _ _ => rfl),
    hasE1_of base_VE X G x1 (c0.def_ 1 (d := e_DuplicateName) rfl) rfl rfl (by decide +kernel) (by decide) (by decide) rfl (fun _ => ⟨_, rfl⟩) (by decide +kernel) rfl ⟨_, rfl, rfl⟩ (by decide) (by decide) (fun _ _ _ _ _ _ _ => rfl) (fun _ _ _ _ _ _ _ => rfl),
    hasE1_of base_VE X G x2 (c0.def_ 2 (d := e_Finished) rfl) rfl rfl (by decide +kernel) (by decide) (by decide) rfl (fun _ => ⟨_, rfl⟩) (by decide +kernel) rfl ⟨_, rfl, rfl⟩ (by decide) (by decide) (fun _ _ _ _ _ _ _ => rfl) (fun _ _ _ _ _ _ _ => rfl),
    hasE1_of base_VE X G x3 (c0.def_ 3 (d := e_Full) rfl) rfl rfl (by decide +kernel) (by decide) (by decide) rfl (fun _ => ⟨_, rfl⟩) (by decide +kernel) rfl ⟨_, rfl, rfl⟩ (by decide) (by decide) (fun _ _ _ _ _ _ _ => rfl) (fun _ _ _ _ _ _ _ => rfl),
    hasE1_of base_VE X G x4 (c0.def_ 4 (d := e_InvalidCase) rfl) rfl rfl (by decide +kernel) (by decide) (by decide) rfl (fun _ => ⟨_, rfl⟩) (by decide +kernel) rfl ⟨_, rfl, rfl⟩ (by decide) (by decide) (fun _ _ _ _ _ _ _ => rfl) (fun _ _ _ _ _ _ _ => rfl),
    hasE1_of base_VE X G x5 (c0.def_ 5 (d := e_InvalidCommand) rfl) rfl rfl (by decide +kernel) (by decide) (by decide) rfl (fun _ => ⟨_, rfl⟩) (by decide +kernel) rfl ⟨_, rfl, rfl⟩ (by decide) (by decide) (fun _ _ _ _ _ _ _ => rfl) (fun _ _ _ _ _ _ _ => rfl),
    hasE1_of base_VE X G x6 (c0.def_ 6 (d := e_InvalidCount) rfl) rfl rfl (by decide +kernel) (by decide) (by decide) rfl (fun _ => ⟨_, rfl⟩) (by decide +kernel) rfl ⟨_, rfl, rfl⟩ (by decide) (by decide) (fun _ _ _ _ _ _ _ => rfl) (fun _ _ _ _ _ _ _ => rfl),
    hasE1_of base_VE X G x7 (c0.def_ 7 (d := e_InvalidHand) rfl) rfl rfl (by decide +kernel) (by decide) (by decide) rfl (fun _ => ⟨_, rfl⟩) (by decide +kernel) rfl ⟨_, rfl, rfl⟩ (by decide) (by decide) (fun _ _ _ _ _ _ _ => rfl) (fun _ _ _ _ _ _ _ => rfl),
    hasE1_of base_VE X G x8 (c0.def_ 8 (d := e_InvalidInput) rfl) rfl rfl (by decide +kernel) (by decide) (by decide) rfl (fun _ => ⟨_, rfl⟩) (by decide +kernel) rfl ⟨_, rfl, rfl⟩ (by decide) (by decide) (fun _ _ _ _ _ _ _ => rfl) (fun _ _ _ _ _ _ _ => rfl),
    hasE1_of base_VE X G x9 (c0.def_ 9 (d := e_InvalidKnowledge) rfl) rfl rfl (by decide +kernel) (by decide) (by decide) rfl (fun _ => ⟨_, rfl⟩) (by decide +kernel) rfl ⟨_, rfl, rfl⟩ (by decide) (by decide) (fun _ _ _ _ _ _ _ => rfl) (fun _ _ _ _ _ _ _ => rfl),
    hasE1_of base_VE X G x10 (c0.def_ 10 (d := e_InvalidLimit) rfl) rfl rfl (by decide +kernel) (by decide) (by decide) rfl (fun _ => ⟨_, rfl⟩) (by decide +kernel) rfl ⟨_, rfl, rfl⟩ (by decide) (by decide) (fun _ _ _ _ _ _ _ => rfl) (fun _ _ _ _ _ _ _ => rfl),
    hasE1_of base_VE X G x11 (c0.def_ 11 (d := e_InvalidName) rfl) rfl rfl (by decide +kernel) (by decide) (by decide) rfl (fun _ => ⟨_, rfl⟩) (by decide +kernel) rfl ⟨_, rfl, rfl⟩ (by decide) (by decide) (fun _ _ _ _ _ _ _ => rfl) (fun _ _ _ _ _ _ _ => rfl),
    hasE1_of base_VE X G x12 (c0.def_ 12 (d := e_InvalidPage) rfl) rfl rfl (by decide +kernel) (by decide) (by decide) rfl (fun _ => ⟨_, rfl⟩) (by decide +kernel) rfl ⟨_, rfl, rfl⟩ (by decide) (by decide) (fun _ _ _ _ _ _ _ => rfl) (fun _ _ _ _ _ _ _ => rfl),
    hasE1_of base_VE X G x13 (c0.def_ 13 (d := e_InvalidRow) rfl) rfl rfl (by decide +kernel) (by decide) (by decide) rfl (fun _ => ⟨_, rfl⟩) (by decide +kernel) rfl ⟨_, rfl, rfl⟩ (by decide) (by decide) (fun _ _ _ _ _ _ _ => rfl) (fun _ _ _ _ _ _ _ => rfl),
    hasE1_of base_VE X G x14 (c0.def_ 14 (d := e_InvalidRule) rfl) rfl rfl (by decide +kernel) (by decide) (by decide) rfl (fun _ => ⟨_, rfl⟩) (by decide +kernel) rfl ⟨_, rfl, rfl⟩ (by decide) (by decide) (fun _ _ _ _ _ _ _ => rfl) (fun _ _ _ _ _ _ _ => rfl),
    hasE1_of base_VE X G x15 (c0.def_ 15 (d := e_InvalidSign) rfl) rfl rfl (by decide +kernel) (by decide) (by decide) rfl (fun _ => ⟨_, rfl⟩) (by decide +kernel) rfl ⟨_, rfl, rfl⟩ (by decide) (by decide) (fun _ _ _ _ _ _ _ => rfl) (fun _ _ _ _ _ _ _ => rfl),
    hasE1_of base_VE X G x16 (c0.def_ 16 (d := e_InvalidState) rfl) rfl rfl (by decide +kernel) (by decide) (by decide) rfl (fun _ => ⟨_, rfl⟩) (by decide +kernel) rfl ⟨_, rfl, rfl⟩ (by decide) (by decide) (fun _ _ _ _ _ _ _ => rfl) (fun _ _ _ _ _ _ _ => rfl),
    hasE1_of base_VE X G x17 (c0.def_ 17 (d := e_InvalidStates) rfl) rfl rfl (by decide +kernel) (by decide) (by decide) rfl (fun _ => ⟨_, rfl⟩) (by decide +kernel) rfl ⟨_, rfl, rfl⟩ (by decide) (by decide) (fun _ _ _ _ _ _ _ => rfl) (fun _ _ _ _ _ _ _ => rfl),
    hasE0_of base_VE X G x18 (c0.def_ 18 (d := e_InvalidTable) rfl) rfl rfl (by decide +kernel) (by decide) rfl (fun _ => ⟨_, rfl⟩) (by decide +kernel) rfl ⟨_, rfl, rfl⟩ (fun _ _ _ _ _ _ => rfl),
    hasE0_of base_VE X G x19 (c0.def_ 19 (d := e_InvalidTask) rfl) rfl rfl (by decide +kernel) (by decide) rfl (fun _ => ⟨_, rfl⟩) (by decide +kernel) rfl ⟨_, rfl, rfl⟩ (fun _ _ _ _ _ _ => rfl),
    hasE0_of base_VE X G x20 (c0.def_ 20 (d := e_InvalidText) rfl) rfl rfl (by decide +kernel) (by decide) rfl (fun _ => ⟨_, rfl⟩) (by decide +kernel) rfl ⟨_, rfl, rfl⟩ (fun _ _ _ _ _ _ => rfl),
    hasE0_of base_VE X G x21 (c0.def_ 21 (d := e_LastMove) rfl) rfl rfl (by decide +kernel) (by decide) rfl (fun _ => ⟨_, rfl⟩) (by decide +kernel) rfl ⟨_, rfl, rfl⟩ (fun _ _ _ _ _ _ => rfl),
    hasE0_of base_VE X G x22 (c0.def_ 22 (d := e_NoRows) rfl) rfl rfl (by decide +kernel) (by decide) rfl (fun _ => ⟨_, rfl⟩) (by decide +kernel) rfl ⟨_, rfl, rfl⟩ (fun _ _ _ _ _ _ => rfl),
    hasE1_of base_VE X G x23 (c0.def_ 23 (d := e_NotLet) rfl) rfl rfl (by decide +kernel) (by decide) (by decide) rfl (fun _ => ⟨_, rfl⟩) (by decide +kernel) rfl ⟨_, rfl, rfl⟩ (by decide) (by decide) (fun _ _ _ _ _ _ _ => rfl) (fun _ _ _ _ _ _ _ => rfl),
    hasE0_of base_IE X G x24 (c0.def_ 24 (d := e_NothingLeft) rfl) rfl rfl (by decide +kernel) (by decide) rfl (fun _ => ⟨_, rfl⟩) (by decide +kernel) rfl ⟨_, rfl, rfl⟩ (fun _ _ _ _ _ _ => rfl),
    hasE0_of base_VE X G x25 (c0.def_ 25 (d := e_TablesDiffer) rfl) rfl rfl (by decide +kernel) (by decide) rfl (fun _ => ⟨_, rfl⟩) (by decide +kernel) rfl ⟨_, rfl, rfl⟩ (fun _ _ _ _ _ _ => rfl),
    hasE1_of base_VE X G x26 (c0.def_ 26 (d := e_TakenMove) rfl) rfl rfl (by decide +kernel) (by decide) (by decide) rfl (fun _ => ⟨_, rfl⟩) (by decide +kernel) rfl ⟨_, rfl, rfl⟩ (by decide) (by decide) (fun _ _ _ _ _ _ _ => rfl) (fun _ _ _ _ _ _ _ => rfl),
    hasE1_of base_VE X G x27 (c0.def_ 27 (d := e_TooMany) rfl) rfl rfl (by decide +kernel) (by decide) (by decide) rfl (fun _ => ⟨_, rfl⟩) (by decide +kernel) rfl ⟨_, rfl, rfl⟩ (by decide) (by decide) (fun _ _ _ _ _ _ _ => rfl) (fun _ _ _ _ _ _ _ => rfl),
    hasE1_of base_LE X G x28 (c0.def_ 28 (d := e_UnknownName) rfl) rfl rfl (by decide +kernel) (by decide) (by decide) rfl (fun _ => ⟨_, rfl⟩) (by decide +kernel) rfl ⟨_, rfl, rfl⟩ (by decide) (by decide) (fun _ _ _ _ _ _ _ => rfl) (fun _ _ _ _ _ _ _ => rfl),
    hasE1_of base_VE X G x29 (c0.def_ 29 (d := e_WrongKind) rfl) rfl rfl (by decide +kernel) (by decide) (by decide) rfl (fun _ => ⟨_, rfl⟩) (by decide +kernel) rfl ⟨_, rfl, rfl⟩ (by decide) (by decide) (fun _ _ _ _ _ _ _ => rfl) (fun _ _ _ _ _ _ _ => rfl),
    He.glo_ok X G (c.fact 20 (f := .glo "DeadDiffer") rfl),
    isxB_ok X G x30,
    He.glo_ok X G (c.fact 21 (f := .glo "DuplicateName") rfl),
    isxB_ok X G x31,
    He.glo_ok X G (c.fact 22 (f := .glo "Finished") rfl),
    isxB_ok X G x32,
    He.glo_ok X G (c.fact 23 (f := .glo "Full") rfl),
    isxB_ok X G x33,
    isxB_ok X G x34,
    He.glo_ok X G (c.fact 24 (f := .glo "InvalidCase") rfl),
    isxB_ok X G x35,
    He.glo_ok X G (c.fact 25 (f := .glo "InvalidCommand") rfl),
    isxB_ok X G x36,
    He.glo_ok X G (c.fact 26 (f := .glo "InvalidCount") rfl),
    isxB_ok X G x37,
    He.glo_ok X G (c.fact 27 (f := .glo "InvalidHand") rfl),
    isxB_ok X G x38,
    He.glo_ok X G (c.fact 28 (f := .glo "InvalidInput") rfl),
    isxB_ok X G x39,
    He.glo_ok X G (c.fact 29 (f := .glo "InvalidKnowledge") rfl),
    isxB_ok X G x40,
    He.glo_ok X G (c.fact 30 (f := .glo "InvalidLimit") rfl),
    isxB_ok X G x41,
    He.glo_ok X G (c.fact 31 (f := .glo "InvalidName") rfl),
    isxB_ok X G x42,
    He.glo_ok X G (c.fact 32 (f := .glo "InvalidPage") rfl),
    isxB_ok X G x43,
    He.glo_ok X G (c.fact 33 (f := .glo "InvalidRow") rfl),
    isxB_ok X G x44,
    He.glo_ok X G (c.fact 34 (f := .glo "InvalidRule") rfl),
    isxB_ok X G x45,
    He.glo_ok X G (c.fact 35 (f := .glo "InvalidSign") rfl),
    isxB_ok X G x46,
    He.glo_ok X G (c.fact 36 (f := .glo "InvalidState") rfl),
    isxB_ok X G x47,
    He.glo_ok X G (c.fact 37 (f := .glo "InvalidStates") rfl),
    isxB_ok X G x48,
    He.glo_ok X G (c.fact 38 (f := .glo "InvalidTable") rfl),
    isxB_ok X G x49,
    He.glo_ok X G (c.fact 39 (f := .glo "InvalidTask") rfl),
    isxB_ok X G x50,
    He.glo_ok X G (c.fact 40 (f := .glo "InvalidText") rfl),
    isxB_ok X G x51,
    He.glo_ok X G (c.fact 41 (f := .glo "LastMove") rfl),
    isxB_ok X G x52,
    isxB_ok X G x53,
    He.glo_ok X G (c.fact 42 (f := .glo "Missing") rfl),
    isxB_ok X G x54,
    He.glo_ok X G (c.fact 43 (f := .glo "NoRows") rfl),
    isxB_ok X G x55,
    He.glo_ok X G (c.fact 44 (f := .glo "NotLet") rfl),
    isxB_ok X G x56,
    He.glo_ok X G (c.fact 45 (f := .glo "NothingLeft") rfl),
    isxB_ok X G x57,
    He.glo_ok X G (c.fact 46 (f := .glo "PostError") rfl),
    isxB_ok X G x58,
    He.glo_ok X G (c.fact 47 (f := .glo "TablesDiffer") rfl),
    isxB_ok X G x59,
    He.glo_ok X G (c.fact 48 (f := .glo "TakenMove") rfl),
    isxB_ok X G x60,
    He.glo_ok X G (c.fact 49 (f := .glo "TooMany") rfl),
    isxB_ok X G x61,
    He.glo_ok X G (c.fact 50 (f := .glo "UnknownName") rfl),
    isxB_ok X G x62,
    isxB_ok X G x63,
    He.glo_ok X G (c.fact 51 (f := .glo "WrongKind") rfl),
    isxB_ok X G x64,
    fldXB_ok X G x65,
    fldXB_ok X G x66,
    fldXB_ok X G x67,
    fldXB_ok X G x68,
    fldXB_ok X G x69,
    fldXB_ok X G x70,
    fldXB_ok X G x71,
    fldXB_ok X G x72,
    fldXB_ok X G x73⟩
end L_k63
open PySem PySem.W PySem.Calls PyProof.Rows
theorem PySem.Challenge.cw_hushaccord_k63_errors_apart_holds : PySem.Challenge.rw_hushaccord_k63_errors_apart.Holds := by
  w_on; o_law
  refine HandSHeadRun.head_any (r := OpenLaw.row PySem.Challenge.rw_hushaccord_k63_errors_apart) (q := view (OpenLaw.row PySem.Challenge.rw_hushaccord_k63_errors_apart).prog [41]) (H := L_k63.hk) (ob := L_k63.ob) (M := 11000) (loose := L_k63.names) (d := HandSHeadRun.topDef (OpenLaw.row PySem.Challenge.rw_hushaccord_k63_errors_apart).prog 41) (kwd := []) L_k63.ob_eq
    (by kernel_rfl) (fun s => by kernel_rfl) L_k63.run (by kernel_rfl) (by kernel_rfl) (by kernel_rfl) (by rfl) (by first | assumption | decide +kernel) (by decide +kernel) ⟨rfl, rfl, rfl, rfl, rfl, by decide +kernel⟩ ?hw ?hc
  case hw => w_witness2
  case hc =>
    refine L2.walk_ofE (l := PySem.Challenge.rw_hushaccord_k63_errors_apart) (n := 63) (k := 11) (x := "_law_script") (CX := L2.CX0) rfl (by decide) (by kernel_rfl) ⟨rfl, by decide, by decide⟩ ?F (fun _ _ _ _ z => z)
    intro w mg fa h Y G hmg0
    obtain ⟨K, KX, c⟩ := Y
    have hmg : mg ("law" : PySem.Str) = some (.ref fa) := by
      have e : (HandSHeadRun.topDef (OpenLaw.row PySem.Challenge.rw_hushaccord_k63_errors_apart).prog 41).name = ("law" : PySem.Str) := by kernel_rfl
      rw [← e]
      exact hmg0
    have Y := fun base : Heap => L_k63.env (base := base) (w := w) KX G c
    obtain ⟨f, fd, F, hm⟩ := (Y h).d_law
    cases hmg.symm.trans hm
    exact ⟨K, fd, fun vs H Q _ => Mi.spM K mg 1 L_k63.m_law vs H Q fun _ _ _ => False, KX, fun s v => (L2.FunD.bindsA (ps := ["_law_script"]) F fun _ _ _ _ _ _ us hl => match us, hl with | [_], _ => rfl) s [v] rfl, fun H a ns hl hO hS => Mi.law_sp (L_k63.pure_law ns hl) hO hS, fun base _ _ => Mi.law_at F hm (L_k63.ok_law (P := (PySem.Challenge.rw_hushaccord_k63_errors_apart).prog) (w := w) (base := base) (Y base))⟩
end part_H63
