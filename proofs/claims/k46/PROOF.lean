import PyProof.Rows.All
import Wide.All
import OpenK.AllK
import Wide.FinOn
import PyProof.EqAt
import PyProof.EqKinds
import PyProof.TupleCall
import HandS.ForMost
import HandS.Exc
import HandS.WordsExc
import HandS.Defaults
import HandS.Deep
import HandS.TupAny
import HandS.TupLe
import HandS.IsInst
import HandS.FStr
import HandS.Flow
import HandS.StrMore
import HandS.More
import KE.GoesMore
import KE.GoesEnum
import KE.GoesZip
import HandS.CallSlots
import HandS.Steps
import PyProof.Rows.StrMul
import HandS.Text
import HandS.List
import HandS.Ends
import HandS.HeadEnd
import HandS.Head0
import HandS.Head1
import HandS.Head2
import HandS.HeadHook1
import HandS.HeadHook2
import HandS.HeadHook3
import HandS.HeadHook4
import KE.KStateDown
import PySem.Challenge.RW_hushaccord_k46_whole_texts_of_knowledge
set_option Elab.async false
set_option linter.all false
section part_Mi0
set_option maxRecDepth 100000
set_option maxHeartbeats 2000000
/-! Mi, part 0: values as trees (T), the mirror's heap, how they lie in the abstract heap (Rep), what a step leaves (Ext), the readings of mirrors (tM, tSM). -/
namespace Mi
open PySem PySem.Spec PyProof.Rows L2

/-- a value as a tree; ref: the i-th changeable object -/
inductive T where
  | non | bl (b : Bool) | int (i : Int) | str (s : Str)
  | tup (xs : List T) | lst (xs : List T) | frl (xs : List T)
  | dct (ks vs : List T)
  | obj (c : Str) (ns : List Str) (vs : List T)
  | ref (i : Nat)
  deriving Inhabited
/-- a changeable object -/
inductive MO where
  | dead
  | lst (xs : List T)
  | dct (ks vs : List T)
  | ins (c : Str) (ns : List Str) (vs : List T)
  deriving Inhabited
abbrev MH := List MO
/-- an exception: its class, its fields -/
structure Exc where
  c : Str
  ns : List Str
  vs : List T
inductive R where
  | ok (t : T) (h : MH) | ex (x : Exc) (h : MH) | stuck
abbrev SM := List (Option T)
inductive SR where
  | nx (s : SM) (h : MH) | rt (t : T) (h : MH) | bk (s : SM) (h : MH) | ct (s : SM) (h : MH) | ex (x : Exc) (s : SM) (h : MH) | stuck
abbrev ME := SM → MH → R
abbrev MS := SM → MH → SR
def R.bind (r : R) (f : T → MH → R) : R := match r with
  | .ok t h => f t h
  | .ex x h => .ex x h
  | .stuck => .stuck

/-- trees by induction -/
theorem T.ind {P : T → Prop} (non : P .non) (bl : ∀ b, P (.bl b)) (int : ∀ i, P (.int i)) (str : ∀ s, P (.str s))
    (tup : ∀ xs, (∀ x ∈ xs, P x) → P (.tup xs)) (lst : ∀ xs, (∀ x ∈ xs, P x) → P (.lst xs)) (frl : ∀ xs, (∀ x ∈ xs, P x) → P (.frl xs))
    (dct : ∀ ks vs, (∀ x ∈ ks, P x) → (∀ x ∈ vs, P x) → P (.dct ks vs)) (obj : ∀ c ns vs, (∀ x ∈ vs, P x) → P (.obj c ns vs)) (ref : ∀ i, P (.ref i)) : ∀ t, P t := fun t =>
  T.rec (motive_1 := P) (motive_2 := fun xs => ∀ x ∈ xs, P x) non bl int str (fun xs h => tup xs h) (fun xs h => lst xs h) (fun xs h => frl xs h) (fun ks vs h1 h2 => dct ks vs h1 h2) (fun c ns vs h => obj c ns vs h) ref
    (fun x h => by cases h) (fun a l ha hl x hx => by
      rcases List.mem_cons.mp hx with e | e
      · exact e ▸ ha
      · exact hl x e) t

/-- the ghost: the changeable objects' places, the mirror's heap, places kept apart, the abstract heap -/
structure G where
  rho : List Addr
  h : MH
  pv : List Addr
  H : Hp
def G.hid (g : G) (a : Addr) : Prop := a ∈ g.pv ∨ ∃ (i : Nat) (o : MO), g.rho[i]? = some a ∧ g.h[i]? = some o ∧ o ≠ MO.dead
def KTup (K : PySem.W.Frag) (a : Addr) (xs : List V) : Prop := ∃ (o : Obj) (its : Array Value) (n : Nat), K.lookup a = some o ∧ o.cls = .type "tuple" ∧ o.data = .seq its n ∧ its.size ≤ sizeLine ∧ Vals xs its.toList
def KLst (K : PySem.W.Frag) (a : Addr) (xs : List V) : Prop := ∃ (o : Obj) (its : Array Value) (n : Nat), K.lookup a = some o ∧ o.cls = .type "list" ∧ o.dict = none ∧ o.data = .seq its n ∧ its.size ≤ sizeLine ∧ Vals xs its.toList
def keyT : Key → T
  | .inl i => .int i
  | .inr x => .str x
section
variable (K : PySem.W.Frag) (mg : Str → Option Value)
mutual
def Rep (g : G) : T → V → Prop
  | .non, v => v = .non
  | .bl b, v => v = .bl b
  | .int i, v => v = .int i
  | .str s, v => v = .str s
  | .tup xs, v => ∃ p vs, v = .ref p ∧ ((Rd g.H p (.tup vs) ∧ ¬ g.hid p) ∨ KTup K p vs) ∧ RepL g xs vs
  | .lst xs, v => ∃ p vs, v = .ref p ∧ (g.H p = some (.lst vs) ∧ ¬ g.hid p) ∧ RepL g xs vs
  | .frl xs, v => ∃ p vs, v = .ref p ∧ (((∃ o, g.H p = some (.frz o (.lst vs))) ∧ ¬ g.hid p) ∨ KLst K p vs) ∧ RepL g xs vs
  | .dct ks vs, v => ∃ p kvs, v = .ref p ∧ (g.H p = some (.dK kvs) ∧ ¬ g.hid p) ∧ ks = kvs.map (fun q => keyT q.1) ∧ RepL g vs (kvs.map (·.2))
  | .obj c ns ts, v => ∃ p C dx fs, v = .ref p ∧ (g.H p = some (.ins C dx fs) ∧ ¬ g.hid p) ∧ mg c = some (.ref C) ∧ fs.map (·.1) = ns ∧ RepL g ts (fs.map (·.2))
  | .ref i, v => ∃ p, v = .ref p ∧ g.rho[i]? = some p
def RepL (g : G) : List T → List V → Prop
  | [], vs => vs = []
  | t :: ts, vs => ∃ v r, vs = v :: r ∧ Rep g t v ∧ RepL g ts r
end
def RepO (g : G) (a : Addr) : MO → Prop
  | .dead => True
  | .lst xs => ∃ vs, g.H a = some (.lst vs) ∧ RepL K mg g xs vs
  | .dct ks ts => ∃ kvs, g.H a = some (.dK kvs) ∧ ks = kvs.map (fun q => keyT q.1) ∧ RepL K mg g ts (kvs.map (·.2))
  | .ins c ns ts => ∃ C dx fs, g.H a = some (.ins C dx fs) ∧ mg c = some (.ref C) ∧ fs.map (·.1) = ns ∧ RepL K mg g ts (fs.map (·.2))
def RepX (g : G) (x : Exc) (cls : Value) (d : Option Addr) : Prop :=
  ∃ C da fs, cls = .ref C ∧ mg x.c = some (.ref C) ∧ d = some da ∧ (g.H da = some (.xd fs) ∧ ¬ g.hid da) ∧ fs.map (·.1) = x.ns ∧ RepL K mg g x.vs (fs.map (·.2))
structure Rel (g : G) : Prop where
  len : g.rho.length = g.h.length
  inj : ∀ (i j : Nat) a, g.rho[i]? = some a → g.rho[j]? = some a → i = j
  npv : ∀ a ∈ g.pv, a ∉ g.rho
  pvt : ∀ a ∈ g.pv, ∃ o, g.H a = some o
  tr : ∀ (i : Nat) a, g.rho[i]? = some a → ∃ o, g.H a = some o
  obj : ∀ (i : Nat) a o, g.rho[i]? = some a → g.h[i]? = some o → RepO K mg g a o
def RepS (g : G) (s : SM) (σ : L2.St) : Prop := s.length = σ.length ∧ ∀ (i : Nat) t, s[i]? = some (some t) → ∃ v, σ[i]? = some (some v) ∧ Rep K mg g t v
end
structure Ext (g g' : G) : Prop where
  rho : ∀ (i : Nat) a, g.rho[i]? = some a → g'.rho[i]? = some a
  pv : g'.pv = g.pv
  pvk : ∀ a ∈ g.pv, g'.H a = g.H a
  keep : ∀ a o, g.H a = some o → ¬ g.hid a → g'.H a = some o ∧ ¬ g'.hid a
theorem Ext.refl (g : G) : Ext g g := ⟨fun _ _ h => h, rfl, fun _ _ => rfl, fun _ _ h n => ⟨h, n⟩⟩
theorem Ext.trans {a b c : G} (x : Ext a b) (y : Ext b c) : Ext a c :=
  ⟨fun i p h => y.rho i p (x.rho i p h), y.pv.trans x.pv, fun p h => (y.pvk p (by rw [x.pv]; exact h)).trans (x.pvk p h), fun p o h n => let ⟨h1, n1⟩ := x.keep p o h n; y.keep p o h1 n1⟩
section
variable {K : PySem.W.Frag} {mg : Str → Option Value} {g g' : G}
/-- what a representation leans on -/
structure Sub (g g' : G) : Prop where
  rho : ∀ (i : Nat) a, g.rho[i]? = some a → g'.rho[i]? = some a
  keep : ∀ a o, g.H a = some o → ¬ g.hid a → g'.H a = some o ∧ ¬ g'.hid a
theorem Ext.sub (e : Ext g g') : Sub g g' := ⟨e.rho, e.keep⟩
theorem RepL.monoOf : ∀ {ts : List T} {vs : List V}, (∀ t ∈ ts, ∀ v, Rep K mg g t v → Rep K mg g' t v) → RepL K mg g ts vs → RepL K mg g' ts vs
  | [], vs, _, h => by simpa only [RepL] using h
  | t :: ts, vs, f, h => by
    simp only [RepL] at h ⊢
    obtain ⟨v, r, e, h1, h2⟩ := h
    exact ⟨v, r, e, f t List.mem_cons_self v h1, RepL.monoOf (fun t ht => f t (List.mem_cons_of_mem _ ht)) h2⟩
theorem Rep.sub (e : Sub g g') : ∀ t v, Rep K mg g t v → Rep K mg g' t v := by
  intro t
  induction t using T.ind with
  | non => intro v h; simpa only [Rep] using h
  | bl b => intro v h; simpa only [Rep] using h
  | int i => intro v h; simpa only [Rep] using h
  | str s => intro v h; simpa only [Rep] using h
  | tup xs ih =>
    intro v h; simp only [Rep] at h ⊢
    obtain ⟨p, vs, e1, h1, h2⟩ := h
    refine ⟨p, vs, e1, ?_, RepL.monoOf ih h2⟩
    rcases h1 with ⟨h1, n⟩ | h1
    · rcases h1 with h1 | ⟨o, h1⟩
      · exact .inl ⟨.inl (e.keep _ _ h1 n).1, (e.keep _ _ h1 n).2⟩
      · exact .inl ⟨.inr ⟨o, (e.keep _ _ h1 n).1⟩, (e.keep _ _ h1 n).2⟩
    · exact .inr h1
  | lst xs ih =>
    intro v h; simp only [Rep] at h ⊢
    obtain ⟨p, vs, e1, ⟨h1, n⟩, h2⟩ := h
    exact ⟨p, vs, e1, e.keep _ _ h1 n, RepL.monoOf ih h2⟩
  | frl xs ih =>
    intro v h; simp only [Rep] at h ⊢
    obtain ⟨p, vs, e1, h1, h2⟩ := h
    refine ⟨p, vs, e1, ?_, RepL.monoOf ih h2⟩
    rcases h1 with ⟨⟨o, h1⟩, n⟩ | h1
    · exact .inl ⟨⟨o, (e.keep _ _ h1 n).1⟩, (e.keep _ _ h1 n).2⟩
    · exact .inr h1
  | dct ks vs ih1 ih2 =>
    intro v h; simp only [Rep] at h ⊢
    obtain ⟨p, kvs, e1, ⟨h1, n⟩, e2, h2⟩ := h
    exact ⟨p, kvs, e1, e.keep _ _ h1 n, e2, RepL.monoOf ih2 h2⟩
  | obj c ns vs ih =>
    intro v h; simp only [Rep] at h ⊢
    obtain ⟨p, C, dx, fs, e1, ⟨h1, n⟩, e2, e3, h2⟩ := h
    exact ⟨p, C, dx, fs, e1, e.keep _ _ h1 n, e2, e3, RepL.monoOf ih h2⟩
  | ref i =>
    intro v h; simp only [Rep] at h ⊢
    obtain ⟨p, e1, h1⟩ := h
    exact ⟨p, e1, e.rho _ _ h1⟩
theorem RepL.sub (e : Sub g g') {ts : List T} {vs : List V} (h : RepL K mg g ts vs) : RepL K mg g' ts vs := RepL.monoOf (fun t _ v => Rep.sub e t v) h
theorem Rep.mono {t : T} {v : V} (h : Rep K mg g t v) (e : Ext g g') : Rep K mg g' t v := Rep.sub e.sub t v h
theorem RepL.mono {ts : List T} {vs : List V} (h : RepL K mg g ts vs) (e : Ext g g') : RepL K mg g' ts vs := RepL.sub e.sub h
theorem RepS.sub {s : SM} {σ : L2.St} (e : Sub g g') (h : RepS K mg g s σ) : RepS K mg g' s σ := ⟨h.1, fun i t q => let ⟨v, a, b⟩ := h.2 i t q; ⟨v, a, Rep.sub e t v b⟩⟩
theorem RepS.mono {s : SM} {σ : L2.St} (h : RepS K mg g s σ) (e : Ext g g') : RepS K mg g' s σ := h.sub e.sub
theorem RepX.mono {x : Exc} {cls : Value} {d : Option Addr} (h : RepX K mg g x cls d) (e : Ext g g') : RepX K mg g' x cls d := by
  obtain ⟨C, da, fs, e1, e2, e3, ⟨h1, n⟩, e4, h2⟩ := h
  exact ⟨C, da, fs, e1, e2, e3, e.keep _ _ h1 n, e4, h2.mono e⟩
theorem RepS.set {s : SM} {σ : L2.St} (h : RepS K mg g s σ) {t : T} {v : V} (r : Rep K mg g t v) (i : Nat) : RepS K mg g (s.set i (some t)) (σ.set i (some v)) := by
  refine ⟨by rw [List.length_set, List.length_set, h.1], fun j u q => ?_⟩
  by_cases e : i = j
  · subst e
    rw [List.getElem?_set] at q
    rw [List.getElem?_set]
    by_cases l : i < s.length
    · simp only [l, if_true, Option.some.injEq] at q
      subst q
      simp only [← h.1, l, if_true]
      exact ⟨v, rfl, r⟩
    · simp only [if_true, l, if_false] at q
      cases q
  · rw [List.getElem?_set_ne e] at q ⊢
    exact h.2 j u q
theorem RepL.length : ∀ {ts : List T} {vs : List V}, RepL K mg g ts vs → ts.length = vs.length
  | [], vs, h => by
    simp only [RepL] at h
    rw [h]
    all_goals rfl
  | t :: ts, vs, h => by
    simp only [RepL] at h
    obtain ⟨v, r, e, _, h2⟩ := h
    rw [e, List.length_cons, List.length_cons, h2.length]
theorem RepL.get : ∀ {ts : List T} {vs : List V} {i : Nat} {t : T}, RepL K mg g ts vs → ts[i]? = some t → ∃ v, vs[i]? = some v ∧ Rep K mg g t v
  | [], _, i, t, _, e => by simp at e
  | u :: ts, vs, 0, t, h, e => by
    simp only [RepL] at h
    obtain ⟨v, r, q, h1, h2⟩ := h
    simp at e; subst e; subst q
    exact ⟨v, rfl, h1⟩
  | u :: ts, vs, i + 1, t, h, e => by
    simp only [RepL] at h
    obtain ⟨v, r, q, h1, h2⟩ := h
    subst q
    have z := RepL.get (i := i) (t := t) h2 (by simpa using e)
    simpa using z
theorem RepL.get' {ts : List T} {vs : List V} {i : Nat} {v : V} (h : RepL K mg g ts vs) (e : vs[i]? = some v) : ∃ t, ts[i]? = some t ∧ Rep K mg g t v := by
  have hl : i < ts.length := by rw [h.length]; exact (List.getElem?_eq_some_iff.mp e).1
  obtain ⟨v', e1, r⟩ := h.get (List.getElem?_eq_getElem hl)
  rw [e] at e1; cases e1
  exact ⟨_, List.getElem?_eq_getElem hl, r⟩
theorem RepL.nil : RepL K mg g [] [] := by simp only [RepL]
theorem RepL.cons {t : T} {v : V} {ts : List T} {vs : List V} (h1 : Rep K mg g t v) (h2 : RepL K mg g ts vs) : RepL K mg g (t :: ts) (v :: vs) := by
  simp only [RepL]; exact ⟨v, vs, rfl, h1, h2⟩
theorem RepL.append : ∀ {ts us : List T} {vs ws : List V}, RepL K mg g ts vs → RepL K mg g us ws → RepL K mg g (ts ++ us) (vs ++ ws)
  | [], us, vs, ws, h, q => by
    simp only [RepL] at h
    subst h; exact q
  | t :: ts, us, vs, ws, h, q => by
    simp only [RepL] at h
    obtain ⟨v, r, e, h1, h2⟩ := h
    subst e
    exact RepL.cons h1 (RepL.append h2 q)
theorem RepL.drop : ∀ {ts : List T} {vs : List V} (n : Nat), RepL K mg g ts vs → RepL K mg g (ts.drop n) (vs.drop n)
  | _, _, 0, h => h
  | [], vs, n + 1, h => by
    simp only [RepL] at h
    subst h; exact RepL.nil
  | t :: ts, vs, n + 1, h => by
    simp only [RepL] at h
    obtain ⟨v, r, e, h1, h2⟩ := h
    subst e
    exact RepL.drop n h2
theorem RepL.take : ∀ {ts : List T} {vs : List V} (n : Nat), RepL K mg g ts vs → RepL K mg g (ts.take n) (vs.take n)
  | ts, vs, 0, h => by
    rw [List.take_zero, List.take_zero]
    exact RepL.nil
  | [], vs, n + 1, h => by
    simp only [RepL] at h
    subst h; exact RepL.nil
  | t :: ts, vs, n + 1, h => by
    simp only [RepL] at h
    obtain ⟨v, r, e, h1, h2⟩ := h
    subst e
    exact RepL.cons h1 (RepL.take n h2)
theorem RepL.set : ∀ {ts : List T} {vs : List V} {t : T} {v : V} (i : Nat), RepL K mg g ts vs → Rep K mg g t v → RepL K mg g (ts.set i t) (vs.set i v)
  | [], vs, t, v, i, h, r => by
    simp only [RepL] at h
    subst h; exact RepL.nil
  | u :: ts, vs, t, v, 0, h, r => by
    simp only [RepL] at h
    obtain ⟨w, q, e, h1, h2⟩ := h
    subst e; exact RepL.cons r h2
  | u :: ts, vs, t, v, i + 1, h, r => by
    simp only [RepL] at h
    obtain ⟨w, q, e, h1, h2⟩ := h
    subst e; exact RepL.cons h1 (RepL.set i h2 r)
theorem RepL.one {t : T} {vs : List V} (h : RepL K mg g [t] vs) : ∃ v, vs = [v] ∧ Rep K mg g t v := by
  simp only [RepL] at h
  obtain ⟨v, r, e, h1, h2⟩ := h
  subst h2; exact ⟨v, e, h1⟩
theorem RepL.ints : ∀ (ns : List Int), RepL K mg g (ns.map T.int) (ns.map V.int)
  | [] => RepL.nil
  | n :: ns => RepL.cons (by simp only [Rep]) (RepL.ints ns)
theorem RepL.strs : ∀ (ns : List Str), RepL K mg g (ns.map T.str) (ns.map V.str)
  | [] => RepL.nil
  | n :: ns => RepL.cons (by simp only [Rep]) (RepL.strs ns)
theorem RepL.bls : ∀ (ns : List Bool), RepL K mg g (ns.map T.bl) (ns.map V.bl)
  | [] => RepL.nil
  | n :: ns => RepL.cons (by simp only [Rep]) (RepL.bls ns)
theorem Rep.sqT {xs : List T} {v : V} (h : Rep K mg g (.tup xs) v) : ∃ p vs, v = .ref p ∧ SqT K g.H p vs ∧ RepL K mg g xs vs := by
  simp only [Rep] at h
  obtain ⟨p, vs, e, h1, h2⟩ := h
  exact ⟨p, vs, e, h1.elim (fun z => .inl z.1) .inr, h2⟩
theorem Rep.sqL {xs : List T} {v : V} (h : Rep K mg g (.lst xs) v) : ∃ p vs, v = .ref p ∧ SqL K g.H p vs ∧ RepL K mg g xs vs := by
  simp only [Rep] at h
  obtain ⟨p, vs, e, h1, h2⟩ := h
  exact ⟨p, vs, e, .inl (.inl h1.1), h2⟩
theorem Rep.sqF {xs : List T} {v : V} (h : Rep K mg g (.frl xs) v) : ∃ p vs, v = .ref p ∧ SqL K g.H p vs ∧ RepL K mg g xs vs := by
  simp only [Rep] at h
  obtain ⟨p, vs, e, h1, h2⟩ := h
  exact ⟨p, vs, e, h1.elim (fun z => .inl (.inr z.1)) .inr, h2⟩
/-! ### a new value is laid -/
/-- g with o at a fresh place -/
def G.lay (g : G) (p : Addr) (o : HO) : G := { g with H := upd g.H p o }
theorem Rel.fresh_hid (R : Rel K mg g) {p : Addr} (hp : g.H p = none) (np : p ∉ g.pv) : ¬ g.hid p := by
  rintro (h | ⟨i, o, h1, h2, h3⟩)
  · exact np h
  · have := R.obj i p o h1 h2
    cases o with
    | dead => exact h3 rfl
    | lst xs => obtain ⟨vs, e, _⟩ := this; rw [hp] at e; cases e
    | dct ks ts => obtain ⟨vs, e, _⟩ := this; rw [hp] at e; cases e
    | ins c ns ts => obtain ⟨C, dx, fs, e, _⟩ := this; rw [hp] at e; cases e
theorem lay_sub {p : Addr} {o : HO} (hp : g.H p = none) : Sub g (g.lay p o) :=
  ⟨fun _ _ h => h, fun a u h n => ⟨by show upd g.H p o a = some u; rw [upd_ne (ne_of_none h hp)]; exact h, n⟩⟩
theorem RepO.sub {a : Addr} {o : MO} (e : Sub g g') (ho : ∀ u, g.H a = some u → g'.H a = some u) (h : RepO K mg g a o) : RepO K mg g' a o := by
  cases o with
  | dead => trivial
  | lst xs => obtain ⟨vs, h1, h2⟩ := h; exact ⟨vs, ho _ h1, h2.sub e⟩
  | dct ks ts => obtain ⟨kvs, h1, h2, h3⟩ := h; exact ⟨kvs, ho _ h1, h2, h3.sub e⟩
  | ins c ns ts => obtain ⟨C, dx, fs, h1, h2, h3, h4⟩ := h; exact ⟨C, dx, fs, ho _ h1, h2, h3, h4.sub e⟩
theorem lay_ext {p : Addr} {o : HO} (R : Rel K mg g) (hp : g.H p = none) : Ext g (g.lay p o) :=
  ⟨(lay_sub hp).rho, rfl, fun a ha => by
    obtain ⟨u, e⟩ := R.pvt a ha
    show upd g.H p o a = g.H a
    rw [upd_ne (ne_of_none e hp)], (lay_sub hp).keep⟩
theorem Rel.lay {p : Addr} {o : HO} (R : Rel K mg g) (hp : g.H p = none) : Rel K mg (g.lay p o) :=
  ⟨R.len, R.inj, R.npv, fun a ha => by
    obtain ⟨u, e⟩ := R.pvt a ha
    exact ⟨u, by show upd g.H p o a = some u; rw [upd_ne (ne_of_none e hp)]; exact e⟩, fun i a ha => by
    obtain ⟨u, e⟩ := R.tr i a ha
    exact ⟨u, by show upd g.H p o a = some u; rw [upd_ne (ne_of_none e hp)]; exact e⟩, fun i a u h1 h2 => (R.obj i a u h1 h2).sub (lay_sub hp) fun w hw => by
    show upd g.H p o a = some w
    rw [upd_ne (ne_of_none hw hp)]; exact hw⟩
theorem Rel.no_pv (R : Rel K mg g) {p : Addr} (hp : g.H p = none) : p ∉ g.pv := fun h => by
  obtain ⟨u, e⟩ := R.pvt p h
  rw [hp] at e; cases e
theorem Rel.nohid (R : Rel K mg g) {p : Addr} (hp : g.H p = none) : ¬ g.hid p := R.fresh_hid hp (R.no_pv hp)
theorem rep_tup {p : Addr} {xs : List T} {vs : List V} (R : Rel K mg g) (hp : g.H p = none) (r : RepL K mg g xs vs) : Rep K mg (g.lay p (.tup vs)) (.tup xs) (.ref p) := by
  simp only [Rep]
  exact ⟨p, vs, rfl, .inl ⟨.inl upd_same, R.nohid hp⟩, r.sub (lay_sub hp)⟩
theorem rep_lst {p : Addr} {xs : List T} {vs : List V} (R : Rel K mg g) (hp : g.H p = none) (r : RepL K mg g xs vs) : Rep K mg (g.lay p (.lst vs)) (.lst xs) (.ref p) := by
  simp only [Rep]
  exact ⟨p, vs, rfl, ⟨upd_same, R.nohid hp⟩, r.sub (lay_sub hp)⟩
end
/-! ### the readings of mirrors -/
section
variable (K : PySem.W.Frag) (mg : Str → Option Value) (W : WX)
def wpR (g : G) (σ : L2.St) (Q : VK) : R → Prop
  | .ok t h' => ∀ g' v, g'.h = h' → Ext g g' → Rel K mg g' → Rep K mg g' t v → Q v g'.H
  | .ex x h' => ∀ g' cls d, g'.h = h' → Ext g g' → Rel K mg g' → RepX K mg g' x cls d → W cls d σ g'.H
  | .stuck => False
def tM (m : ME) : TE := fun σ H Q => ∃ g s, g.H = H ∧ Rel K mg g ∧ RepS K mg g s σ ∧ wpR K mg W g σ Q (m s g.h)
def wpS (g : G) (D : Ends) : SR → Prop
  | .nx s' h' => ∀ g' σ', g'.h = h' → Ext g g' → Rel K mg g' → RepS K mg g' s' σ' → D.nx σ' g'.H
  | .bk s' h' => ∀ g' σ', g'.h = h' → Ext g g' → Rel K mg g' → RepS K mg g' s' σ' → D.bk σ' g'.H
  | .ct s' h' => ∀ g' σ', g'.h = h' → Ext g g' → Rel K mg g' → RepS K mg g' s' σ' → D.ct σ' g'.H
  | .rt t h' => ∀ g' v, g'.h = h' → Ext g g' → Rel K mg g' → Rep K mg g' t v → D.rt v g'.H
  | .ex x s' h' => ∀ g' σ' cls d, g'.h = h' → Ext g g' → Rel K mg g' → RepS K mg g' s' σ' → RepX K mg g' x cls d → W cls d σ' g'.H
  | .stuck => False
def tSM (m : MS) : TS := fun D σ H => ∃ g s, g.H = H ∧ Rel K mg g ∧ RepS K mg g s σ ∧ wpS K mg W g D (m s g.h)
end
theorem weakE {X : Cx} {e : Expr} {t t' : TE} (h : PE X e t) (k : ∀ σ H Q, t' σ H Q → t σ H Q) : PE X e t' := ⟨fun pins s σ H Q I q => h.run pins s σ H Q I (k σ H Q q)⟩
theorem weakT {X : Cx} {e : Expr} {t t' : TT} (h : PT X e t) (k : ∀ σ H Q, t' σ H Q → t σ H Q) : PT X e t' := ⟨fun pins s σ H Q I q => h.run pins s σ H Q I (k σ H Q q)⟩
theorem weakA {X : Cx} {e : List Expr} {t t' : TA} (h : PA X e t) (k : ∀ σ H Q, t' σ H Q → t σ H Q) : PA X e t' := ⟨fun p pins s σ H Q I q => h.run p pins s σ H Q I (k σ H Q q)⟩
theorem weakS {X : Cx} {e : Stmt} {t t' : TS} (h : PS X e t) (k : ∀ D σ H, t' D σ H → t D σ H) : PS X e t' := ⟨fun pins s σ H D I q => h.run pins s σ H D I (k D σ H q)⟩
theorem weakSs {X : Cx} {e : List Stmt} {t t' : TS} (h : PSs X e t) (k : ∀ D σ H, t' D σ H → t D σ H) : PSs X e t' := ⟨fun pins s σ H D I q => h.run pins s σ H D I (k D σ H q)⟩
section
variable {K : PySem.W.Frag} {mg : Str → Option Value} {W : WX} {g g' : G} {σ : L2.St} {Q Q' : VK} {D : Ends} {H : Hp}
theorem wpR.ext {r : R} (h : wpR K mg W g σ Q r) (e : Ext g g') : wpR K mg W g' σ Q r := by
  cases r with
  | ok t h' => exact fun g2 v q e2 => h g2 v q (e.trans e2)
  | ex x h' => exact fun g2 c d q e2 => h g2 c d q (e.trans e2)
  | stuck => exact h
theorem wpS.ext {r : SR} (h : wpS K mg W g D r) (e : Ext g g') : wpS K mg W g' D r := by
  cases r with
  | stuck => exact h
  | nx s' h' => exact fun g2 v q e2 => h g2 v q (e.trans e2)
  | bk s' h' => exact fun g2 v q e2 => h g2 v q (e.trans e2)
  | ct s' h' => exact fun g2 v q e2 => h g2 v q (e.trans e2)
  | rt s' h' => exact fun g2 v q e2 => h g2 v q (e.trans e2)
  | ex x s' h' => exact fun g2 v c d q e2 => h g2 v c d q (e.trans e2)
theorem wpR_bind {r : R} {f : T → MH → R} (h : wpR K mg W g σ Q (r.bind f)) (k : ∀ g' t v, Ext g g' → Rel K mg g' → Rep K mg g' t v → wpR K mg W g' σ Q (f t g'.h) → Q' v g'.H) : wpR K mg W g σ Q' r := by
  cases r with
  | ok t h' => exact fun g' v q e R r => k g' t v e R r (by subst q; exact wpR.ext h e)
  | ex x h' => exact h
  | stuck => exact h
/-- the value itself, as it stands -/
theorem wpR_here {t : T} {v : V} (h : wpR K mg W g σ Q (.ok t g.h)) (R : Rel K mg g) (r : Rep K mg g t v) : Q v g.H := h g v rfl (Ext.refl g) R r
/-- a new tuple, a new list -/
theorem wpR_tup {xs : List T} {vs : List V} {p : Addr} (h : wpR K mg W g σ Q (.ok (.tup xs) g.h)) (R : Rel K mg g) (r : RepL K mg g xs vs) (hp : g.H p = none) : Q (.ref p) (upd g.H p (.tup vs)) :=
  h (g.lay p (.tup vs)) (.ref p) rfl (lay_ext R hp) (R.lay hp) (rep_tup R hp r)
theorem wpR_lst {xs : List T} {vs : List V} {p : Addr} (h : wpR K mg W g σ Q (.ok (.lst xs) g.h)) (R : Rel K mg g) (r : RepL K mg g xs vs) (hp : g.H p = none) : Q (.ref p) (upd g.H p (.lst vs)) :=
  h (g.lay p (.lst vs)) (.ref p) rfl (lay_ext R hp) (R.lay hp) (rep_lst R hp r)
end
/-! ### expressions -/
section
variable {X : Cx} {W : WX} {a b c e : Expr} {ma mb mc : ME} {pos : Pos}
abbrev SE (X : Cx) (W : WX) (e : Expr) (m : ME) : Prop := PE X e (tM X.K X.mg W m)
def mVar (i : Nat) : ME := fun s h => match s[i]? with
  | some (some t) => .ok t h
  | _ => .stuck
def mC (t : T) : ME := fun _ h => .ok t h
theorem se_var {i : Nat} {x : Str} (hN : X.N[i]? = some x := by rfl) (hv : Vis X.env.scope x := by first | exact Or.inl rfl | exact Or.inr (Or.inl rfl) | exact Or.inr (Or.inr rfl)) (hd : (x == ("__debug__" : Str)) = false := by decide)
    (hcd : (x == ("__classdict__" : Str)) = false := by decide) : SE X W (.Name x pos) (mVar i) := by
  refine weakE (pe_var hN hv hd hcd) ?_
  rintro σ H Q ⟨g, s, rfl, R, S, h⟩
  unfold mVar at h
  split at h
  · rename_i t q
    obtain ⟨v, e1, r⟩ := S.2 i t q
    exact ⟨v, e1, wpR_here h R r⟩
  · exact h.elim
theorem se_c {t : T} {v : V} (he : PE X e (tC v)) (r : ∀ g, Rep X.K X.mg g t v) : SE X W e (mC t) := by
  refine weakE he ?_
  rintro σ H Q ⟨g, s, rfl, R, S, h⟩
  exact wpR_here h R (r g)
theorem se_int {i : Int} {j : Nat} : SE X W (.Constant (.int i) j pos) (mC (.int i)) := se_c pe_int fun g => by simp only [Rep]
theorem se_bl {i : Bool} {j : Nat} : SE X W (.Constant (.bool i) j pos) (mC (.bl i)) := se_c pe_bl fun g => by simp only [Rep]
theorem se_non {j : Nat} : SE X W (.Constant .none j pos) (mC .non) := se_c pe_non fun g => by simp only [Rep]
theorem se_str {i : Str} {j : Nat} : SE X W (.Constant (.str i) j pos) (mC (.str i)) := se_c pe_str fun g => by simp only [Rep]
/-- a rule's two-place operation and its mirror -/
def m2 (f : T → T → MH → R) (ma mb : ME) : ME := fun s h => (ma s h).bind fun t h1 => (mb s h1).bind fun u h2 => f t u h2
def OpM (X : Cx) (f : T → T → MH → R) (r : R2) : Prop := ∀ (W : WX) g σ t u x y Q, Rel X.K X.mg g → Rep X.K X.mg g t x → Rep X.K X.mg g u y → wpR X.K X.mg W g σ Q (f t u g.h) → r x y g.H Q
theorem use2 {f : T → T → MH → R} {r : R2} (hm : OpM X f r) {σ : L2.St} {H : Hp} {Q : VK} (h : tM X.K X.mg W (m2 f ma mb) σ H Q) : tOp r (tM X.K X.mg W ma) (tM X.K X.mg W mb) σ H Q := by
  obtain ⟨g, s, rfl, R, S, h⟩ := h
  refine ⟨g, s, rfl, R, S, wpR_bind h fun g1 t x e1 R1 r1 h1 => ⟨g1, s, rfl, R1, S.mono e1, wpR_bind h1 fun g2 u y e2 R2 r2 h2 => ?_⟩⟩
  exact hm W g2 σ t u x y Q R2 (r1.mono e2) r2 h2
theorem se_op {op : Operator} {f : T → T → MH → R} {r : R2} (ho : OpR X (binaryOp op) r) (hm : OpM X f r) (ha : SE X W a ma) (hb : SE X W b mb) : SE X W (.BinOp a op b pos) (m2 f ma mb) :=
  weakE (pe_op ho ha hb) fun _ _ _ h => use2 hm h
theorem se_cmp {op : CmpOp} {f : T → T → MH → R} {r : R2} (ho : OpR X (compareOp op) r) (hm : OpM X f r) (ha : SE X W a ma) (hb : SE X W b mb) (hmk : behindInMarks op b = false) : SE X W (.Compare a [op] [b] pos) (m2 f ma mb) :=
  weakE (pe_cmpR ho ha hb hmk) fun _ _ _ h => use2 hm h
end
end Mi
end part_Mi0
section part_Mi1
set_option maxRecDepth 100000
set_option maxHeartbeats 2000000
/-! Mi, part 1: operators by values. -/
namespace Mi
open PySem PySem.Spec PyProof.Rows L2
def big : Nat := 100000
theorem big_le {n : Nat} (h : n ≤ big) : n ≤ sizeLine := Nat.le_trans h (by rw [sizeLine_eq]; decide)
section
variable {X : Cx} {K : PySem.W.Frag} {mg : Str → Option Value} {W : WX} {g : G} {σ : L2.St} {Q : VK}
theorem rep_int {i : Int} {v : V} (h : Rep K mg g (.int i) v) : v = .int i := by simpa only [Rep] using h
theorem rep_str {i : Str} {v : V} (h : Rep K mg g (.str i) v) : v = .str i := by simpa only [Rep] using h
theorem rep_bl {i : Bool} {v : V} (h : Rep K mg g (.bl i) v) : v = .bl i := by simpa only [Rep] using h
theorem rep_non {v : V} (h : Rep K mg g .non v) : v = .non := by simpa only [Rep] using h
theorem rInt {i : Int} : Rep K mg g (.int i) (.int i) := by simp only [Rep]
theorem rStr {i : Str} : Rep K mg g (.str i) (.str i) := by simp only [Rep]
theorem rBl {i : Bool} : Rep K mg g (.bl i) (.bl i) := by simp only [Rep]
theorem rNon : Rep K mg g .non .non := by simp only [Rep]
theorem rep_lst_at {xs : List T} {v : V} (h : Rep K mg g (.lst xs) v) : ∃ p vs, v = .ref p ∧ g.H p = some (.lst vs) ∧ RepL K mg g xs vs := by
  simp only [Rep] at h
  obtain ⟨p, vs, e, h1, h2⟩ := h
  exact ⟨p, vs, e, h1.1, h2⟩
/-! ### + - * // % ** -/
def fAdd : T → T → MH → R := fun t u h => match t, u with
  | .int i, .int j => .ok (.int (i + j)) h
  | .str a, .str b => if a.length + b.length ≤ big then .ok (.str (a ++ b)) h else .stuck
  | .lst a, .lst b => if a.length + b.length ≤ big then .ok (.lst (a ++ b)) h else .stuck
  | .tup a, .tup b => if a.length + b.length ≤ big then .ok (.tup (a ++ b)) h else .stuck
  | _, _ => .stuck
abbrev rAddV (K : PySem.W.Frag) : R2 := fun x y H Q => (rI0 fun i j => .int (i + j)) x y H Q ∨ (fun x y H Q => (∃ i j, x = .str i ∧ y = .str j ∧ i.length + j.length ≤ sizeLine ∧ Q (.str (i ++ j)) H) ∨ (fun x y H Q => rCat x y H Q ∨ rCatA K x y H Q) x y H Q) x y H Q
theorem op_addV : OpR X (binaryOp .Add) (rAddV X.K) := op_add.or (op_add_str.or (op_cat.or op_catA))
theorem mAddV : OpM X fAdd (rAddV X.K) := by
  intro W g σ t u x y Q R r1 r2 h
  cases t with
  | int i => cases u with
    | int j => rw [rep_int r1, rep_int r2]; exact .inl ⟨i, j, rfl, rfl, wpR_here h R rInt⟩
    | _ => exact h.elim
  | str a => cases u with
    | str b =>
      rw [rep_str r1, rep_str r2]
      unfold fAdd at h
      dsimp only at h
      split at h
      · rename_i q; exact .inr (.inl ⟨a, b, rfl, rfl, big_le q, wpR_here h R rStr⟩)
      · exact h.elim
    | _ => exact h.elim
  | lst a => cases u with
    | lst b =>
      obtain ⟨p, vs, rfl, h1, l1⟩ := rep_lst_at r1
      obtain ⟨q, ws, rfl, h2, l2⟩ := rep_lst_at r2
      unfold fAdd at h
      dsimp only at h
      split at h
      · rename_i z
        refine .inr (.inr (.inl ⟨p, q, vs, ws, rfl, rfl, h1, h2, big_le (by rw [← l1.length, ← l2.length]; exact z), fun r hr => wpR_lst h R (l1.append l2) hr⟩))
      · exact h.elim
    | _ => exact h.elim
  | tup a => cases u with
    | tup b =>
      obtain ⟨p, vs, e1, h1, l1⟩ := r1.sqT
      obtain ⟨q, ws, e2, h2, l2⟩ := r2.sqT
      subst e1 e2
      unfold fAdd at h
      dsimp only at h
      split at h
      · rename_i z
        refine .inr (.inr (.inr ⟨p, q, vs, ws, rfl, rfl, h1, h2, big_le (by rw [← l1.length, ← l2.length]; exact z), fun e => ?_, fun e1 e2 => ?_, fun e1 e2 r hr => wpR_tup h R (l1.append l2) hr⟩))
        · subst e
          have : a = [] := List.eq_nil_of_length_eq_zero (by rw [l1.length]; rfl)
          subst this
          exact wpR_here h R r2
        · subst e2
          have : b = [] := List.eq_nil_of_length_eq_zero (by rw [l2.length]; rfl)
          subst this
          rw [List.append_nil] at h
          exact wpR_here h R r1
      · exact h.elim
    | _ => exact h.elim
  | _ => exact h.elim
/-- a rule on two ints -/
def fI (C : Int → Int → Bool) (f : Int → Int → T) : T → T → MH → R := fun t u h => match t, u with
  | .int i, .int j => if C i j then .ok (f i j) h else .stuck
  | _, _ => .stuck
theorem mI {Cb : Int → Int → Bool} {C : Int → Int → Prop} {f : Int → Int → T} {fV : Int → Int → V} (hC : ∀ i j, Cb i j = true → C i j) (hf : ∀ (K : PySem.W.Frag) mg g i j, Rep K mg g (f i j) (fV i j)) : OpM X (fI Cb f) (rI C fV) := by
  intro W g σ t u x y Q R r1 r2 h
  cases t with
  | int i => cases u with
    | int j =>
      rw [rep_int r1, rep_int r2]
      unfold fI at h
      dsimp only at h
      split at h
      · rename_i q; exact ⟨i, j, rfl, rfl, hC i j q, wpR_here h R (hf _ _ _ i j)⟩
      · exact h.elim
    | _ => exact h.elim
  | _ => exact h.elim
theorem mI0 {f : Int → Int → T} {fV : Int → Int → V} (hf : ∀ (K : PySem.W.Frag) mg g i j, Rep K mg g (f i j) (fV i j)) : OpM X (fI (fun _ _ => true) f) (rI0 fV) := by
  intro W g σ t u x y Q R r1 r2 h
  obtain ⟨i, j, e1, e2, _, q⟩ := mI (X := X) (Cb := fun _ _ => true) (C := fun _ _ => True) (fun _ _ _ => trivial) hf W g σ t u x y Q R r1 r2 h
  exact ⟨i, j, e1, e2, q⟩
def fSub := fI (fun _ _ => true) fun i j => .int (i - j)
theorem mSubV : OpM X fSub (rI0 fun i j => .int (i - j)) := mI0 fun _ _ _ _ _ => rInt
def fFdiv := fI (fun _ j => decide (0 < j) && decide (j < 1073741824)) fun i j => .int (i / j)
theorem mFdivV : OpM X fFdiv (rI CDiv fun i j => .int (i / j)) := mI (fun i j h => by simpa [CDiv] using h) fun _ _ _ _ _ => rInt
def fMod := fI (fun _ j => decide (0 < j)) fun i j => .int (i % j)
theorem mModV : OpM X fMod (rI (fun _ j => 0 < j) fun i j => .int (i % j)) := mI (fun i j h => by simpa using h) fun _ _ _ _ _ => rInt
def fPow := fI (fun i j => decide (0 ≤ j) && decide (j ≤ 1000) && decide (i.natAbs < 1000)) fun i j => .int (i ^ j.toNat)
theorem mPowV : OpM X fPow (rI CPow fun i j => .int (i ^ j.toNat)) := mI (fun i j h => by
  simp only [Bool.and_eq_true, decide_eq_true_eq] at h
  exact ⟨h.1.1, by omega, by omega⟩) fun _ _ _ _ _ => rInt
/-! ### comparisons of ints and texts -/
def fCmp (fi : Int → Int → Bool) (fs : List Nat → List Nat → Bool) : T → T → MH → R := fun t u h => match t, u with
  | .int i, .int j => .ok (.bl (fi i j)) h
  | .str a, .str b => .ok (.bl (fs a.cps.toList b.cps.toList)) h
  | _, _ => .stuck
abbrev rCmp (fi : Int → Int → Bool) (fs : List Nat → List Nat → Bool) : R2 := fun x y H Q => (rI0 fun i j => .bl (fi i j)) x y H Q ∨ (fun x y H Q => ∃ i j, x = .str i ∧ y = .str j ∧ Q (.bl (fs i.cps.toList j.cps.toList)) H) x y H Q
theorem mCmp {fi : Int → Int → Bool} {fs : List Nat → List Nat → Bool} : OpM X (fCmp fi fs) (rCmp fi fs) := by
  intro W g σ t u x y Q R r1 r2 h
  cases t with
  | int i => cases u with
    | int j => rw [rep_int r1, rep_int r2]; exact .inl ⟨i, j, rfl, rfl, wpR_here h R rBl⟩
    | _ => exact h.elim
  | str i => cases u with
    | str j => rw [rep_str r1, rep_str r2]; exact .inr ⟨i, j, rfl, rfl, wpR_here h R rBl⟩
    | _ => exact h.elim
  | _ => exact h.elim
def fLt := fCmp (fun i j => decide (i < j)) fun a b => decide (a < b)
def fLe := fCmp (fun i j => decide (i ≤ j)) fun a b => !decide (b < a)
def fGt := fCmp (fun i j => decide (j < i)) fun a b => decide (b < a)
def fGe := fCmp (fun i j => decide (j ≤ i)) fun a b => !decide (a < b)
theorem op_ltV : OpR X (compareOp .Lt) (rCmp (fun i j => decide (i < j)) fun a b => decide (a < b)) := op_lt.or op_lt_str
theorem op_leV : OpR X (compareOp .LtE) (rCmp (fun i j => decide (i ≤ j)) fun a b => !decide (b < a)) := op_le.or op_le_str
theorem op_gtV : OpR X (compareOp .Gt) (rCmp (fun i j => decide (j < i)) fun a b => decide (b < a)) := op_gt.or op_gt_str
theorem op_geV : OpR X (compareOp .GtE) (rCmp (fun i j => decide (j ≤ i)) fun a b => !decide (a < b)) := op_ge.or op_ge_str
theorem mLtV : OpM X fLt (rCmp (fun i j => decide (i < j)) fun a b => decide (a < b)) := mCmp
theorem mLeV : OpM X fLe (rCmp (fun i j => decide (i ≤ j)) fun a b => !decide (b < a)) := mCmp
theorem mGtV : OpM X fGt (rCmp (fun i j => decide (j < i)) fun a b => decide (b < a)) := mCmp
theorem mGeV : OpM X fGe (rCmp (fun i j => decide (j ≤ i)) fun a b => !decide (a < b)) := mCmp
/-! ### == of data -/
mutual
def toD : T → Option PyData
  | .non => some .none
  | .bl b => some (.bool b)
  | .int i => some (.int i)
  | .str s => some (.str s)
  | .tup xs => (toDs xs).map .tuple
  | .lst xs => (toDs xs).map .list
  | .frl xs => (toDs xs).map .list
  | .dct _ _ => none
  | .obj _ _ _ => none
  | .ref _ => none
def toDs : List T → Option (List PyData)
  | [] => some []
  | t :: ts => match toD t, toDs ts with
    | some d, some ds => some (d :: ds)
    | _, _ => none
end
theorem dpAll_of : ∀ {ts : List T} {vs : List V} {ds : List PyData}, (∀ t ∈ ts, ∀ v d, Rep K mg g t v → toD t = some d → Dp K g.H v d) → RepL K mg g ts vs → toDs ts = some ds → DpAll K g.H vs ds
  | [], vs, ds, _, r, e => by
    simp only [RepL] at r
    simp only [toDs] at e
    cases e; subst r
    exact .nil
  | t :: ts, vs, ds, f, r, e => by
    simp only [RepL] at r
    obtain ⟨v, w, rfl, r1, r2⟩ := r
    simp only [toDs] at e
    split at e
    · rename_i d1 ds1 e1 e2
      cases e
      exact .cons (f t List.mem_cons_self v d1 r1 e1) (dpAll_of (fun u hu => f u (List.mem_cons_of_mem _ hu)) r2 e2)
    · cases e
theorem dp_of : ∀ (t : T) (v : V) (d : PyData), Rep K mg g t v → toD t = some d → Dp K g.H v d := by
  intro t
  induction t using T.ind with
  | non => intro v d r e; rw [rep_non r]; simp only [toD] at e; cases e; exact .non
  | bl b => intro v d r e; rw [rep_bl r]; simp only [toD] at e; cases e; exact .bl b
  | int i => intro v d r e; rw [rep_int r]; simp only [toD] at e; cases e; exact .int i
  | str s => intro v d r e; rw [rep_str r]; simp only [toD] at e; cases e; exact .str s
  | tup xs ih =>
    intro v d r e
    simp only [toD] at e
    cases q : toDs xs with
    | none => rw [q] at e; cases e
    | some ds =>
      rw [q] at e; cases e
      obtain ⟨p, vs, e1, h1, l1⟩ := r.sqT
      subst e1
      exact .tup h1 (dpAll_of ih l1 q)
  | lst xs ih =>
    intro v d r e
    simp only [toD] at e
    cases q : toDs xs with
    | none => rw [q] at e; cases e
    | some ds =>
      rw [q] at e; cases e
      obtain ⟨p, vs, e1, h1, l1⟩ := r.sqL
      subst e1
      exact .lst h1 (dpAll_of ih l1 q)
  | frl xs ih =>
    intro v d r e
    simp only [toD] at e
    cases q : toDs xs with
    | none => rw [q] at e; cases e
    | some ds =>
      rw [q] at e; cases e
      obtain ⟨p, vs, e1, h1, l1⟩ := r.sqF
      subst e1
      exact .lst h1 (dpAll_of ih l1 q)
  | dct ks vs _ _ => intro v d r e; simp only [toD] at e; cases e
  | obj c ns vs _ => intro v d r e; simp only [toD] at e; cases e
  | ref i => intro v d r e; simp only [toD] at e; cases e
/-- two values as data -/
def with2 (t u : T) (f : PyData → PyData → R) : R := match toD t, toD u with
  | some d, some e => if SeqAt.shaped d && SeqAt.shaped e then f d e else .stuck
  | _, _ => .stuck
theorem with2_ok {t u : T} {f : PyData → PyData → R} {C : Prop} (h : wpR K mg W g σ Q (with2 t u f)) (k : ∀ d e, toD t = some d → toD u = some e → SeqAt.shaped d = true → SeqAt.shaped e = true → wpR K mg W g σ Q (f d e) → C) : C := by
  unfold with2 at h
  split at h
  · rename_i d e h1 h2
    split at h
    · rename_i q
      obtain ⟨q1, q2⟩ := Bool.and_eq_true_iff.mp q
      exact k d e h1 h2 q1 q2 h
    · exact h.elim
  · exact h.elim
def fEq : T → T → MH → R := fun t u h => match t, u with
  | .str a, .str b => .ok (.bl (decide (a = b))) h
  | _, _ => with2 t u fun d e => .ok (.bl (PyData.eqv d e)) h
def fNe : T → T → MH → R := fun t u h => match t, u with
  | .str a, .str b => .ok (.bl (!decide (a = b))) h
  | _, _ => with2 t u fun d e => .ok (.bl (!PyData.eqv d e)) h
abbrev rEqA (K : PySem.W.Frag) : R2 := fun x y H Q => rEqD K x y H Q ∨ rEq x y H Q
abbrev rNeA (K : PySem.W.Frag) : R2 := fun x y H Q => rNeD K x y H Q ∨ rNe x y H Q
theorem op_eqA (hu : X.A.units + 64 < cLine) : OpR X (compareOp .Eq) (rEqA X.K) := (op_eqD hu).or op_eq
theorem op_neA (hu : X.A.units + 64 < cLine) : OpR X (compareOp .NotEq) (rNeA X.K) := (op_neD hu).or op_ne
theorem dec_strV {a b : Str} : decide (V.str a = V.str b) = decide (a = b) := by
  by_cases h : a = b
  · subst h; rw [decide_eq_true rfl, decide_eq_true rfl]
  · rw [decide_eq_false h, decide_eq_false fun e => h (by injection e)]
theorem mEqV : OpM X fEq (rEqA X.K) := by
  intro W g σ t u x y Q R r1 r2 h
  unfold fEq at h
  split at h
  · rename_i a b
    rw [rep_str r1, rep_str r2]
    refine .inr ⟨rfl, ?_⟩
    rw [dec_strV]
    exact wpR_here h R rBl
  · exact .inl (with2_ok h fun d e h1 h2 s1 s2 q => ⟨d, e, dp_of t x d r1 h1, dp_of u y e r2 h2, s1, s2, wpR_here q R rBl⟩)
theorem mNeV : OpM X fNe (rNeA X.K) := by
  intro W g σ t u x y Q R r1 r2 h
  unfold fNe at h
  split at h
  · rename_i a b
    rw [rep_str r1, rep_str r2]
    refine .inr ⟨rfl, ?_⟩
    rw [dec_strV]
    exact wpR_here h R rBl
  · exact .inl (with2_ok h fun d e h1 h2 s1 s2 q => ⟨d, e, dp_of t x d r1 h1, dp_of u y e r2 h2, s1, s2, wpR_here q R rBl⟩)
/-! ### is None, is True -/
def fIs (neg : Bool) : T → T → MH → R := fun t u h => match t, u with
  | .bl a, .bl b => .ok (.bl (if neg then !decide (a = b) else decide (a = b))) h
  | .non, .non => .ok (.bl (if neg then false else true)) h
  | .bl _, .non | .int _, .non | .str _, .non | .tup _, .non | .lst _, .non | .frl _, .non | .dct _ _, .non | .obj _ _ _, .non | .ref _, .non => .ok (.bl (if neg then true else false)) h
  | _, _ => .stuck
abbrev rIsV (neg : Bool) : R2 := fun x y H Q => (fun x y H Q => y = .non ∧ Q (.bl (if neg then !decide (x = .non) else decide (x = .non))) H) x y H Q ∨ (fun x y H Q => ∃ a b, x = .bl a ∧ y = .bl b ∧ Q (.bl (if neg then !decide (a = b) else decide (a = b))) H) x y H Q
theorem op_isV : OpR X (compareOp .Is) (rIsV false) := op_isN.or op_is_bl
theorem op_isnotV : OpR X (compareOp .IsNot) (rIsV true) := op_notN.or op_isnot_bl
theorem ref_no {p : Addr} : ¬ (V.ref p = V.non) := by intro h; cases h
theorem mIsV {neg : Bool} : OpM X (fIs neg) (rIsV neg) := by
  intro W g σ t u x y Q R r1 r2 h
  cases u with
  | non =>
    rw [rep_non r2]
    refine .inl ⟨rfl, ?_⟩
    have key : ∀ b : Bool, decide (x = V.non) = b → wpR X.K X.mg W g σ Q (.ok (.bl (if neg then !b else b)) g.h) → Q (.bl (if neg = true then !decide (x = V.non) else decide (x = V.non))) g.H := fun b e q => by
      rw [e]; exact wpR_here q R rBl
    cases t with
    | non => exact key true (by rw [rep_non r1]; rfl) h
    | bl b => exact key false (by rw [rep_bl r1]; rfl) h
    | int b => exact key false (by rw [rep_int r1]; rfl) h
    | str b => exact key false (by rw [rep_str r1]; rfl) h
    | tup b => obtain ⟨p, _, e, _⟩ := r1.sqT; exact key false (by rw [e]; rfl) h
    | lst b => obtain ⟨p, _, e, _⟩ := r1.sqL; exact key false (by rw [e]; rfl) h
    | frl b => obtain ⟨p, _, e, _⟩ := r1.sqF; exact key false (by rw [e]; rfl) h
    | dct a b => simp only [Rep] at r1; obtain ⟨p, _, e, _⟩ := r1; exact key false (by rw [e]; rfl) h
    | obj a b c => simp only [Rep] at r1; obtain ⟨p, _, _, _, e, _⟩ := r1; exact key false (by rw [e]; rfl) h
    | ref i => simp only [Rep] at r1; obtain ⟨p, e, _⟩ := r1; exact key false (by rw [e]; rfl) h
  | bl b => cases t with
    | bl a => rw [rep_bl r1, rep_bl r2]; exact .inr ⟨a, b, rfl, rfl, wpR_here h R rBl⟩
    | _ => exact h.elim
  | _ => cases t <;> exact h.elim
end
end Mi
end part_Mi1
section part_Mi2
set_option maxRecDepth 100000
set_option maxHeartbeats 2000000
/-! Mi, part 2: tests, conditional expressions, argument lists, displays, subscripts, slices, built-in functions. -/
namespace Mi
open PySem PySem.Spec PyProof.Rows L2
section
variable {X : Cx} {K : PySem.W.Frag} {mg : Str → Option Value} {W : WX} {g : G} {σ : L2.St} {Q : VK}
/-! ### tests -/
def wpT (K : PySem.W.Frag) (mg : Str → Option Value) (W : WX) (g : G) (σ : L2.St) (Q : Bool → Hp → Prop) : R → Prop
  | .ok (.bl b) h' => ∀ g', g'.h = h' → Ext g g' → Rel K mg g' → Q b g'.H
  | .ok _ _ => False
  | .ex x h' => ∀ g' cls d, g'.h = h' → Ext g g' → Rel K mg g' → RepX K mg g' x cls d → W cls d σ g'.H
  | .stuck => False
def tMT (K : PySem.W.Frag) (mg : Str → Option Value) (W : WX) (m : ME) : TT := fun σ H Q => ∃ g s, g.H = H ∧ Rel K mg g ∧ RepS K mg g s σ ∧ wpT K mg W g σ Q (m s g.h)
abbrev ST (X : Cx) (W : WX) (e : Expr) (m : ME) : Prop := PT X e (tMT X.K X.mg W m)
theorem wpT.ext {Q : Bool → Hp → Prop} {g g' : G} {r : R} (h : wpT K mg W g σ Q r) (e : Ext g g') : wpT K mg W g' σ Q r := by
  cases r with
  | ok t h' => cases t with
    | bl b => exact fun g2 q e2 => h g2 q (e.trans e2)
    | _ => exact h
  | ex x h' => exact fun g2 c d q e2 => h g2 c d q (e.trans e2)
  | stuck => exact h
theorem wpT_bind {Q : Bool → Hp → Prop} {Q' : VK} {r : R} {f : T → MH → R} (h : wpT K mg W g σ Q (r.bind f)) (k : ∀ g' t v, Ext g g' → Rel K mg g' → Rep K mg g' t v → wpT K mg W g' σ Q (f t g'.h) → Q' v g'.H) : wpR K mg W g σ Q' r := by
  cases r with
  | ok t h' => exact fun g' v q e R r => k g' t v e R r (by subst q; exact wpT.ext h e)
  | ex x h' => exact h
  | stuck => exact h
theorem wpT_bindT {Q Q' : Bool → Hp → Prop} {r : R} {f : T → MH → R} (h : wpT K mg W g σ Q (r.bind f)) (hb : ∀ t h, (∀ b, t ≠ .bl b) → f t h = .stuck) (k : ∀ g' b, Ext g g' → Rel K mg g' → wpT K mg W g' σ Q (f (.bl b) g'.h) → Q' b g'.H) : wpT K mg W g σ Q' r := by
  cases r with
  | ok t h' =>
    by_cases hx : ∃ b, t = .bl b
    · obtain ⟨b, rfl⟩ := hx
      exact fun g' q e R => k g' b e R (by subst q; exact wpT.ext h e)
    · have z := hb t h' (fun b e => hx ⟨b, e⟩)
      have h2 : wpT K mg W g σ Q (f t h') := h
      rw [z] at h2
      exact h2.elim
  | ex x h' => exact h
  | stuck => exact h
theorem wpT_here {Q : Bool → Hp → Prop} {b : Bool} (h : wpT K mg W g σ Q (.ok (.bl b) g.h)) (R : Rel K mg g) : Q b g.H := h g rfl (Ext.refl g) R
/-- truth -/
def fTru : T → MH → R := fun t h => match t with
  | .non => .ok (.bl false) h
  | .bl b => .ok (.bl b) h
  | .int i => .ok (.bl (i != 0)) h
  | .str s => if s.length ≤ big then .ok (.bl ((s.length : Int) != 0)) h else .stuck
  | .tup xs => .ok (.bl (!xs.isEmpty)) h
  | .lst xs => .ok (.bl (!xs.isEmpty)) h
  | .frl xs => .ok (.bl (!xs.isEmpty)) h
  | .ref i => match h[i]? with
    | some (.lst xs) => .ok (.bl (!xs.isEmpty)) h
    | _ => .stuck
  | _ => .stuck
theorem isEmpty_L {xs : List T} {vs : List V} (r : RepL K mg g xs vs) : xs.isEmpty = vs.isEmpty := by
  have := r.length
  cases xs <;> cases vs <;> simp_all
theorem Rel.lst_at (R : Rel K mg g) {i : Nat} {v : V} {xs : List T} (r : Rep K mg g (.ref i) v) (h : g.h[i]? = some (.lst xs)) : ∃ p vs, v = .ref p ∧ g.rho[i]? = some p ∧ g.H p = some (.lst vs) ∧ RepL K mg g xs vs := by
  simp only [Rep] at r
  obtain ⟨p, rfl, hp⟩ := r
  obtain ⟨vs, h1, h2⟩ := R.obj i p _ hp h
  exact ⟨p, vs, rfl, hp, h1, h2⟩
theorem tru_of {t : T} {v : V} (R : Rel K mg g) (r : Rep K mg g t v) : ∀ b, fTru t g.h = .ok (.bl b) g.h → TruV K v g.H b := by
  intro b h
  unfold fTru at h
  cases t with
  | non => rw [rep_non r]; cases h; rfl
  | bl c => rw [rep_bl r]; cases h; rfl
  | int i => rw [rep_int r]; cases h; rfl
  | str s =>
    rw [rep_str r]
    dsimp only at h
    split at h
    · rename_i q; cases h; exact ⟨big_le q, rfl⟩
    · cases h
  | tup xs => obtain ⟨p, vs, rfl, h1, l1⟩ := r.sqT; cases h; exact .inr (.inl ⟨vs, h1, by rw [isEmpty_L l1]⟩)
  | lst xs => obtain ⟨p, vs, rfl, h1, l1⟩ := r.sqL; cases h; exact .inl ⟨vs, h1, by rw [isEmpty_L l1]⟩
  | frl xs => obtain ⟨p, vs, rfl, h1, l1⟩ := r.sqF; cases h; exact .inl ⟨vs, h1, by rw [isEmpty_L l1]⟩
  | ref i =>
    dsimp only at h
    split at h
    · rename_i xs q
      obtain ⟨p, vs, rfl, _, h1, l1⟩ := R.lst_at r q
      cases h
      exact .inl ⟨vs, SqL.of h1, by rw [isEmpty_L l1]⟩
    · cases h
  | _ => cases h
theorem fTru_ok (t : T) (h : MH) : (∃ b, fTru t h = .ok (.bl b) h) ∨ fTru t h = .stuck := by
  unfold fTru
  cases t with
  | str s => dsimp only; split <;> first | exact .inl ⟨_, rfl⟩ | exact .inr rfl
  | ref i => dsimp only; split <;> first | exact .inl ⟨_, rfl⟩ | exact .inr rfl
  | _ => first | exact .inl ⟨_, rfl⟩ | exact .inr rfl
def mTru (m : ME) : ME := fun s h => (m s h).bind fTru
variable {a b c e : Expr} {ma mb mc : ME} {pos : Pos} {rest : List Expr}
/-- any expression as a test, by its value's truth -/
theorem st_val (ha : SE X W a ma) (he : ∀ whole, isTrue a X.env whole = (do let v ← whole; standAt a.pos; holding [v] (truthy v)) := by intro _; rfl) : ST X W a (mTru ma) := by
  refine weakT (pt_truth ha he) ?_
  rintro σ H Q ⟨g, s, rfl, R, S, h⟩
  refine ⟨g, s, rfl, R, S, wpT_bind h fun g1 t v e1 R1 r1 h1 => ?_⟩
  rcases fTru_ok t g1.h with ⟨b, q⟩ | q
  · rw [q] at h1
    exact ⟨b, tru_of R1 r1 b q, wpT_here h1 R1⟩
  · rw [q] at h1; exact h1.elim
/-- a comparison as a test -/
theorem st_cmp {op : CmpOp} {f : T → T → MH → R} {r : R2} (ho : OpR X (compareOp op) r) (hm : OpM X f r) (hb' : ∀ t u h, (∃ b, f t u h = .ok (.bl b) h) ∨ f t u h = .stuck) (ha : SE X W a ma) (hb : SE X W b mb) (hmk : behindInMarks op b = false) : ST X W (.Compare a [op] [b] pos) (m2 f ma mb) := by
  refine weakT (pt_cmpR ho ha hb hmk) ?_
  rintro σ H Q ⟨g, s, rfl, R, S, h⟩
  refine ⟨g, s, rfl, R, S, wpT_bind h fun g1 t x e1 R1 r1 h1 => ⟨g1, s, rfl, R1, S.mono e1, wpT_bind h1 fun g2 u y e2 R2 r2 h2 => ?_⟩⟩
  refine hm W g2 σ t u x y _ R2 (r1.mono e2) r2 ?_
  rcases hb' t u g2.h with ⟨b, q⟩ | q
  · rw [q] at h2 ⊢
    exact fun g3 v q3 e3 R3 r3 => ⟨b, rep_bl r3, h2 g3 q3 e3 R3⟩
  · rw [q] at h2; exact h2.elim
/-- and, or, not as tests -/
def fAnd (mb : ME) (s : SM) : T → MH → R := fun t h => match t with
  | .bl true => mb s h
  | .bl false => .ok (.bl false) h
  | _ => .stuck
def fOr (mb : ME) (s : SM) : T → MH → R := fun t h => match t with
  | .bl true => .ok (.bl true) h
  | .bl false => mb s h
  | _ => .stuck
def fNot : T → MH → R := fun t h => match t with
  | .bl b => .ok (.bl (!b)) h
  | _ => .stuck
def mAnd (ma mb : ME) : ME := fun s h => (ma s h).bind (fAnd mb s)
def mOr (ma mb : ME) : ME := fun s h => (ma s h).bind (fOr mb s)
def mNot (ma : ME) : ME := fun s h => (ma s h).bind fNot
abbrev SW (X : Cx) (W : WX) (e : Expr) (m : ME) : Prop := PW X e (tMT X.K X.mg W m)
theorem sw_and1 (ha : ST X W a ma) : SW X W (.BoolOp .And [a] pos) ma := pw_and1 ha
theorem sw_or1 (ha : ST X W a ma) : SW X W (.BoolOp .Or [a] pos) ma := pw_or1 ha
theorem weakW {X : Cx} {e : Expr} {t t' : TT} (h : PW X e t) (k : ∀ σ H Q, t' σ H Q → t σ H Q) : PW X e t' := ⟨fun w pins s σ H Q I q => h.run w pins s σ H Q I (k σ H Q q)⟩
theorem sw_and (ha : ST X W a ma) (hb : SW X W (.BoolOp .And (b :: rest) pos) mb) : SW X W (.BoolOp .And (a :: b :: rest) pos) (mAnd ma mb) := by
  refine weakW (pw_and ha hb) ?_
  rintro σ H Q ⟨g, s, rfl, R, S, h⟩
  refine ⟨g, s, rfl, R, S, wpT_bindT h (fun t h k => by cases t <;> first | exact absurd rfl (k _) | rfl) fun g1 b e1 R1 h1 => ?_⟩
  cases b with
  | true => exact iteT ⟨g1, s, rfl, R1, S.mono e1, h1⟩
  | false => exact iteF (wpT_here h1 R1)
theorem sw_or (ha : ST X W a ma) (hb : SW X W (.BoolOp .Or (b :: rest) pos) mb) : SW X W (.BoolOp .Or (a :: b :: rest) pos) (mOr ma mb) := by
  refine weakW (pw_or ha hb) ?_
  rintro σ H Q ⟨g, s, rfl, R, S, h⟩
  refine ⟨g, s, rfl, R, S, wpT_bindT h (fun t h k => by cases t <;> first | exact absurd rfl (k _) | rfl) fun g1 b e1 R1 h1 => ?_⟩
  cases b with
  | true => exact iteT (wpT_here h1 R1)
  | false => exact iteF ⟨g1, s, rfl, R1, S.mono e1, h1⟩
theorem sw_st (h : SW X W e ma) : ST X W e ma := h.pt
theorem st_not (ha : ST X W a ma) : ST X W (.UnaryOp .Not a pos) (mNot ma) := by
  refine weakT (pt_not ha) ?_
  rintro σ H Q ⟨g, s, rfl, R, S, h⟩
  exact ⟨g, s, rfl, R, S, wpT_bindT h (fun t h k => by cases t <;> first | exact absurd rfl (k _) | rfl) fun g1 b e1 R1 h1 => wpT_here h1 R1⟩
/-- a if c else b -/
def fIf (ma mb : ME) (s : SM) : T → MH → R := fun t h => match t with
  | .bl true => ma s h
  | .bl false => mb s h
  | _ => .stuck
def mIf (mc ma mb : ME) : ME := fun s h => (mc s h).bind (fIf ma mb s)
theorem wpR_bindT {Q' : Bool → Hp → Prop} {r : R} {f : T → MH → R} (h : wpR K mg W g σ Q (r.bind f)) (hb : ∀ t h, (∀ b, t ≠ .bl b) → f t h = .stuck) (k : ∀ g' b, Ext g g' → Rel K mg g' → wpR K mg W g' σ Q (f (.bl b) g'.h) → Q' b g'.H) : wpT K mg W g σ Q' r := by
  cases r with
  | ok t h' =>
    by_cases hx : ∃ b, t = .bl b
    · obtain ⟨b, rfl⟩ := hx
      exact fun g' q e R => k g' b e R (by subst q; exact wpR.ext h e)
    · have z := hb t h' (fun b e => hx ⟨b, e⟩)
      have h2 : wpR K mg W g σ Q (f t h') := h
      rw [z] at h2
      exact h2.elim
  | ex x h' => exact h
  | stuck => exact h
theorem se_if (hc : ST X W c mc) (ha : SE X W a ma) (hb : SE X W b mb) : SE X W (.IfExp c a b pos) (mIf mc ma mb) := by
  refine weakE (pe_ifExp hc ha hb) ?_
  rintro σ H Q ⟨g, s, rfl, R, S, h⟩
  refine ⟨g, s, rfl, R, S, wpR_bindT h (fun t h k => by cases t <;> first | exact absurd rfl (k _) | rfl) fun g1 b e1 R1 h1 => ?_⟩
  cases b with
  | true => exact iteT ⟨g1, s, rfl, R1, S.mono e1, h1⟩
  | false => exact iteF ⟨g1, s, rfl, R1, S.mono e1, h1⟩
/-- x or y, x and y, not x as values -/
def fOrV (mb : ME) (s : SM) : T → MH → R := fun t h => (fTru t h).bind fun k h1 => match k with
  | .bl true => .ok t h1
  | .bl false => mb s h1
  | _ => .stuck
def fAndV (mb : ME) (s : SM) : T → MH → R := fun t h => (fTru t h).bind fun k h1 => match k with
  | .bl true => mb s h1
  | .bl false => .ok t h1
  | _ => .stuck
def fNotV : T → MH → R := fun t h => (fTru t h).bind fNot
def mOrV (ma mb : ME) : ME := fun s h => (ma s h).bind (fOrV mb s)
def mAndV (ma mb : ME) : ME := fun s h => (ma s h).bind (fAndV mb s)
def mNotV (ma : ME) : ME := fun s h => (ma s h).bind fNotV
theorem se_one {op : BoolOp} (h : SE X W a ma) : SE X W (.BoolOp op [a] pos) ma := pe_one h
theorem se_or (ha : SE X W a ma) (hb : SE X W (.BoolOp .Or (b :: rest) pos) mb) : SE X W (.BoolOp .Or (a :: b :: rest) pos) (mOrV ma mb) := by
  refine weakE (pe_orT ha hb) ?_
  rintro σ H Q ⟨g, s, rfl, R, S, h⟩
  refine ⟨g, s, rfl, R, S, wpR_bind h fun g1 t v e1 R1 r1 h1 => ?_⟩
  unfold fOrV at h1
  rcases fTru_ok t g1.h with ⟨b, q⟩ | q
  · rw [q] at h1
    refine ⟨b, tru_of R1 r1 b q, ?_⟩
    cases b with
    | true => exact iteT (wpR_here h1 R1 r1)
    | false => exact iteF ⟨g1, s, rfl, R1, S.mono e1, h1⟩
  · rw [q] at h1; exact h1.elim
theorem se_and (ha : SE X W a ma) (hb : SE X W (.BoolOp .And (b :: rest) pos) mb) : SE X W (.BoolOp .And (a :: b :: rest) pos) (mAndV ma mb) := by
  refine weakE (pe_andT ha hb) ?_
  rintro σ H Q ⟨g, s, rfl, R, S, h⟩
  refine ⟨g, s, rfl, R, S, wpR_bind h fun g1 t v e1 R1 r1 h1 => ?_⟩
  unfold fAndV at h1
  rcases fTru_ok t g1.h with ⟨b, q⟩ | q
  · rw [q] at h1
    refine ⟨b, tru_of R1 r1 b q, ?_⟩
    cases b with
    | true => exact iteT ⟨g1, s, rfl, R1, S.mono e1, h1⟩
    | false => exact iteF (wpR_here h1 R1 r1)
  · rw [q] at h1; exact h1.elim
theorem se_not (ha : SE X W a ma) : SE X W (.UnaryOp .Not a pos) (mNotV ma) := by
  refine weakE (pe_notT ha) ?_
  rintro σ H Q ⟨g, s, rfl, R, S, h⟩
  refine ⟨g, s, rfl, R, S, wpR_bind h fun g1 t v e1 R1 r1 h1 => ?_⟩
  unfold fNotV at h1
  rcases fTru_ok t g1.h with ⟨b, q⟩ | q
  · rw [q] at h1
    exact ⟨b, tru_of R1 r1 b q, wpR_here h1 R1 rBl⟩
  · rw [q] at h1; exact h1.elim
/-- -x -/
def fNeg : T → MH → R := fun t h => match t with
  | .int i => .ok (.int (-i)) h
  | _ => .stuck
def m1 (f : T → MH → R) (ma : ME) : ME := fun s h => (ma s h).bind f
theorem se_neg (ha : SE X W a ma) : SE X W (.UnaryOp .USub a pos) (m1 fNeg ma) := by
  refine weakE (pe_un un_neg ha) ?_
  rintro σ H Q ⟨g, s, rfl, R, S, h⟩
  refine ⟨g, s, rfl, R, S, wpR_bind h fun g1 t v e1 R1 r1 h1 => ?_⟩
  cases t with
  | int i => rw [rep_int r1]; exact ⟨i, rfl, wpR_here h1 R1 rInt⟩
  | _ => exact h1.elim
/-! ### argument lists, displays -/
inductive RL where
  | ok (ts : List T) (h : MH) | ex (x : Exc) (h : MH) | stuck
abbrev MA := SM → MH → RL
def RL.bind (r : RL) (f : List T → MH → R) : R := match r with
  | .ok t h => f t h
  | .ex x h => .ex x h
  | .stuck => .stuck
def wpL (K : PySem.W.Frag) (mg : Str → Option Value) (W : WX) (g : G) (σ : L2.St) (Q : List V → Hp → Prop) : RL → Prop
  | .ok ts h' => ∀ g' vs, g'.h = h' → Ext g g' → Rel K mg g' → RepL K mg g' ts vs → Q vs g'.H
  | .ex x h' => ∀ g' cls d, g'.h = h' → Ext g g' → Rel K mg g' → RepX K mg g' x cls d → W cls d σ g'.H
  | .stuck => False
def tMA (K : PySem.W.Frag) (mg : Str → Option Value) (W : WX) (m : MA) : TA := fun σ H Q => ∃ g s, g.H = H ∧ Rel K mg g ∧ RepS K mg g s σ ∧ wpL K mg W g σ Q (m s g.h)
abbrev SA (X : Cx) (W : WX) (es : List Expr) (m : MA) : Prop := PA X es (tMA X.K X.mg W m)
def aNil : MA := fun _ h => .ok [] h
def aCons (ma : ME) (mr : MA) : MA := fun s h => match ma s h with
  | .ok t h1 => match mr s h1 with
    | .ok ts h2 => .ok (t :: ts) h2
    | .ex x h2 => .ex x h2
    | .stuck => .stuck
  | .ex x h1 => .ex x h1
  | .stuck => .stuck
theorem sa_nil : SA X W [] aNil := by
  refine weakA pa_nil ?_
  rintro σ H Q ⟨g, s, rfl, R, S, h⟩
  exact h g [] rfl (Ext.refl g) R RepL.nil
theorem wpL.ext {Q : List V → Hp → Prop} {g g' : G} {r : RL} (h : wpL K mg W g σ Q r) (e : Ext g g') : wpL K mg W g' σ Q r := by
  cases r with
  | ok t h' => exact fun g2 v q e2 => h g2 v q (e.trans e2)
  | ex x h' => exact fun g2 c d q e2 => h g2 c d q (e.trans e2)
  | stuck => exact h
theorem sa_cons {es : List Expr} {mr : MA} (ha : SE X W e ma) (hr : SA X W es mr) (hs : starEach (e :: es) X.env = (false, eval e X.env) :: starEach es X.env := by rfl) : SA X W (e :: es) (aCons ma mr) := by
  refine weakA (pa_cons ha hr hs) ?_
  rintro σ H Q ⟨g, s, rfl, R, S, h⟩
  refine ⟨g, s, rfl, R, S, ?_⟩
  unfold aCons at h
  cases q : ma s g.h with
  | ok t h1 =>
    rw [q] at h
    dsimp only at h
    intro g1 v q1 e1 R1 r1
    refine ⟨g1, s, rfl, R1, S.mono e1, ?_⟩
    rw [q1]
    cases q2 : mr s h1 with
    | ok ts h2 =>
      rw [q2] at h
      exact fun g2 vs q3 e2 R2 r2 => h g2 (v :: vs) q3 (e1.trans e2) R2 (RepL.cons (r1.mono e2) r2)
    | ex x h2 =>
      rw [q2] at h
      exact fun g2 c d q3 e2 => h g2 c d q3 (e1.trans e2)
    | stuck => rw [q2] at h; exact h.elim
  | ex x h1 => rw [q] at h; exact h
  | stuck => rw [q] at h; exact h.elim
theorem wpL_of {Q' : List V → Hp → Prop} {r : RL} {f : List T → MH → R} (h : wpR K mg W g σ Q (r.bind f)) (k : ∀ g' ts vs, Ext g g' → Rel K mg g' → RepL K mg g' ts vs → wpR K mg W g' σ Q (f ts g'.h) → Q' vs g'.H) : wpL K mg W g σ Q' r := by
  cases r with
  | ok t h' => exact fun g' v q e R r => k g' t v e R r (by subst q; exact wpR.ext h e)
  | ex x h' => exact h
  | stuck => exact h
def mA (f : List T → MH → R) (mr : MA) : ME := fun s h => (mr s h).bind f
def fTup : List T → MH → R := fun ts h => if ts.length ≤ big then .ok (.tup ts) h else .stuck
def fLst : List T → MH → R := fun ts h => if ts.length ≤ big then .ok (.lst ts) h else .stuck
theorem se_tup {es : List Expr} {mr : MA} {k : Nat} (h : SA X W es mr) : SE X W (.Tuple es k pos) (mA fTup mr) := by
  refine weakE (pe_tup h) ?_
  rintro σ H Q ⟨g, s, rfl, R, S, h⟩
  refine ⟨g, s, rfl, R, S, wpL_of h fun g1 ts vs e1 R1 r1 h1 => ?_⟩
  unfold fTup at h1
  split at h1
  · rename_i q; exact ⟨big_le (by rw [← r1.length]; exact q), fun p hp => wpR_tup h1 R1 r1 hp⟩
  · exact h1.elim
theorem se_lst {es : List Expr} {mr : MA} (h : SA X W es mr) : SE X W (.List es pos) (mA fLst mr) := by
  refine weakE (pe_lst h) ?_
  rintro σ H Q ⟨g, s, rfl, R, S, h⟩
  refine ⟨g, s, rfl, R, S, wpL_of h fun g1 ts vs e1 R1 r1 h1 => ?_⟩
  unfold fLst at h1
  split at h1
  · rename_i q; exact ⟨big_le (by rw [← r1.length]; exact q), fun p hp => wpR_lst h1 R1 r1 hp⟩
  · exact h1.elim
/-! ### a new changeable list -/
theorem ref_lay {o : MO} {p : Addr} {ho : HO} (R : Rel K mg g) (hp : g.H p = none) 
    (ro : ∀ g' : G, Sub g g' → g'.H p = some ho → RepO K mg g' p o) (hno : o ≠ MO.dead) :
    ∃ g' : G, g'.H = upd g.H p ho ∧ g'.h = g.h ++ [o] ∧ Ext g g' ∧ Rel K mg g' ∧ Rep K mg g' (.ref g.h.length) (.ref p) := by
  have len := R.len
  have hn : ∀ i : Nat, g.rho[i]? ≠ some p := fun i e => by
    obtain ⟨u, q⟩ := R.tr i p e
    rw [hp] at q; cases q
  have hs : Sub g ⟨g.rho ++ [p], g.h ++ [o], g.pv, upd g.H p ho⟩ := by
    refine ⟨fun i a h => ?_, fun a u h n => ⟨by show upd g.H p ho a = some u; rw [upd_ne (ne_of_none h hp)]; exact h, ?_⟩⟩
    · show (g.rho ++ [p])[i]? = some a
      rw [List.getElem?_append_left (List.getElem?_eq_some_iff.mp h).1]; exact h
    · rintro (z | ⟨i, o', h1, h2, h3⟩)
      · exact n (.inl z)
      · have h1' : (g.rho ++ [p])[i]? = some a := h1
        have h2' : (g.h ++ [o])[i]? = some o' := h2
        by_cases l : i < g.rho.length
        · rw [List.getElem?_append_left l] at h1'
          rw [List.getElem?_append_left (by omega)] at h2'
          exact n (.inr ⟨i, o', h1', h2', h3⟩)
        · rw [List.getElem?_append_right (by omega)] at h1'
          have e : a = p := by
            have := List.mem_of_getElem? h1'
            simpa using this
          rw [e, hp] at h; cases h
  have hx : ∀ i a, (g.rho ++ [p])[i]? = some a → (g.rho[i]? = some a ∧ i < g.rho.length) ∨ (i = g.rho.length ∧ a = p) := by
    intro i a h
    by_cases l : i < g.rho.length
    · rw [List.getElem?_append_left l] at h; exact .inl ⟨h, l⟩
    · rw [List.getElem?_append_right (by omega)] at h
      have l2 := (List.getElem?_eq_some_iff.mp h).1
      have e := List.mem_of_getElem? h
      refine .inr ⟨?_, by simpa using e⟩
      simp at l2; omega
  refine ⟨⟨g.rho ++ [p], g.h ++ [o], g.pv, upd g.H p ho⟩, rfl, rfl, ⟨hs.rho, rfl, fun a ha => ?_, hs.keep⟩, ⟨?_, ?_, ?_, ?_, ?_, ?_⟩, ?_⟩
  · obtain ⟨u, e⟩ := R.pvt a ha
    show upd g.H p ho a = g.H a
    rw [upd_ne (ne_of_none e hp)]
  · show (g.rho ++ [p]).length = (g.h ++ [o]).length
    rw [List.length_append, List.length_append, len]; rfl
  · intro i j a h1 h2
    rcases hx i a h1 with ⟨q1, l1⟩ | ⟨q1, l1⟩ <;> rcases hx j a h2 with ⟨q2, l2⟩ | ⟨q2, l2⟩
    · exact R.inj i j a q1 q2
    · exact absurd q1 (l2 ▸ hn i)
    · exact absurd q2 (l1 ▸ hn j)
    · omega
  · intro a ha hm
    rcases List.mem_append.mp (show a ∈ g.rho ++ [p] from hm) with q | q
    · exact R.npv a ha q
    · obtain ⟨u, e⟩ := R.pvt a ha
      rw [List.mem_singleton.mp q, hp] at e; cases e
  · intro a ha
    obtain ⟨u, e⟩ := R.pvt a ha
    exact ⟨u, by show upd g.H p ho a = some u; rw [upd_ne (ne_of_none e hp)]; exact e⟩
  · intro i a h1
    rcases hx i a h1 with ⟨q1, l1⟩ | ⟨q1, l1⟩
    · obtain ⟨u, e⟩ := R.tr i a q1
      exact ⟨u, by show upd g.H p ho a = some u; rw [upd_ne (ne_of_none e hp)]; exact e⟩
    · subst l1; exact ⟨ho, upd_same⟩
  · intro i a o' h1 h2
    have h2' : (g.h ++ [o])[i]? = some o' := h2
    rcases hx i a h1 with ⟨q1, l1⟩ | ⟨q1, l1⟩
    · rw [List.getElem?_append_left (by omega)] at h2'
      exact (R.obj i a o' q1 h2').sub hs fun w hw => by
        show upd g.H p ho a = some w
        rw [upd_ne (ne_of_none hw hp)]; exact hw
    · subst l1
      rw [List.getElem?_append_right (by omega)] at h2'
      have : o' = o := by
        have e := List.mem_of_getElem? h2'
        simpa using e
      subst this
      exact ro _ hs upd_same
  · simp only [Rep]
    refine ⟨p, rfl, ?_⟩
    show (g.rho ++ [p])[g.h.length]? = some p
    rw [← len, List.getElem?_append_right (Nat.le_refl _), Nat.sub_self]; rfl
end
end Mi
end part_Mi2
section part_Mi3
set_option maxRecDepth 100000
set_option maxHeartbeats 2000000
/-! Mi, part 3: built-in functions, subscripts, slices, methods of built-in types, stores. -/
namespace Mi
open PySem PySem.Spec PyProof.Rows L2
section
variable {X : Cx} {K : PySem.W.Frag} {mg : Str → Option Value} {W : WX} {g : G} {σ : L2.St} {Q : VK}
variable {a b c e : Expr} {ma mb mc : ME} {mr : MA} {pos p apos : Pos} {es : List Expr} {x : Str}
/-! ### a changeable object is written -/
theorem put_sub {i : Nat} {q : Addr} {o o' : MO} {ho : HO} (R : Rel K mg g) (h1 : g.rho[i]? = some q) (h2 : g.h[i]? = some o) (h3 : o ≠ MO.dead) (h4 : o' ≠ MO.dead) :
    Sub g { g with h := g.h.set i o', H := upd g.H q ho } := by
  have hq : g.hid q := .inr ⟨i, o, h1, h2, h3⟩
  refine ⟨fun _ _ h => h, fun a u h n => ⟨?_, ?_⟩⟩
  · show upd g.H q ho a = some u
    rw [upd_ne (fun e => n (by rw [e]; exact hq))]; exact h
  · rintro (z | ⟨j, w, z1, z2, z3⟩)
    · exact n (.inl z)
    · have z2' : (g.h.set i o')[j]? = some w := z2
      by_cases e : i = j
      · subst e
        rw [h1] at z1
        cases z1
        exact n hq
      · rw [List.getElem?_set_ne e] at z2'
        exact n (.inr ⟨j, w, z1, z2', z3⟩)
theorem Rel.put {i : Nat} {q : Addr} {o o' : MO} {ho : HO} (R : Rel K mg g) (h1 : g.rho[i]? = some q) (h2 : g.h[i]? = some o) (h3 : o ≠ MO.dead) (h4 : o' ≠ MO.dead)
    (ro : ∀ g' : G, Sub g g' → g'.H q = some ho → RepO K mg g' q o') :
    ∃ g' : G, g'.H = upd g.H q ho ∧ g'.h = g.h.set i o' ∧ Ext g g' ∧ Rel K mg g' := by
  have hs := put_sub (ho := ho) R h1 h2 h3 h4
  have hq : g.hid q := .inr ⟨i, o, h1, h2, h3⟩
  have hpv : ∀ a ∈ g.pv, a ≠ q := fun a ha e => R.npv a ha (by rw [e]; exact List.mem_of_getElem? h1)
  refine ⟨{ g with h := g.h.set i o', H := upd g.H q ho }, rfl, rfl, ⟨hs.rho, rfl, fun a ha => ?_, hs.keep⟩, ⟨?_, R.inj, R.npv, fun a ha => ?_, fun j a ha => ?_, fun j a w z1 z2 => ?_⟩⟩
  · show upd g.H q ho a = g.H a
    rw [upd_ne (hpv a ha)]
  · show g.rho.length = (g.h.set i o').length
    rw [List.length_set]; exact R.len
  · obtain ⟨u, e⟩ := R.pvt a ha
    exact ⟨u, by show upd g.H q ho a = some u; rw [upd_ne (hpv a ha)]; exact e⟩
  · by_cases e : a = q
    · subst e; exact ⟨ho, upd_same⟩
    · obtain ⟨u, eu⟩ := R.tr j a ha
      exact ⟨u, by show upd g.H q ho a = some u; rw [upd_ne e]; exact eu⟩
  · have z2' : (g.h.set i o')[j]? = some w := z2
    by_cases e : i = j
    · subst e
      have z1' : g.rho[i]? = some a := z1
      rw [h1] at z1'
      cases z1'
      have l : i < g.h.length := (List.getElem?_eq_some_iff.mp h2).1
      rw [List.getElem?_set_self l] at z2'
      cases z2'
      exact ro _ hs upd_same
    · rw [List.getElem?_set_ne e] at z2'
      have ne : a ≠ q := fun z => e (R.inj i j q h1 (z ▸ z1))
      exact (R.obj j a w z1 z2').sub hs fun u hu => by
        show upd g.H q ho a = some u
        rw [upd_ne ne]; exact hu
/-! ### built-in functions -/
def CallM (X : Cx) (f : List T → MH → R) (r : List V → Hp → VK → Prop) : Prop :=
  ∀ (W : WX) g σ ts vs Q, Rel X.K X.mg g → RepL X.K X.mg g ts vs → wpR X.K X.mg W g σ Q (f ts g.h) → r vs g.H Q
theorem useA {f : List T → MH → R} {r : List V → Hp → VK → Prop} (hm : CallM X f r) {H : Hp} (h : tM X.K X.mg W (mA f mr) σ H Q) : tCB r (tMA X.K X.mg W mr) σ H Q := by
  obtain ⟨g, s, rfl, R, S, h⟩ := h
  exact ⟨g, s, rfl, R, S, wpL_of h fun g1 ts vs e1 R1 r1 h1 => hm W g1 σ ts vs Q R1 r1 h1⟩
theorem se_callB {f : List T → MH → R} {r : List V → Hp → VK → Prop} {id : String} (hc : CallR X (.builtin id) r) (hm : CallM X f r) (hmg : X.mg x = none) (ha : SA X W (e :: es) mr) (hg : Gl X x := by rfl) (hv : bootBuiltins x = some (.builtin id) := by decide +kernel)
    (hn : x ≠ "__name__" := by decide) (hdb : (x == ("__debug__" : Str)) = false := by decide)
    (he : starEach (e :: es) X.env = (false, eval e X.env) :: starEach es X.env := by rfl) (hpl : (backTo pos (starEach es X.env)).any (·.1) = false := by rfl) : SE X W (.Call (.Name x p) (e :: es) [] pos) (mA f mr) :=
  weakE (pe_callB hc hg hmg hv ha hn hdb he hpl) fun _ _ _ h => useA hm h
theorem se_callTy {f : List T → MH → R} {r : List V → Hp → VK → Prop} {id : String} (hc : CallR X (.type id) r) (hm : CallM X f r) (hmg : X.mg x = none) (ha : SA X W (e :: es) mr) (hg : Gl X x := by rfl) (hv : bootBuiltins x = some (.type id) := by decide +kernel)
    (hn : x ≠ "__name__" := by decide) (hdb : (x == ("__debug__" : Str)) = false := by decide)
    (he : starEach (e :: es) X.env = (false, eval e X.env) :: starEach es X.env := by rfl) (hpl : (backTo pos (starEach es X.env)).any (·.1) = false := by rfl) : SE X W (.Call (.Name x p) (e :: es) [] pos) (mA f mr) :=
  weakE (pe_callTy hc hg hmg hv ha hn hdb he hpl) fun _ _ _ h => useA hm h
/-- the items of a list or tuple that stands -/
def seqOf (t : T) (h : MH) : Option (List T) := match t with
  | .tup xs => some xs
  | .lst xs => some xs
  | .frl xs => some xs
  | .ref i => match h[i]? with
    | some (.lst xs) => some xs
    | _ => none
  | _ => none
theorem seq_of {t : T} {v : V} {xs : List T} (R : Rel K mg g) (r : Rep K mg g t v) (h : seqOf t g.h = some xs) : ∃ q vs, v = .ref q ∧ (SqL K g.H q vs ∨ SqT K g.H q vs) ∧ RepL K mg g xs vs := by
  unfold seqOf at h
  cases t with
  | tup ys => cases h; obtain ⟨q, vs, e, h1, l1⟩ := r.sqT; exact ⟨q, vs, e, .inr h1, l1⟩
  | lst ys => cases h; obtain ⟨q, vs, e, h1, l1⟩ := r.sqL; exact ⟨q, vs, e, .inl h1, l1⟩
  | frl ys => cases h; obtain ⟨q, vs, e, h1, l1⟩ := r.sqF; exact ⟨q, vs, e, .inl h1, l1⟩
  | ref i =>
    dsimp only at h
    split at h
    · rename_i ys q
      cases h
      obtain ⟨q, vs, e, _, h1, l1⟩ := R.lst_at r q
      exact ⟨q, vs, e, .inl (SqL.of h1), l1⟩
    · cases h
  | _ => cases h
def isTupT : T → Bool
  | .tup _ => true
  | _ => false
/-- len -/
def fLen : List T → MH → R := fun ts h => match ts with
  | [.str s] => if s.length ≤ big then .ok (.int s.length) h else .stuck
  | [.dct ks vs] => .ok (.int ks.length) h
  | [t] => match seqOf t h with
    | some xs => .ok (.int xs.length) h
    | none => .stuck
  | _ => .stuck
abbrev rLenAll (K : PySem.W.Frag) : List V → Hp → VK → Prop := fun xs H Q => (∃ x n, xs = [x] ∧ LenV K x H n ∧ Q (.int n) H) ∨ (∃ d kvs, xs = [.ref d] ∧ H d = some (.dK kvs) ∧ Q (.int kvs.length) H)
theorem call_lenAll : CallR X (.builtin "len") (rLenAll X.K) := call_len.or call_lenD
theorem rep_str1 {s : Str} {vs : List V} (r : RepL K mg g [.str s] vs) : vs = [.str s] := by
  obtain ⟨v, e, h⟩ := r.one
  rw [e, rep_str h]
theorem mLen : CallM X fLen (rLenAll X.K) := by
  intro W g σ ts vs Q R r h
  unfold fLen at h
  split at h
  · rename_i s
    rw [rep_str1 r]
    split at h
    · rename_i q; exact .inl ⟨.str s, s.length, rfl, ⟨big_le q, rfl⟩, wpR_here h R rInt⟩
    · exact h.elim
  · rename_i ks us
    obtain ⟨v, rfl, rv⟩ := r.one
    simp only [Rep] at rv
    obtain ⟨q, kvs, rfl, ⟨h1, _⟩, e2, l1⟩ := rv
    have : ks.length = kvs.length := by rw [e2, List.length_map]
    rw [this] at h
    exact .inr ⟨q, kvs, rfl, h1, wpR_here h R rInt⟩
  · rename_i t _ _
    obtain ⟨v, rfl, rv⟩ := r.one
    split at h
    · rename_i xs q
      obtain ⟨p, vs, rfl, h1, l1⟩ := seq_of R rv q
      rw [l1.length] at h
      refine .inl ⟨.ref p, vs.length, rfl, ?_, wpR_here h R rInt⟩
      rcases h1 with h1 | h1
      · exact .inl ⟨vs, h1, rfl⟩
      · exact .inr ⟨vs, h1, rfl⟩
    · exact h.elim
  · exact h.elim
/-- int(x), str(n), tuple(xs), list(xs) -/
def fInt : List T → MH → R := fun ts h => match ts with
  | [.int i] => .ok (.int i) h
  | [.bl b] => .ok (.int (if b then 1 else 0)) h
  | [.str s] => match PySem.intText? s with
    | some n => if s.length ≤ 640 then .ok (.int n) h else .stuck
    | none => .stuck
  | _ => .stuck
abbrev rIntAll : List V → Hp → VK → Prop := fun xs H Q => ((∃ i, xs = [.int i] ∧ Q (.int i) H) ∨ ∃ k, xs = [.bl k] ∧ Q (.int (if k then 1 else 0)) H) ∨ (∃ a n, xs = [.str a] ∧ PySem.intText? a = some n ∧ a.length ≤ 640 ∧ Q (.int n) H)
theorem call_intAll : CallR X (.type "int") rIntAll := call_int1.or call_int_str
theorem mInt : CallM X fInt rIntAll := by
  intro W g σ ts vs Q R r h
  unfold fInt at h
  split at h
  · obtain ⟨v, rfl, rv⟩ := r.one; rw [rep_int rv]; exact .inl (.inl ⟨_, rfl, wpR_here h R rInt⟩)
  · obtain ⟨v, rfl, rv⟩ := r.one; rw [rep_bl rv]; exact .inl (.inr ⟨_, rfl, wpR_here h R rInt⟩)
  · rename_i s
    rw [rep_str1 r]
    split at h
    · rename_i n q
      split at h
      · rename_i z; exact .inr ⟨s, n, rfl, q, z, wpR_here h R rInt⟩
      · exact h.elim
    · exact h.elim
  · exact h.elim
def fStrI : List T → MH → R := fun ts h => match ts with
  | [.int i] => if i.natAbs.log2 < 1920 then .ok (.str (toString i)) h else .stuck
  | _ => .stuck
theorem mStrI : CallM X fStrI (fun xs H Q => ∃ i, xs = [.int i] ∧ i.natAbs.log2 < 1920 ∧ Q (.str (toString i)) H) := by
  intro W g σ ts vs Q R r h
  unfold fStrI at h
  split at h
  · obtain ⟨v, rfl, rv⟩ := r.one
    rw [rep_int rv]
    split at h
    · rename_i q; exact ⟨_, rfl, q, wpR_here h R rStr⟩
    · exact h.elim
  · exact h.elim
def fTuple : List T → MH → R := fun ts h => match ts with
  | [t] => match seqOf t h with
    | some xs => .ok (.tup xs) h
    | none => .stuck
  | _ => .stuck
def fList : List T → MH → R := fun ts h => match ts with
  | [t] => match seqOf t h with
    | some xs => .ok (.lst xs) h
    | none => .stuck
  | _ => .stuck
theorem seq_tup {t : T} {v : V} {xs : List T} (r : Rep K mg g t v) (h : seqOf t g.h = some xs) {q : Addr} {vs : List V} (e : v = .ref q) (hT : SqT K g.H q vs) (hL : ¬ SqL K g.H q vs) : Rep K mg g (.tup xs) v ∨ True := .inr trivial
theorem mTuple : CallM X fTuple (fun xs H Q => ∃ p ys, xs = [.ref p] ∧ ((SqL X.K H p ys ∧ ∀ l, H l = none → Q (.ref l) (upd H l (.tup ys))) ∨ (SqT X.K H p ys ∧ Q (.ref p) H))) := by
  intro W g σ ts vs Q R r h
  unfold fTuple at h
  split at h
  · rename_i t
    obtain ⟨v, rfl, rv⟩ := r.one
    split at h
    · rename_i xs q
      cases t with
      | tup ys =>
        cases q
        obtain ⟨p, vs, rfl, h1, l1⟩ := rv.sqT
        exact ⟨p, vs, rfl, .inr ⟨h1, wpR_here h R rv⟩⟩
      | lst ys =>
        cases q
        obtain ⟨p, vs, rfl, h1, l1⟩ := rv.sqL
        exact ⟨p, vs, rfl, .inl ⟨h1, fun l hl => wpR_tup h R l1 hl⟩⟩
      | frl ys =>
        cases q
        obtain ⟨p, vs, rfl, h1, l1⟩ := rv.sqF
        exact ⟨p, vs, rfl, .inl ⟨h1, fun l hl => wpR_tup h R l1 hl⟩⟩
      | ref i =>
        unfold seqOf at q
        dsimp only at q
        split at q
        · rename_i ys z
          cases q
          obtain ⟨p, vs, rfl, _, h1, l1⟩ := R.lst_at rv z
          exact ⟨p, vs, rfl, .inl ⟨SqL.of h1, fun l hl => wpR_tup h R l1 hl⟩⟩
        · cases q
      | _ => cases q
    · exact h.elim
  · exact h.elim
theorem mList : CallM X fList (fun xs H Q => ∃ p ys, xs = [.ref p] ∧ (SqL X.K H p ys ∨ SqT X.K H p ys) ∧ ∀ l, H l = none → Q (.ref l) (upd H l (.lst ys))) := by
  intro W g σ ts vs Q R r h
  unfold fList at h
  split at h
  · obtain ⟨v, rfl, rv⟩ := r.one
    split at h
    · rename_i xs q
      obtain ⟨p, vs, rfl, h1, l1⟩ := seq_of R rv q
      exact ⟨p, vs, rfl, h1, fun l hl => wpR_lst h R l1 hl⟩
    · exact h.elim
  · exact h.elim
/-- lists of one kind of thing -/
def blsOf : List T → Option (List Bool)
  | [] => some []
  | .bl b :: ts => (blsOf ts).map (b :: ·)
  | _ :: _ => none
def intsOf : List T → Option (List Int)
  | [] => some []
  | .int b :: ts => (intsOf ts).map (b :: ·)
  | _ :: _ => none
def strsOf : List T → Option (List Str)
  | [] => some []
  | .str b :: ts => (strsOf ts).map (b :: ·)
  | _ :: _ => none
theorem bls_of : ∀ {ts : List T} {vs : List V} {bs : List Bool}, RepL K mg g ts vs → blsOf ts = some bs → vs = bs.map V.bl
  | [], vs, bs, r, h => by
    simp only [RepL] at r
    simp only [blsOf] at h
    cases h; exact r
  | t :: ts, vs, bs, r, h => by
    simp only [RepL] at r
    obtain ⟨v, w, rfl, r1, r2⟩ := r
    cases t with
    | bl b =>
      simp only [blsOf] at h
      cases q : blsOf ts with
      | none => rw [q] at h; cases h
      | some cs =>
        rw [q] at h; cases h
        rw [rep_bl r1, bls_of r2 q]; rfl
    | _ => simp only [blsOf] at h; cases h
theorem ints_of : ∀ {ts : List T} {vs : List V} {bs : List Int}, RepL K mg g ts vs → intsOf ts = some bs → vs = bs.map V.int
  | [], vs, bs, r, h => by
    simp only [RepL] at r
    simp only [intsOf] at h
    cases h; exact r
  | t :: ts, vs, bs, r, h => by
    simp only [RepL] at r
    obtain ⟨v, w, rfl, r1, r2⟩ := r
    cases t with
    | int b =>
      simp only [intsOf] at h
      cases q : intsOf ts with
      | none => rw [q] at h; cases h
      | some cs =>
        rw [q] at h; cases h
        rw [rep_int r1, ints_of r2 q]; rfl
    | _ => simp only [intsOf] at h; cases h
theorem strs_of : ∀ {ts : List T} {vs : List V} {bs : List Str}, RepL K mg g ts vs → strsOf ts = some bs → vs = bs.map V.str
  | [], vs, bs, r, h => by
    simp only [RepL] at r
    simp only [strsOf] at h
    cases h; exact r
  | t :: ts, vs, bs, r, h => by
    simp only [RepL] at r
    obtain ⟨v, w, rfl, r1, r2⟩ := r
    cases t with
    | str b =>
      simp only [strsOf] at h
      cases q : strsOf ts with
      | none => rw [q] at h; cases h
      | some cs =>
        rw [q] at h; cases h
        rw [rep_str r1, strs_of r2 q]; rfl
    | _ => simp only [strsOf] at h; cases h
/-- a new or standing list (no tuple) -/
def lstOf (t : T) (h : MH) : Option (List T) := match t with
  | .lst xs => some xs
  | .frl xs => some xs
  | .ref i => match h[i]? with
    | some (.lst xs) => some xs
    | _ => none
  | _ => none
theorem lst_of {t : T} {v : V} {xs : List T} (R : Rel K mg g) (r : Rep K mg g t v) (h : lstOf t g.h = some xs) : ∃ q vs, v = .ref q ∧ SqL K g.H q vs ∧ RepL K mg g xs vs := by
  unfold lstOf at h
  cases t with
  | lst ys => cases h; exact r.sqL
  | frl ys => cases h; exact r.sqF
  | ref i =>
    dsimp only at h
    split at h
    · rename_i ys q
      cases h
      obtain ⟨q, vs, e, _, h1, l1⟩ := R.lst_at r q
      exact ⟨q, vs, e, SqL.of h1, l1⟩
    · cases h
  | _ => cases h
def fBls (f : List Bool → Bool) : List T → MH → R := fun ts h => match ts with
  | [t] => match lstOf t h with
    | some xs => match blsOf xs with
      | some bs => .ok (.bl (f bs)) h
      | none => .stuck
    | none => .stuck
  | _ => .stuck
theorem mBls {f : List Bool → Bool} : CallM X (fBls f) (fun vs H Q => ∃ (a : Addr) (bs : List Bool), vs = [V.ref a] ∧ SqL X.K H a (bs.map V.bl) ∧ Q (.bl (f bs)) H) := by
  intro W g σ ts vs Q R r h
  unfold fBls at h
  split at h
  · obtain ⟨v, rfl, rv⟩ := r.one
    split at h
    · rename_i xs q
      obtain ⟨p, vs, rfl, h1, l1⟩ := lst_of R rv q
      split at h
      · rename_i bs z
        rw [bls_of l1 z] at h1
        exact ⟨p, bs, rfl, h1, wpR_here h R rBl⟩
      · exact h.elim
    · exact h.elim
  · exact h.elim
def fAll := fBls fun bs => bs.all id
def fAny := fBls fun bs => bs.any id
theorem mAll : CallM X fAll (rAll X.K) := mBls
theorem mAny : CallM X fAny (rAny X.K) := mBls
def fSum : List T → MH → R := fun ts h => match ts with
  | [t] => match lstOf t h with
    | some xs => match intsOf xs with
      | some ns => .ok (.int ns.sum) h
      | none => .stuck
    | none => .stuck
  | _ => .stuck
theorem mSum : CallM X fSum (rSum X.K) := by
  intro W g σ ts vs Q R r h
  unfold fSum at h
  split at h
  · obtain ⟨v, rfl, rv⟩ := r.one
    split at h
    · rename_i xs q
      obtain ⟨p, vs, rfl, h1, l1⟩ := lst_of R rv q
      split at h
      · rename_i bs z
        rw [ints_of l1 z] at h1
        exact ⟨p, bs, rfl, h1, wpR_here h R rInt⟩
      · exact h.elim
    · exact h.elim
  · exact h.elim
/-- max, min of two ints -/
def fMax2 : List T → MH → R := fun ts h => match ts with
  | [.int i, .int j] => .ok (.int (if j > i then j else i)) h
  | _ => .stuck
def fMin2 : List T → MH → R := fun ts h => match ts with
  | [.int i, .int j] => .ok (.int (if j < i then j else i)) h
  | _ => .stuck
theorem rep_int2 {i j : Int} {vs : List V} (r : RepL K mg g [.int i, .int j] vs) : vs = [.int i, .int j] := by
  simp only [RepL] at r
  obtain ⟨v, w, rfl, r1, v2, w2, rfl, r2, rfl⟩ := r
  rw [rep_int r1, rep_int r2]
theorem mMax2 : CallM X fMax2 (fun xs H Q => ∃ i j, xs = [.int i, .int j] ∧ Q (.int (if j > i then j else i)) H) := by
  intro W g σ ts vs Q R r h
  unfold fMax2 at h
  split at h
  · exact ⟨_, _, rep_int2 r, wpR_here h R rInt⟩
  · exact h.elim
theorem mMin2 : CallM X fMin2 (fun xs H Q => ∃ i j, xs = [.int i, .int j] ∧ Q (.int (if j < i then j else i)) H) := by
  intro W g σ ts vs Q R r h
  unfold fMin2 at h
  split at h
  · exact ⟨_, _, rep_int2 r, wpR_here h R rInt⟩
  · exact h.elim
/-! ### subscripts -/
def fIx : T → T → MH → R := fun t u h => match u with
  | .int i => match t with
    | .str s => if s.length ≤ big then (match atI s.cps.toList i with
      | some c => .ok (.str ⟨#[c]⟩) h
      | none => .stuck) else .stuck
    | _ => match seqOf t h with
      | some xs => match atI xs i with
        | some z => .ok z h
        | none => .stuck
      | none => .stuck
  | _ => .stuck
theorem at_of {xs : List T} {vs : List V} {i : Int} {t : T} (r : RepL K mg g xs vs) (h : atI xs i = some t) : ∃ v, atI vs i = some v ∧ Rep K mg g t v := by
  unfold atI at h ⊢
  rw [← r.length]
  cases q : ixN xs.length i with
  | none => rw [q] at h; cases h
  | some j =>
    rw [q] at h
    exact r.get h
theorem mIx : OpM X fIx (rIx X.K) := by
  intro W g σ t u x y Q R r1 r2 h
  unfold fIx at h
  split at h
  · rename_i i
    rw [rep_int r2]
    split at h
    · rename_i s
      rw [rep_str r1]
      split at h
      · rename_i q
        split at h
        · rename_i c z
          exact .inr (.inr ⟨s, i, c, rfl, rfl, big_le q, z, wpR_here h R rStr⟩)
        · exact h.elim
      · exact h.elim
    · split at h
      · rename_i xs q
        obtain ⟨p, vs, rfl, h1, l1⟩ := seq_of R r1 q
        split at h
        · rename_i z hz
          obtain ⟨v, e1, rv⟩ := at_of l1 hz
          rcases h1 with h1 | h1
          · exact .inl ⟨p, vs, i, v, rfl, rfl, h1, e1, wpR_here h R rv⟩
          · exact .inr (.inl ⟨p, vs, i, v, rfl, rfl, h1, e1, wpR_here h R rv⟩)
        · exact h.elim
      · exact h.elim
  · exact h.elim
theorem se_ix (ha : SE X W a ma) (hb : SE X W b mb) (hs : PlainIx b := by exact fun _ _ => rfl) : SE X W (.Subscript a b pos) (m2 fIx ma mb) :=
  weakE (pe_ix ix_seq ha hb hs) fun _ _ _ h => use2 mIx h
/-! ### slices -/
abbrev MO' := SM → MH → R
def wpO (K : PySem.W.Frag) (mg : Str → Option Value) (W : WX) (g : G) (σ : L2.St) (Q : Option Int → Hp → Prop) : R → Prop
  | .ok (.int i) h' => ∀ g', g'.h = h' → Ext g g' → Rel K mg g' → Q (some i) g'.H
  | .ok .non h' => ∀ g', g'.h = h' → Ext g g' → Rel K mg g' → Q none g'.H
  | .ok _ _ => False
  | .ex x h' => ∀ g' cls d, g'.h = h' → Ext g g' → Rel K mg g' → RepX K mg g' x cls d → W cls d σ g'.H
  | .stuck => False
def tMO (K : PySem.W.Frag) (mg : Str → Option Value) (W : WX) (m : ME) : TO := fun σ H Q => ∃ g s, g.H = H ∧ Rel K mg g ∧ RepS K mg g s σ ∧ wpO K mg W g σ Q (m s g.h)
theorem weakO {X : Cx} {e : Option Expr} {t t' : TO} (h : PO X e t) (k : ∀ σ H Q, t' σ H Q → t σ H Q) : PO X e t' := ⟨fun pins s σ H Q I q => h.run pins s σ H Q I (k σ H Q q)⟩
def fPart : T → MH → R := fun t h => match t with
  | .int i => .ok (.int i) h
  | _ => .stuck
theorem so_none : PO X none (tMO X.K X.mg W (mC .non)) := by
  refine weakO po_none ?_
  rintro σ H Q ⟨g, s, rfl, R, S, h⟩
  exact h g rfl (Ext.refl g) R
theorem wpO_bind {Q : Option Int → Hp → Prop} {Q' : VK} {r : R} (h : wpO K mg W g σ Q (r.bind fPart)) (k : ∀ g' i v, Ext g g' → Rel K mg g' → Rep K mg g' (.int i) v → Q (some i) g'.H → Q' v g'.H) : wpR K mg W g σ Q' r := by
  cases r with
  | ok t h' =>
    cases t with
    | int i => exact fun g' v q e R r => k g' i v e R r (h g' q e R)
    | _ => exact h.elim
  | ex x h' => exact h
  | stuck => exact h.elim
theorem so_some (ha : SE X W a ma) : PO X (some a) (tMO X.K X.mg W (m1 fPart ma)) := by
  refine weakO (po_some ha) ?_
  rintro σ H Q ⟨g, s, rfl, R, S, h⟩
  exact ⟨g, s, rfl, R, S, wpO_bind h fun g1 i v e1 R1 r1 q => ⟨i, rep_int r1, q⟩⟩
def cutT (xs : List T) (lo hi : Option Int) : List T := (xs.drop (HT.sIx xs.length 0 lo)).take (HT.sIx xs.length xs.length hi - HT.sIx xs.length 0 lo)
theorem cut_of {xs : List T} {vs : List V} {lo hi : Option Int} (r : RepL K mg g xs vs) : RepL K mg g (cutT xs lo hi) (cutV vs lo hi) := by
  unfold cutT cutV
  rw [r.length]
  exact (r.drop _).take _
def oInt : T → Option Int
  | .int i => some i
  | _ => none
def fSl : T → T → T → MH → R := fun t l u h => match t with
  | .str s => if s.length ≤ big then .ok (.str (cutS s (oInt l) (oInt u))) h else .stuck
  | .tup xs => .ok (.tup (cutT xs (oInt l) (oInt u))) h
  | _ => match lstOf t h with
    | some xs => .ok (.lst (cutT xs (oInt l) (oInt u))) h
    | none => .stuck
def mSl (mt ml mu : ME) : ME := fun s h => (mt s h).bind fun t h1 => (ml s h1).bind fun l h2 => (mu s h2).bind fun u h3 => fSl t l u h3
/-- what a slice's part is, as a value of the mirror -/
theorem wpR_part {Q' : Option Int → Hp → Prop} {r : R} {f : T → MH → R} (h : wpR K mg W g σ Q (r.bind f)) (hok : ∀ t h', r = .ok t h' → t = .non ∨ ∃ i, t = .int i) (k : ∀ g' t, Ext g g' → Rel K mg g' → wpR K mg W g' σ Q (f t g'.h) → Q' (oInt t) g'.H) : wpO K mg W g σ Q' r := by
  cases r with
  | ok t h' =>
    rcases hok t h' rfl with e | ⟨i, e⟩
    · subst e; exact fun g' q e R => k g' .non e R (by subst q; exact wpR.ext h e)
    · subst e; exact fun g' q e R => k g' (.int i) e R (by subst q; exact wpR.ext h e)
  | ex x h' => exact h
  | stuck => exact h
def PartM (m : ME) : Prop := ∀ s h t h', m s h = .ok t h' → t = .non ∨ ∃ i, t = .int i
theorem part_none : PartM (mC .non) := fun s h t h' e => by cases e; exact .inl rfl
theorem part_some {m : ME} : PartM (m1 fPart m) := fun s h t h' e => by
  unfold m1 R.bind fPart at e
  split at e
  · split at e
    · cases e; exact .inr ⟨_, rfl⟩
    · cases e
  · cases e
  · cases e
theorem se_slice {lo hi : Option Expr} {p2 : Pos} {ml mu : ME} (ha : SE X W a ma) (hl : PO X lo (tMO X.K X.mg W ml)) (hu : PO X hi (tMO X.K X.mg W mu)) (pl : PartM ml) (pu : PartM mu) :
    SE X W (.Subscript a (.Slice lo hi none p2) pos) (mSl ma ml mu) := by
  refine weakE (pe_slice (sl_str.or (sl_tupA.or sl_list)) ha hl hu) ?_
  rintro σ H Q ⟨g, s, rfl, R, S, h⟩
  refine ⟨g, s, rfl, R, S, wpR_bind h fun g1 t v e1 R1 r1 h1 => ⟨g1, s, rfl, R1, S.mono e1, wpR_part h1 (pl s g1.h) fun g2 l e2 R2 h2 => ⟨g2, s, rfl, R2, S.mono (e1.trans e2), wpR_part h2 (pu s g2.h) fun g3 u e3 R3 h3 => ?_⟩⟩⟩
  have r3 := (r1.mono e2).mono e3
  unfold fSl at h3
  split at h3
  · rename_i z
    rw [rep_str r3]
    split at h3
    · rename_i q; exact .inl ⟨z, rfl, big_le q, wpR_here h3 R3 rStr⟩
    · exact h3.elim
  · rename_i xs
    have r3' := r3
    obtain ⟨p, vs, rfl, hp, lp⟩ := r3.sqT
    refine .inr (.inl ⟨p, vs, rfl, hp, fun hw => ?_, fun hw q hq => wpR_tup h3 R3 (cut_of lp) hq⟩)
    have e : cutT xs (oInt l) (oInt u) = xs := by
      unfold cutT
      rw [lp.length, hw.1, hw.2]
      rw [List.drop_zero, Nat.sub_zero, ← lp.length, List.take_length]
    rw [e] at h3
    exact wpR_here h3 R3 r3'
  · split at h3
    · rename_i xs q
      obtain ⟨p, vs, rfl, hp, lp⟩ := lst_of R3 r3 q
      exact .inr (.inr ⟨p, vs, rfl, hp, fun q hq => wpR_lst h3 R3 (cut_of lp) hq⟩)
    · exact h3.elim
/-! ### methods of built-in types -/
def tyOK (T' : String) (t : T) (h : MH) : Bool := match t with
  | .str _ => T' == "str"
  | .lst _ => T' == "list"
  | .frl _ => T' == "list"
  | .dct _ _ => T' == "dict"
  | .ref i => match h[i]? with
    | some (.lst _) => T' == "list"
    | some (.dct _ _) => T' == "dict"
    | _ => false
  | _ => false
theorem tyV_of {T' : String} {t : T} {v : V} (R : Rel K mg g) (r : Rep K mg g t v) (h : tyOK T' t g.h = true) : tyV K T' v g.H := by
  unfold tyOK at h
  cases t with
  | str s => rw [rep_str r]; exact beq_iff_eq.mp h
  | lst xs => obtain ⟨p, vs, rfl, h1, _⟩ := r.sqL; exact .inl ⟨beq_iff_eq.mp h, vs, h1⟩
  | frl xs => obtain ⟨p, vs, rfl, h1, _⟩ := r.sqF; exact .inl ⟨beq_iff_eq.mp h, vs, h1⟩
  | dct ks vs => simp only [Rep] at r; obtain ⟨q, kvs, rfl, ⟨h1, _⟩, _⟩ := r; exact .inr (.inr (.inl ⟨beq_iff_eq.mp h, .inl ⟨kvs, h1⟩⟩))
  | ref i =>
    dsimp only at h
    split at h
    · rename_i xs q
      obtain ⟨p, vs, rfl, _, h1, _⟩ := R.lst_at r q
      exact .inl ⟨beq_iff_eq.mp h, vs, SqL.of h1⟩
    · rename_i ks ts q
      simp only [Rep] at r
      obtain ⟨p, rfl, hp⟩ := r
      obtain ⟨kvs, h1, _⟩ := R.obj i p _ hp q
      exact .inr (.inr (.inl ⟨beq_iff_eq.mp h, .inl ⟨kvs, h1⟩⟩))
    · cases h
  | _ => cases h
def MeM (X : Cx) (f : T → List T → MH → R) (r : V → List V → Hp → VK → Prop) : Prop :=
  ∀ (W : WX) g σ t ts x vs Q, Rel X.K X.mg g → Rep X.K X.mg g t x → RepL X.K X.mg g ts vs → wpR X.K X.mg W g σ Q (f t ts g.h) → r x vs g.H Q
def mMe (T' : String) (f : T → List T → MH → R) (mo : ME) (mr : MA) : ME := fun s h => (mo s h).bind fun t h1 => if tyOK T' t h1 then (mr s h1).bind fun ts h2 => f t ts h2 else .stuck
theorem se_bm {T' id : String} {name : Str} {f : T → List T → MH → R} {r : V → List V → Hp → VK → Prop} (pa : PlainAttrs T') (slot : Slot T' name id) (hty : typeOf (.builtin id) = pure (.type "method_descriptor")) (hm : MtR X id r) (hf : MeM X f r) (ho : SE X W a ma) (ha : SA X W (e :: es) mr)
    (hbase : attributeBase a name X.env (eval a X.env) = eval a X.env := by rfl)
    (hfew : ((backTo pos (starEach (e :: es) X.env)).all (fun x => !x.1) && (backToKw pos (keywordEach [] X.env)).all (fun x => x.1.isSome)
      && decide ((e :: es).length + ([] : List Keyword).length + (if ([] : List Keyword).isEmpty then 0 else 1) < 30)) = true := by rfl)
    (hline : (apos.endLine == pos.line) = true := by rfl) (hs : starEach (e :: es) X.env = (false, eval e X.env) :: starEach es X.env := by rfl) (hplain : (backTo pos (starEach es X.env)).any (·.1) = false := by rfl) :
    SE X W (.Call (.Attribute a name apos) (e :: es) [] pos) (mMe T' f ma mr) := by
  refine weakE (pe_bm pa slot hty hm ho ha hbase hfew hline hs hplain) ?_
  rintro σ H Q ⟨g, s, rfl, R, S, h⟩
  refine ⟨g, s, rfl, R, S, wpR_bind h fun g1 t v e1 R1 r1 h1 => ?_⟩
  split at h1
  · rename_i q
    exact ⟨tyV_of R1 r1 q, g1, s, rfl, R1, S.mono e1, wpL_of h1 fun g2 ts vs e2 R2 r2 h2 => hf W g2 σ t ts v vs Q R2 (r1.mono e2) r2 h2⟩
  · exact h1.elim
theorem se_bm0 {T' id : String} {name : Str} {f : T → List T → MH → R} {r : V → List V → Hp → VK → Prop} (pa : PlainAttrs T') (slot : Slot T' name id) (hty : typeOf (.builtin id) = pure (.type "method_descriptor")) (hm : MtR X id r) (hf : MeM X f r) (ho : SE X W a ma)
    (hbase : attributeBase a name X.env (eval a X.env) = eval a X.env := by rfl) (hline : (apos.endLine == pos.line) = true := by rfl) :
    SE X W (.Call (.Attribute a name apos) [] [] pos) (mMe T' f ma aNil) := by
  refine weakE (pe_bm0 pa slot hty hm ho hbase hline) ?_
  rintro σ H Q ⟨g, s, rfl, R, S, h⟩
  refine ⟨g, s, rfl, R, S, wpR_bind h fun g1 t v e1 R1 r1 h1 => ?_⟩
  split at h1
  · rename_i q
    exact ⟨tyV_of R1 r1 q, hf W g1 σ t [] v [] Q R1 r1 RepL.nil h1⟩
  · exact h1.elim
/-- xs.append(v) of a changeable list -/
def liveL (t : T) (h : MH) : Option (Nat × List T) := match t with
  | .ref i => match h[i]? with
    | some (.lst xs) => some (i, xs)
    | _ => none
  | _ => none
theorem live_of {t : T} {v : V} {i : Nat} {xs : List T} (R : Rel K mg g) (r : Rep K mg g t v) (h : liveL t g.h = some (i, xs)) : ∃ p vs, v = .ref p ∧ g.rho[i]? = some p ∧ g.h[i]? = some (.lst xs) ∧ g.H p = some (.lst vs) ∧ RepL K mg g xs vs := by
  unfold liveL at h
  split at h
  · rename_i j
    split at h
    · rename_i ys q
      cases h
      obtain ⟨p, vs, e, e2, h1, l1⟩ := R.lst_at r q
      exact ⟨p, vs, e, e2, q, h1, l1⟩
    · cases h
  · cases h
/-- a changeable list is written -/
theorem wpR_put {t : T} {v : V} {i : Nat} {q : Addr} {xs ys : List T} {ws : List V} (h : wpR K mg W g σ Q (.ok t (g.h.set i (.lst ys)))) (R : Rel K mg g) (h1 : g.rho[i]? = some q) (h2 : g.h[i]? = some (.lst xs)) (r : RepL K mg g ys ws) (rv : Rep K mg g t v) : Q v (upd g.H q (.lst ws)) := by
  obtain ⟨g', e1, e2, ex, R'⟩ := R.put (o' := .lst ys) (ho := .lst ws) h1 h2 (by intro z; cases z) (by intro z; cases z) (fun g2 s2 hq => ⟨ws, hq, r.sub s2⟩)
  rw [← e1]
  exact h g' v e2 ex R' (rv.mono ex)
def fAppend : T → List T → MH → R := fun t ts h => match ts with
  | [y] => match liveL t h with
    | some (i, xs) => if xs.length < big then .ok .non (h.set i (.lst (xs ++ [y]))) else .stuck
    | none => .stuck
  | _ => .stuck
theorem big_lt {n : Nat} (h : n < big) : n < sizeLine := Nat.lt_of_lt_of_le h (big_le (Nat.le_refl _))
theorem meAppend : MeM X fAppend rAppend := by
  intro W g σ t ts x vs Q R r rs h
  unfold fAppend at h
  split at h
  · rename_i y
    obtain ⟨v, rfl, rv⟩ := rs.one
    split at h
    · rename_i i xs q
      obtain ⟨p, ws, rfl, hp, hh, h1, l1⟩ := live_of R r q
      split at h
      · rename_i z
        exact ⟨p, ws, v, rfl, rfl, h1, big_lt (by rw [← l1.length]; exact z), wpR_put h R hp hh (l1.append (RepL.cons rv RepL.nil)) rNon⟩
      · exact h.elim
    · exact h.elim
  · exact h.elim
def fInsert : T → List T → MH → R := fun t ts h => match ts with
  | [.int k, y] => match liveL t h with
    | some (i, xs) => if xs.length < big ∧ 0 ≤ k ∧ k < 1000000 then .ok .non (h.set i (.lst (xs.take k.toNat ++ [y] ++ xs.drop k.toNat))) else .stuck
    | none => .stuck
  | _ => .stuck
theorem meInsert : MeM X fInsert (fun x vs H Q => ∃ (l : Addr) (xs : List V) (i : Int) (y : V), x = .ref l ∧ vs = [.int i, y] ∧ H l = some (.lst xs) ∧ xs.length < sizeLine ∧ 0 ≤ i ∧ i < 2 ^ 63 ∧
    Q .non (upd H l (.lst (xs.take i.toNat ++ [y] ++ xs.drop i.toNat)))) := by
  intro W g σ t ts x vs Q R r rs h
  unfold fInsert at h
  split at h
  · rename_i k y
    simp only [RepL] at rs
    obtain ⟨v0, w0, rfl, rk, v, w1, rfl, rv, rfl⟩ := rs
    rw [rep_int rk]
    split at h
    · rename_i i xs q
      obtain ⟨p, ws, rfl, hp, hh, h1, l1⟩ := live_of R r q
      split at h
      · rename_i z
        refine ⟨p, ws, k, v, rfl, rfl, h1, big_lt (by rw [← l1.length]; exact z.1), z.2.1, by omega, wpR_put h R hp hh ?_ rNon⟩
        exact ((l1.take _).append (RepL.cons rv RepL.nil)).append (l1.drop _)
      · exact h.elim
    · exact h.elim
  · exact h.elim
/-- methods of texts -/
def fS0 (C : Str → Bool) (f : Str → T) : T → List T → MH → R := fun t ts h => match t, ts with
  | .str a, [] => if C a then .ok (f a) h else .stuck
  | _, _ => .stuck
def fS1 (C : Str → Str → Bool) (f : Str → Str → T) : T → List T → MH → R := fun t ts h => match t, ts with
  | .str a, [.str b] => if C a b then .ok (f a b) h else .stuck
  | _, _ => .stuck
theorem meS1 {Cb : Str → Str → Bool} {C : Str → Str → Prop} {f : Str → Str → T} {fv : Str → Str → V} (hC : ∀ a b, Cb a b = true → C a b) (hf : ∀ (K : PySem.W.Frag) mg g a b, Rep K mg g (f a b) (fv a b)) :
    MeM X (fS1 Cb f) (fun x xs H Q => ∃ a b, x = .str a ∧ xs = [.str b] ∧ C a b ∧ Q (fv a b) H) := by
  intro W g σ t ts x vs Q R r rs h
  unfold fS1 at h
  split at h
  · rename_i a b
    rw [rep_str r, rep_str1 rs]
    split at h
    · rename_i q; exact ⟨a, b, rfl, rfl, hC a b q, wpR_here h R (hf _ _ _ a b)⟩
    · exact h.elim
  · exact h.elim
def fRstrip := fS1 (fun a _ => decide (a.length ≤ big)) fun a b => .str (Txt.rstripChars a b)
theorem meRstrip : MeM X fRstrip (fun x xs H Q => ∃ a b, x = .str a ∧ xs = [.str b] ∧ a.length ≤ sizeLine ∧ Q (.str (Txt.rstripChars a b)) H) := meS1 (C := fun a _ => a.length ≤ sizeLine) (fun a b h => big_le (of_decide_eq_true h)) fun _ _ _ _ _ => rStr
def fJoin : T → List T → MH → R := fun t ts h => match t, ts with
  | .str a, [u] => match seqOf u h with
    | some xs => match strsOf xs with
      | some ys => if (ys.map (·.length)).sum + ys.length * a.length ≤ big then .ok (.str (Txt.join a ys)) h else .stuck
      | none => .stuck
    | none => .stuck
  | _, _ => .stuck
theorem meJoin : MeM X fJoin (fun x xs H Q => ∃ a p, ∃ ys : List Str, x = .str a ∧ xs = [.ref p] ∧ (SqL X.K H p (ys.map V.str) ∨ SqT X.K H p (ys.map V.str)) ∧
    (ys.map (·.length)).sum + ys.length * a.length ≤ 16777216 ∧ Q (.str (Txt.join a ys)) H) := by
  intro W g σ t ts x vs Q R r rs h
  unfold fJoin at h
  split at h
  · rename_i a u
    obtain ⟨v, rfl, rv⟩ := rs.one
    rw [rep_str r]
    split at h
    · rename_i xs q
      obtain ⟨p, ws, rfl, h1, l1⟩ := seq_of R rv q
      split at h
      · rename_i ys z
        rw [strs_of l1 z] at h1
        split at h
        · rename_i sz
          exact ⟨a, p, ys, rfl, rfl, h1, Nat.le_trans sz (by decide), wpR_here h R rStr⟩
        · exact h.elim
      · exact h.elim
    · exact h.elim
  · exact h.elim
end
end Mi
end part_Mi3
section part_Mi4
set_option maxRecDepth 100000
set_option maxHeartbeats 2000000
set_option maxHeartbeats 1000000 in
/-! Mi, part 4: what a for or a comprehension walks. -/
namespace Mi
open PySem PySem.Spec PyProof.Rows L2
/-- a source of items: a list, a tuple, a text -/
inductive Sk where
  | L (a : Addr) | Tp (a : Addr) | S (x : Str)
def Sk.v : Sk → V
  | .L a => .ref a
  | .Tp a => .ref a
  | .S x => .str x
def sgn (x : Str) : List V := x.cps.toList.map fun c => V.str ⟨#[c]⟩
def Sk.at (K : PySem.W.Frag) (H : Hp) (vs : List V) : Sk → Prop
  | .L a => SqL K H a vs
  | .Tp a => SqT K H a vs
  | .S x => vs = sgn x
def Sk.iter (it : Addr) (i : Nat) (h : Heap) : Sk → Prop
  | .L a => h.IsListIter it a i
  | .Tp a => h.IsTupleIter it a i
  | .S x => ∃ t, h.IsStrIter it (strIterType x) x t i
/-- what the source's step leans on -/
structure SkD (P : Program) (w : World) (A : Around) (it : Addr) (sk : Sk) (vs : List V) (i : Nat) (h : Heap) (fp : List Addr) (Pv : Nat → Value → Prop) (St : Nat → Heap → Prop) : Prop where
  D : Draws P w A it fp vs.length Pv St
  st : St i h
  rel : ∀ j u, Pv j u → ∃ x, vs[j]? = some x ∧ RelV x u
  back : ∀ j h', St j h' → sk.iter it j h'
  mem : it ∈ fp
theorem sk_it {K : PySem.W.Frag} {sk : Sk} {it : Addr} {i : Nat} {h h' : Heap} (s : sk.iter it i h) (k : ∀ o, h.get? it = some o → h'.get? it = some o) : sk.iter it i h' := by
  cases sk with
  | L a => exact Heap.IsListIter.at s k
  | Tp a => exact Heap.IsTupleIter.at s k
  | S x => obtain ⟨t, o, ho, r⟩ := s; exact ⟨t, o, k o ho, r⟩
theorem sk_obj {sk : Sk} {it : Addr} {i : Nat} {h : Heap} (s : sk.iter it i h) : ∃ o, h.get? it = some o ∧ ∀ v, o.data ≠ .cell v := by
  cases sk with
  | L a => obtain ⟨o, ho, hc, hd⟩ := s; exact ⟨o, ho, fun v q => by rw [hd] at q; cases q⟩
  | Tp a => obtain ⟨o, ho, hc, hd⟩ := s; exact ⟨o, ho, fun v q => by rw [hd] at q; cases q⟩
  | S x => obtain ⟨t, o, ho, hc, hd⟩ := s; exact ⟨o, ho, fun v q => by rw [hd] at q; cases q⟩
section
variable {X : Cx} {pins : List (Addr × Obj)} {σ : L2.St} {H : Hp} {s : Shared}
/-- an iterator's own cell is no list or tuple that is read -/
theorem fp_neL (I : Inv X pins σ H s) {b a : Addr} {vs : List V} (f : FpOk X pins H b) (h : SqL X.K H a vs) : a ≠ b := by
  rintro rfl
  rcases h with h | ⟨o, _, _, h, _⟩
  · rcases h with h | ⟨o, h⟩ <;> rw [f.1] at h <;> cases h
  · have hb := I.mod.kin _ _ h
    rcases f.2.2.2.1 with z | z
    · exact I.ok.noex _ o hb z
    · exact absurd (Nat.lt_of_lt_of_le (Heap.lt_size (I.ok.bs _ o hb).1) z) (Nat.lt_irrefl _)
theorem fp_neT (I : Inv X pins σ H s) {b a : Addr} {vs : List V} (f : FpOk X pins H b) (h : SqT X.K H a vs) : a ≠ b := by
  rintro rfl
  rcases h with h | ⟨o, _, _, h, _⟩
  · rcases h with h | ⟨o, h⟩ <;> rw [f.1] at h <;> cases h
  · have hb := I.mod.kin _ _ h
    rcases f.2.2.2.1 with z | z
    · exact I.ok.noex _ o hb z
    · exact absurd (Nat.lt_of_lt_of_le (Heap.lt_size (I.ok.bs _ o hb).1) z) (Nat.lt_irrefl _)
def Sk.ads : Sk → List Addr
  | .L a => [a]
  | .Tp a => [a]
  | .S _ => []
theorem sk_draws (I : Inv X pins σ H s) (hc : X.calm = true) {sk : Sk} {vs : List V} {it : Addr} {i : Nat} (hs : sk.at X.K H vs) (hi : sk.iter it i s.heap) (f : FpOk X pins H it) :
    ∃ Pv St, SkD X.prog X.w X.A.in1 it sk vs i s.heap (it :: sk.ads) Pv St := by
  have hh : X.A.in1.handled = none := I.ok.hd hc
  cases sk with
  | L a =>
    obtain ⟨its, rv, p, hz⟩ := I.list hs
    have e : its.toArray.size = vs.length := by rw [List.size_toArray]; exact rv.length.symm
    refine ⟨fun j v => its.toArray[j]? = some v, fun i h => h.IsListIter it a i ∧ h.IsList a its.toArray, ⟨e ▸ Draws.list hh it a (fp_neL I f hs) its.toArray, ⟨hi, p.isList⟩, fun j u h => ?_, fun j h' st => st.1, List.mem_cons_self⟩⟩
    have h' : its[j]? = some u := by simpa using h
    have l : j < vs.length := by rw [rv.length]; exact (List.getElem?_eq_some_iff.mp h').1
    obtain ⟨u', e1, r⟩ := rv.get (List.getElem?_eq_getElem l)
    rw [h'] at e1; cases e1
    exact ⟨_, List.getElem?_eq_getElem l, r⟩
  | Tp a =>
    obtain ⟨its, rv, p, hz⟩ := I.tuple hs
    have e : its.toArray.size = vs.length := by rw [List.size_toArray]; exact rv.length.symm
    refine ⟨fun j v => its.toArray[j]? = some v, fun i h => h.IsTupleIter it a i ∧ h.IsTuple a its.toArray, ⟨e ▸ Draws.tuple hh it a (fp_neT I f hs) its.toArray, ⟨hi, show s.heap.IsTuple a its.toArray from p⟩, fun j u h => ?_, fun j h' st => st.1, List.mem_cons_self⟩⟩
    have h' : its[j]? = some u := by simpa using h
    have l : j < vs.length := by rw [rv.length]; exact (List.getElem?_eq_some_iff.mp h').1
    obtain ⟨u', e1, r⟩ := rv.get (List.getElem?_eq_getElem l)
    rw [h'] at e1; cases e1
    exact ⟨_, List.getElem?_eq_getElem l, r⟩
  | S x =>
    obtain ⟨t, hi⟩ := hi
    have hs' : vs = sgn x := hs
    have e : x.cps.size = vs.length := by rw [hs']; unfold sgn; rw [List.length_map, Array.length_toList]
    refine ⟨fun j v => ∃ c u, x.cps[j]? = some c ∧ v = .str ⟨#[c]⟩ u, fun i h => h.IsStrIter it (strIterType x) x t i, ⟨e ▸ Draws.text hh it x t, hi, fun j u h => ?_, fun j h' st => ⟨t, st⟩, List.mem_cons_self⟩⟩
    obtain ⟨c, w, h1, rfl⟩ := h
    refine ⟨.str ⟨#[c]⟩, ?_, ⟨w, rfl⟩⟩
    rw [hs']; unfold sgn
    rw [List.getElem?_map, Array.getElem?_toList, h1]; rfl
/-- iter(v) of a source -/
theorem sk_begins (I : Inv X pins σ H s) {sk : Sk} {vs : List V} {u : Value} (hs : sk.at X.K H vs) (r : RelV sk.v u) :
    ∃ (o : Obj) (Hp' : Heap → Prop), PySem.Begins u o Hp' ∧ Hp' s.heap ∧ ∀ h' it, h'.get? it = some o → sk.iter it 0 h' := by
  cases sk with
  | L a =>
    cases r
    obtain ⟨its, rv, p, hz⟩ := I.list hs
    exact ⟨_, _, begins_list a its.toArray, p.isList, fun h' it e => ⟨_, e, rfl, rfl⟩⟩
  | Tp a =>
    cases r
    obtain ⟨its, rv, p, hz⟩ := I.tuple hs
    exact ⟨_, _, begins_tuple a its.toArray, (show s.heap.IsTuple a its.toArray from p), fun h' it e => ⟨_, e, rfl, rfl⟩⟩
  | S x =>
    obtain ⟨t, rfl⟩ := r
    exact ⟨_, _, begins_text x t, trivial, fun h' it e => ⟨t, _, e, rfl, rfl⟩⟩
theorem ads_ne (I : Inv X pins σ H s) {sk : Sk} {vs : List V} {b : Addr} (f : FpOk X pins H b) (hs : sk.at X.K H vs) : b ∉ sk.ads := by
  cases sk with
  | L a => intro h; exact fp_neL I f hs (List.mem_singleton.mp h).symm
  | Tp a => intro h; exact fp_neT I f hs (List.mem_singleton.mp h).symm
  | S x => intro h; cases h
/-- an item of a walk over pairs, by the library's WalksT -/
theorem walk_item {elts : List Expr} {kk : Nat} {tpos : Pos} {it : Addr} {fp wr : List Addr} {n : Nat} {Pt : Nat → Array Value → Prop} {St : Nat → Heap → Prop} {Mid : Nat → Addr → Heap → Prop} {E : Value → Shared → Prop} {i : Nat} {xs : Nat → List V}
    (I : Inv X pins σ H s) (W : WalksT X.prog X.w X.A it fp wr n Pt St Mid) (hw : ∀ b ∈ wr, FpOk X pins H b) (hi : i < n) (st : St i s.heap) (hrel : ∀ vals, Pt i vals → Vals (xs i) vals.toList) (hz : (xs i).length ≤ sizeLine)
    {R : V → Hp → Heap → Prop} (hR : ∀ T h', s.heap.objs.size ≤ T → H T = none → St (i + 1) h' → (∀ b ∈ wr, upd H T (.tup (xs i)) b = none) → R (.ref T) (upd H T (.tup (xs i))) h') :
    wpAny (model X.prog X.w) X.A (pyNext (.ref it)) (fun r s1 => ∃ u, r = some u ∧
      wpAny (model X.prog X.w) X.A (letOwnedTupleGo (.Tuple elts kk tpos) (.ref it) u) (fun _ s2 => ∃ x H', Inv X pins σ H' s2 ∧ RelV x u ∧ R x H' s2.heap) E s1) E s := by
  refine W.item i s _ E hi st fun T vals h' tk hP hT hTup hMid hk => ?_
  refine ⟨_, rfl, W.go elts kk tpos i T _ _ _ hMid fun h'' hSt hk2 => ?_⟩
  have hTw : T ∉ wr := W.apart i T h' hMid
  have hTup2 : h''.IsTuple T vals := Heap.IsTuple.at hTup fun o e => hk2 T o hTw e
  have new : ObjOk X.prog X.w (upd H T (.tup (xs i))) h'' T (.tup (xs i)) := ⟨hz, vals.toList, hrel vals hP, by
    have e : vals.toList.toArray = vals := by simp
    rw [e]; exact hTup2⟩
  have hn : H T = none := I.hok.fresh hT
  have I1 : Inv X pins σ (upd H T (.tup (xs i))) { s with heap := h'', toks := tk } :=
    I.turnedNew (ch := wr) (fun b ob hb q => hk2 b ob hb (hk b ob hb q)) hw hT new
  refine ⟨.ref T, _, I1, rfl, hR T h'' hT hn hSt fun b hb => ?_⟩
  have : b ≠ T := fun e => hTw (e ▸ hb)
  rw [upd_ne this]
  exact (hw b hb).1
/-- enumerate: the turns -/
def JE (K : PySem.W.Frag) (sk : Sk) (vs : List V) : It :=
  ⟨fun i H => sk.at K H vs ∧ i < vs.length, fun i H v H' => ∃ T x, v = .ref T ∧ H T = none ∧ H' = upd H T (.tup [.int (i : Nat), x]) ∧ vs[i]? = some x, fun i H => sk.at K H vs ∧ vs.length ≤ i⟩
theorem turn_enumG {P : Program} {w : World} {K : PySem.W.Frag} {elts : List Expr} {kk : Nat} {tpos : Pos} (sk : Sk) (vs : List V) (e it : Addr) (hne : e ≠ it) :
    Turn P w K (.Tuple elts kk tpos) (JE K sk vs) [e, it] e (fun i h => i ≤ vs.length ∧ (∃ old, IsEnum h e it ((i : Nat) : Int) old) ∧ sk.iter it i h) where
  mem := by simp
  obj := fun i h st b hb => by
    obtain ⟨_, ⟨old, he⟩, hi⟩ := st
    have e' : b = e ∨ b = it := by simpa using hb
    rcases e' with z | z
    · rw [z]; exact ⟨_, he, fun v q => nomatch q⟩
    · rw [z]; exact sk_obj hi
  keep := fun i h h' st k => let ⟨l, ⟨old, he⟩, hi⟩ := st; ⟨l, ⟨old, k e (by simp) _ he⟩, sk_it (K := K) hi fun o q => k it (by simp) o q⟩
  item := by
    intro X hP hw hK hc i pins s σ H E I hf st hg
    subst hP hw hK
    obtain ⟨_, he, hit⟩ := st
    obtain ⟨hs, hlt⟩ := hg
    obtain ⟨Pv, St, D⟩ := sk_draws I hc hs hit (hf it (by simp))
    have hef : e ∉ it :: sk.ads := by
      intro z
      rcases List.mem_cons.mp z with z | z
      · exact hne z
      · exact ads_ne I (hf e (by simp)) hs z
    have W := WalksT.enumerateD D.D e hne hef D.mem
    refine walk_item (xs := fun i => [.int (i : Nat), vs.getD i .non]) (R := fun x H' h' => (JE X.K sk vs).yld i H x H' ∧ (i + 1 ≤ vs.length ∧ (∃ old, IsEnum h' e it ((i + 1 : Nat) : Int) old) ∧ sk.iter it (i + 1) h') ∧ ∀ b ∈ [e, it], H' b = none)
      I W hf hlt ⟨he, D.st⟩ (fun vals hv => ?_) (by show 2 ≤ sizeLine; rw [sizeLine_eq]; decide) fun T h' hTs hn hSt hbw => ⟨⟨T, vs[i], rfl, hn, ?_, List.getElem?_eq_getElem hlt⟩, ⟨by omega, hSt.1, D.back _ _ hSt.2⟩, hbw⟩
    · obtain ⟨t, x, hx, rfl⟩ := hv
      obtain ⟨y, hy, ry⟩ := D.rel i x hx
      have : vs.getD i .non = y := by rw [List.getD_eq_getElem?_getD, hy]; rfl
      rw [this]
      exact .cons ⟨t, rfl⟩ (.cons ry .nil)
    · have : vs.getD i .non = vs[i] := by rw [List.getD_eq_getElem?_getD, List.getElem?_eq_getElem hlt]; rfl
      rw [this]
  done := by
    intro X hP hw hK hc i pins s σ H E I hf st hg
    subst hP hw hK
    obtain ⟨hle, he, hit⟩ := st
    obtain ⟨hs, hge⟩ := hg
    have ei : i = vs.length := by omega
    subst ei
    obtain ⟨Pv, St, D⟩ := sk_draws I hc hs hit (hf it (by simp))
    have hef : e ∉ it :: sk.ads := by
      intro z
      rcases List.mem_cons.mp z with z | z
      · exact hne z
      · exact ads_ne I (hf e (by simp)) hs z
    have W := WalksT.enumerateD D.D e hne hef D.mem
    refine W.done s _ E ⟨he, D.st⟩ fun h' tk hk => ⟨rfl, ?_⟩
    exact I.turnedL hk hf
  self := fun A i s Q E st hQ => by
    obtain ⟨_, ⟨old, he⟩, _⟩ := st
    exact wpAny_pyIter_enum he hQ
/-- zip: the turns -/
def JZ (K : PySem.W.Frag) (sk sk2 : Sk) (vs ws : List V) : It :=
  ⟨fun i H => sk.at K H vs ∧ sk2.at K H ws ∧ i < vs.length ∧ i < ws.length, fun i H v H' => ∃ T x y, v = .ref T ∧ H T = none ∧ H' = upd H T (.tup [x, y]) ∧ vs[i]? = some x ∧ ws[i]? = some y, fun i H => sk.at K H vs ∧ sk2.at K H ws ∧ (vs.length ≤ i ∨ ws.length ≤ i)⟩
theorem zip_sep (I : Inv X pins σ H s) {sk sk2 : Sk} {vs ws : List V} {z TI TO i1 i2 : Addr} (h1 : sk.at X.K H vs) (h2 : sk2.at X.K H ws) (hf : ∀ b ∈ [z, TI, TO, i1, i2], FpOk X pins H b) (nd : [z, TI, TO, i1, i2].Nodup) :
    ZipSep2 z TI TO i1 i2 (i1 :: sk.ads) (i2 :: sk2.ads) := by
  simp only [List.nodup_cons, List.mem_cons, List.not_mem_nil, or_false, not_or, not_false_eq_true, List.nodup_nil, and_true] at nd
  obtain ⟨⟨a1, a2, a3, a4⟩, ⟨b1, b2, b3⟩, ⟨c1, c2⟩, d1⟩ := nd
  have f : ∀ b, b ∈ [z, TI, TO, i1, i2] → b ∉ sk.ads ∧ b ∉ sk2.ads := fun b hb => ⟨ads_ne I (hf b hb) h1, ads_ne I (hf b hb) h2⟩
  refine ⟨Ne.symm a1, Ne.symm a2, b1, b2, List.mem_cons_self, ?_, ?_, b3, List.mem_cons_self, ?_, ?_, ?_, ?_⟩
  · exact fun q => (List.mem_cons.mp q).elim a3 (f z (by simp)).1
  · exact fun q => (List.mem_cons.mp q).elim c1 (f TO (by simp)).1
  · exact fun q => (List.mem_cons.mp q).elim a4 (f z (by simp)).2
  · exact fun q => (List.mem_cons.mp q).elim c2 (f TO (by simp)).2
  · exact fun q => (List.mem_cons.mp q).elim d1 (f i1 (by simp)).2
  · exact fun q => (List.mem_cons.mp q).elim (Ne.symm d1) (f i2 (by simp)).1
theorem turn_zipG {P : Program} {w : World} {K : PySem.W.Frag} {elts : List Expr} {kk : Nat} {tpos : Pos} (sk sk2 : Sk) (vs ws : List V) (z TI TO i1 i2 : Addr) (nd : [z, TI, TO, i1, i2].Nodup) :
    Turn P w K (.Tuple elts kk tpos) (JZ K sk sk2 vs ws) [z, TI, TO, i1, i2] z (fun i h => i ≤ vs.length ∧ i ≤ ws.length ∧ IsZip h z TI TO .none ∧ IsTupOf2 h TI (.ref i1) (.ref i2) ∧ (∃ x y, IsTupOf2 h TO x y) ∧ sk.iter i1 i h ∧ sk2.iter i2 i h) where
  mem := by simp
  obj := fun i h st b hb => by
    obtain ⟨_, _, hz, hTI, ⟨x, y, hTO⟩, s1, s2⟩ := st
    have e' : b = z ∨ b = TI ∨ b = TO ∨ b = i1 ∨ b = i2 := by simpa using hb
    rcases e' with e | e | e | e | e
    · rw [e]; exact ⟨_, hz, fun v q => nomatch q⟩
    · rw [e]; exact ⟨_, hTI, fun v q => nomatch q⟩
    · rw [e]; exact ⟨_, hTO, fun v q => nomatch q⟩
    · rw [e]; exact sk_obj s1
    · rw [e]; exact sk_obj s2
  keep := fun i h h' st k => let ⟨l1, l2, hz, hTI, ⟨x, y, hTO⟩, s1, s2⟩ := st
    ⟨l1, l2, k z (by simp) _ hz, k TI (by simp) _ hTI, ⟨x, y, k TO (by simp) _ hTO⟩, sk_it (K := K) s1 fun o q => k i1 (by simp) o q, sk_it (K := K) s2 fun o q => k i2 (by simp) o q⟩
  item := by
    intro X hP hw hK hc i pins s σ H E I hf st hg
    subst hP hw hK
    obtain ⟨_, _, hz, hTI, hTO, s1, s2⟩ := st
    obtain ⟨h1, h2, l1, l2⟩ := hg
    obtain ⟨Pv, St, D⟩ := sk_draws I hc h1 s1 (hf i1 (by simp))
    obtain ⟨Pv2, St2, D2⟩ := sk_draws I hc h2 s2 (hf i2 (by simp))
    have W := WalksT.zipD2 (zip_sep I h1 h2 hf nd) D.D D2.D
    refine walk_item (xs := fun i => [vs.getD i .non, ws.getD i .non]) (R := fun x H' h' => (JZ X.K sk sk2 vs ws).yld i H x H' ∧ (i + 1 ≤ vs.length ∧ i + 1 ≤ ws.length ∧ IsZip h' z TI TO .none ∧ IsTupOf2 h' TI (.ref i1) (.ref i2) ∧ (∃ x y, IsTupOf2 h' TO x y) ∧ sk.iter i1 (i + 1) h' ∧ sk2.iter i2 (i + 1) h') ∧ ∀ b ∈ [z, TI, TO, i1, i2], H' b = none)
      I W (fun b hb => hf b ?_) (by omega) ⟨hz, hTI, hTO, D.st, D2.st⟩ (fun vals hv => ?_) (by show 2 ≤ sizeLine; rw [sizeLine_eq]; decide) fun T h' hTs hn hSt hbw => ⟨⟨T, vs[i], ws[i], rfl, hn, ?_, List.getElem?_eq_getElem l1, List.getElem?_eq_getElem l2⟩, ⟨by omega, by omega, hSt.1, hSt.2.1, hSt.2.2.1, D.back _ _ hSt.2.2.2.1, D2.back _ _ hSt.2.2.2.2⟩, fun b hb => ?_⟩
    · have e' : b = z ∨ b = TO ∨ b = i1 ∨ b = i2 := by simpa using hb
      rcases e' with e | e | e | e <;> simp [e]
    · obtain ⟨x, y, hx, hy, rfl⟩ := hv
      obtain ⟨x', hx', rx⟩ := D.rel i x hx
      obtain ⟨y', hy', ry⟩ := D2.rel i y hy
      have e1 : vs.getD i .non = x' := by rw [List.getD_eq_getElem?_getD, hx']; rfl
      have e2 : ws.getD i .non = y' := by rw [List.getD_eq_getElem?_getD, hy']; rfl
      rw [e1, e2]
      exact .cons rx (.cons ry .nil)
    · have e1 : vs.getD i .non = vs[i] := by rw [List.getD_eq_getElem?_getD, List.getElem?_eq_getElem l1]; rfl
      have e2 : ws.getD i .non = ws[i] := by rw [List.getD_eq_getElem?_getD, List.getElem?_eq_getElem l2]; rfl
      rw [e1, e2]
    · by_cases eb : b = TI
      · have lt : TI < s.heap.objs.size := Heap.lt_size hTI
        rw [upd_ne (by rw [eb]; exact Nat.ne_of_lt (Nat.lt_of_lt_of_le lt hTs))]; exact (hf b hb).1
      · have e' : b = z ∨ b = TI ∨ b = TO ∨ b = i1 ∨ b = i2 := by simpa using hb
        exact hbw b (by
          rcases e' with e | e | e | e | e
          · simp [e]
          · exact absurd e eb
          · simp [e]
          · simp [e]
          · simp [e])
  done := by
    intro X hP hw hK hc i pins s σ H E I hf st hg
    subst hP hw hK
    obtain ⟨q1, q2, hz, hTI, hTO, s1, s2⟩ := st
    obtain ⟨h1, h2, l⟩ := hg
    have ei : i = min vs.length ws.length := by omega
    obtain ⟨Pv, St, D⟩ := sk_draws I hc h1 s1 (hf i1 (by simp))
    obtain ⟨Pv2, St2, D2⟩ := sk_draws I hc h2 s2 (hf i2 (by simp))
    have W := WalksT.zipD2 (zip_sep I h1 h2 hf nd) D.D D2.D
    refine W.done s _ E (ei ▸ ⟨hz, hTI, hTO, D.st, D2.st⟩) fun h' tk hk => ⟨rfl, ?_⟩
    refine I.turnedL hk fun b hb => hf b ?_
    have e' : b = z ∨ b = TO ∨ b = i1 ∨ b = i2 := by simpa using hb
    rcases e' with e | e | e | e <;> simp [e]
  self := fun A i s Q E st hQ => by
    obtain ⟨_, _, hz, _⟩ := st
    exact wpAny_pyIter_zip hz hQ
end
/-! ### the mirror's walks -/
structure ItOk (K : PySem.W.Frag) (mg : Str → Option Value) (g0 : G) (xs : List T) (J : It) : Prop where
  go : ∀ i g, Sub g0 g → Rel K mg g → i < xs.length → J.go i g.H
  yld : ∀ i g x H', Sub g0 g → Rel K mg g → i < xs.length → J.yld i g.H x H' → ∃ g', g'.H = H' ∧ g'.h = g.h ∧ Ext g g' ∧ Rel K mg g' ∧ ∃ t, xs[i]? = some t ∧ Rep K mg g' t x
  stop : ∀ i g, Sub g0 g → Rel K mg g → xs.length ≤ i → J.stop i g.H
abbrev MI := SM → MH → RL
def wpI (K : PySem.W.Frag) (mg : Str → Option Value) (W : WX) (g : G) (σ : L2.St) (Rr : It → Hp → Prop) : RL → Prop
  | .ok xs h' => ∀ g' J, g'.h = h' → Ext g g' → Rel K mg g' → ItOk K mg g' xs J → Rr J g'.H
  | .ex x h' => ∀ g' cls d, g'.h = h' → Ext g g' → Rel K mg g' → RepX K mg g' x cls d → W cls d σ g'.H
  | .stuck => False
def tMI (K : PySem.W.Frag) (mg : Str → Option Value) (W : WX) (m : MI) : TI := fun σ H Rr => ∃ g s, g.H = H ∧ Rel K mg g ∧ RepS K mg g s σ ∧ wpI K mg W g σ Rr (m s g.h)
abbrev SI (X : Cx) (W : WX) (tg iter : Expr) (m : MI) : Prop := PI X tg iter (tMI X.K X.mg W m)
theorem weakI {X : Cx} {tg e : Expr} {t t' : TI} (h : PI X tg e t) (k : ∀ σ H Q, t' σ H Q → t σ H Q) : PI X tg e t' := ⟨fun pins s σ H Q I q => h.run pins s σ H Q I (k σ H Q q)⟩
def chrT (x : Str) : List T := x.cps.toList.map fun c => T.str ⟨#[c]⟩
theorem rep_chr {K : PySem.W.Frag} {mg : Str → Option Value} {g : G} (x : Str) : RepL K mg g (chrT x) (sgn x) := by
  have : ∀ l : List Nat, RepL K mg g (l.map fun c => T.str ⟨#[c]⟩) (l.map fun c => V.str ⟨#[c]⟩) := by
    intro l
    induction l with
    | nil => exact RepL.nil
    | cons c l ih => exact RepL.cons rStr ih
  exact this _
/-- the items of a source that stands (no changeable list) -/
def srcOf (t : T) : Option (List T) := match t with
  | .tup xs => some xs
  | .lst xs => some xs
  | .frl xs => some xs
  | .str x => some (chrT x)
  | _ => none
theorem sk_sub {K : PySem.W.Frag} {mg : Str → Option Value} {g : G} {t : T} {v : V} {xs : List T} (r : Rep K mg g t v) (h : srcOf t = some xs) :
    ∃ (sk : Sk) (vs : List V), v = sk.v ∧ RepL K mg g xs vs ∧ ∀ g' : G, Sub g g' → sk.at K g'.H vs := by
  unfold srcOf at h
  cases t with
  | tup ys =>
    cases h
    simp only [Rep] at r
    obtain ⟨p, vs, e, h1, l1⟩ := r
    refine ⟨.Tp p, vs, e, l1, fun g' s => ?_⟩
    rcases h1 with ⟨h1 | ⟨o, h1⟩, n⟩ | h1
    · exact .inl (.inl (s.keep _ _ h1 n).1)
    · exact .inl (.inr ⟨o, (s.keep _ _ h1 n).1⟩)
    · exact .inr h1
  | lst ys =>
    cases h
    simp only [Rep] at r
    obtain ⟨p, vs, e, ⟨h1, n⟩, l1⟩ := r
    exact ⟨.L p, vs, e, l1, fun g' s => .inl (.inl (s.keep _ _ h1 n).1)⟩
  | frl ys =>
    cases h
    simp only [Rep] at r
    obtain ⟨p, vs, e, h1, l1⟩ := r
    refine ⟨.L p, vs, e, l1, fun g' s => ?_⟩
    rcases h1 with ⟨⟨o, h1⟩, n⟩ | h1
    · exact .inl (.inr ⟨o, (s.keep _ _ h1 n).1⟩)
    · exact .inr h1
  | str x =>
    cases h
    exact ⟨.S x, sgn x, rep_str r, rep_chr x, fun g' s => rfl⟩
  | _ => cases h
section
variable {X : Cx} {W : WX} {a b : Expr} {ma mb : ME} {mr : MA} {p pos tpos : Pos} {K : PySem.W.Frag} {mg : Str → Option Value} {g : G} {σ : L2.St}
/-- the turns of a source -/
def Jsk (K : PySem.W.Frag) : Sk → It
  | .L a => Itl K a
  | .Tp a => Itt K a
  | .S x => Its x
def iSrc (K : PySem.W.Frag) (tl : TE) : TI := fun σ H R => tl σ H fun x H1 => ∃ (sk : Sk) (vs : List V), x = sk.v ∧ sk.at K H1 vs ∧ R (Jsk K sk) H1
theorem pi_src {tg l : Expr} {tl : TE} (hl : PE X l tl) : PI X tg l (iSrc X.K tl) := by
  refine ⟨fun pins s σ H R I h => ?_⟩
  refine thn (hl.run pins s σ H _ I h) fun v s1 ⟨x, H1, I1, r1, q1⟩ => ?_
  obtain ⟨sk, vs, e, hq, q⟩ := q1
  subst e
  cases sk with
  | L a =>
    cases r1
    obtain ⟨its, rv, p, hz⟩ := I1.list hq
    refine wpAny_pyIter_list p.isList ?_
    exact pi_one (tk := s1.toks) I1 _ (turn_list a _) ⟨_, Heap.get?_push_size _ rfl, rfl, rfl⟩ q
  | Tp a =>
    cases r1
    obtain ⟨its, rv, p, hz⟩ := I1.tuple hq
    refine wpAny_pyIter_tuple (show s1.heap.IsTuple a its.toArray from p) ?_
    exact pi_one (tk := s1.toks) I1 _ (turn_tuple a _) ⟨_, Heap.get?_push_size _ rfl, rfl, rfl⟩ q
  | S x =>
    obtain ⟨t, rfl⟩ := r1
    cases ha : x.cps.all (· < 128)
    · exact wpAny_pyIter_wide ha (pi_one (tk := s1.toks) I1 _ (turn_str _ x t "str_iterator" (.inr rfl)) ⟨_, Heap.get?_push_size _ rfl, rfl, rfl⟩ q)
    · exact wpAny_pyIter_ascii ha (pi_one (tk := s1.toks) I1 _ (turn_str _ x t "str_ascii_iterator" (.inl rfl)) ⟨_, Heap.get?_push_size _ rfl, rfl, rfl⟩ q)
theorem jsk_ok {sk : Sk} {vs : List V} {xs : List T} (r : RepL K mg g xs vs) (hs : ∀ g' : G, Sub g g' → sk.at K g'.H vs) : ItOk K mg g xs (Jsk K sk) := by
  have key : ∀ (i : Nat) (g1 : G) (x : V), Sub g g1 → Rel K mg g1 → vs[i]? = some x → ∃ g', g'.H = g1.H ∧ g'.h = g1.h ∧ Ext g1 g' ∧ Rel K mg g' ∧ ∃ t, xs[i]? = some t ∧ Rep K mg g' t x := fun i g1 x s R e => by
    obtain ⟨t, e1, r1⟩ := (r.sub s).get' e
    exact ⟨g1, rfl, rfl, Ext.refl _, R, t, e1, r1⟩
  cases sk with
  | L a =>
    refine ⟨fun i g1 s R l => ?_, fun i g1 x H' s R il y => ?_, fun i g1 s R l => ⟨vs, hs g1 s, by rw [← r.length]; exact l⟩⟩
    · rw [r.length] at l; exact ⟨vs, _, hs g1 s, List.getElem?_eq_getElem l⟩
    · obtain ⟨rfl, y⟩ := y; exact key i g1 x s R (y vs (hs g1 s))
  | Tp a =>
    refine ⟨fun i g1 s R l => ?_, fun i g1 x H' s R il y => ?_, fun i g1 s R l => ⟨vs, hs g1 s, by rw [← r.length]; exact l⟩⟩
    · rw [r.length] at l; exact ⟨vs, _, hs g1 s, List.getElem?_eq_getElem l⟩
    · obtain ⟨rfl, y⟩ := y; exact key i g1 x s R (y vs (hs g1 s))
  | S x =>
    have e : vs = sgn x := hs g ⟨fun _ _ h => h, fun _ _ h n => ⟨h, n⟩⟩
    have l0 : xs.length = x.cps.size := by rw [r.length, e]; unfold sgn; rw [List.length_map, Array.length_toList]
    refine ⟨fun i g1 s R l => by rw [l0] at l; exact l, fun i g1 v H' s R il y => ?_, fun i g1 s R l => by rw [l0] at l; exact l⟩
    obtain ⟨rfl, c, hc, rfl⟩ := y
    refine key i g1 _ s R ?_
    rw [e]; unfold sgn
    rw [List.getElem?_map, Array.getElem?_toList, hc]; rfl
def iS : T → MH → RL := fun t h => match srcOf t with
  | some xs => .ok xs h
  | none => .stuck
def R.bindL (r : R) (f : T → MH → RL) : RL := match r with
  | .ok t h => f t h
  | .ex x h => .ex x h
  | .stuck => .stuck
theorem wpI.ext {Rr : It → Hp → Prop} {g g' : G} {r : RL} (h : wpI K mg W g σ Rr r) (e : Ext g g') : wpI K mg W g' σ Rr r := by
  cases r with
  | ok t h' => exact fun g2 v q e2 => h g2 v q (e.trans e2)
  | ex x h' => exact fun g2 c d q e2 => h g2 c d q (e.trans e2)
  | stuck => exact h
theorem wpI_bind {Rr : It → Hp → Prop} {Q' : VK} {r : R} {f : T → MH → RL} (h : wpI K mg W g σ Rr (r.bindL f)) (k : ∀ g' t v, Ext g g' → Rel K mg g' → Rep K mg g' t v → wpI K mg W g' σ Rr (f t g'.h) → Q' v g'.H) : wpR K mg W g σ Q' r := by
  cases r with
  | ok t h' => exact fun g' v q e R r => k g' t v e R r (by subst q; exact wpI.ext h e)
  | ex x h' => exact h
  | stuck => exact h
def mSrc (ma : ME) : MI := fun s h => (ma s h).bindL iS
theorem si_src {tg : Expr} (ha : SE X W a ma) : SI X W tg a (mSrc ma) := by
  refine weakI (pi_src ha) ?_
  rintro σ H Rr ⟨g, s, rfl, R, S, h⟩
  refine ⟨g, s, rfl, R, S, wpI_bind h fun g1 t v e1 R1 r1 h1 => ?_⟩
  unfold iS at h1
  split at h1
  · rename_i xs q
    obtain ⟨sk, vs, e, l, hs⟩ := sk_sub r1 q
    refine ⟨sk, vs, e, hs g1 ⟨fun _ _ h => h, fun _ _ h n => ⟨h, n⟩⟩, h1 g1 _ rfl (Ext.refl _) R1 (jsk_ok l hs)⟩
  · exact h1.elim
end
end Mi
namespace PySem
open Sem (wp)
theorem meets_enumerate_newB1 {v : Value} {o : Obj} {H : Heap → Prop} (B : Begins v o H) :
    Meets (Builtin.«enumerate.__new__» ⟨[.type "enumerate", v], []⟩) (fun _ R s => H s.heap ∧
      R (.ok (.ret (.ref (s.heap.push o).objs.size))) { s with heap := (s.heap.push o).push { cls := .type "enumerate", data := .fields #[.none, .bool false, .ref s.heap.objs.size, rawInt 0, .none, .none] } }) :=
  .of_wp fun prog w A R s h => by
    obtain ⟨hp, g, d, tk, os⟩ := s; obtain ⟨h1, h⟩ := h
    have hsub := sub_enumerate
    have q1 : ∀ {A' : Around} {E : Value → Shared → Prop} {Q : Value → Shared → Prop}, Q (.ref hp.objs.size) ⟨hp.push o, g, d, tk, os⟩ → wpAny (model prog w) A' (pyIter v) Q E ⟨hp, g, d, tk, os⟩ :=
      fun q => B.iter prog w _ _ ⟨hp, g, d, tk, os⟩ _ h1 q
    wp_walk using q1
    refine wpAny_stack_any fun st => wpAny_pure ?_
    split
    · rename_i c _ _ _ _ _
      cases (c == Value.type "enumerate")
      · wp_walk using q1
        exact ⟨_, rfl, h⟩
      · wp_walk using q1
        exact ⟨_, rfl, h⟩
    · wp_walk using q1
      exact ⟨_, rfl, h⟩
section
variable {prog : Program} {w : World} {A : Around} {E : Value → Shared → Prop} {s : Shared}
theorem enum_begins1 {v : Value} {o : Obj} {H : Heap → Prop} {Q : Value → Shared → Prop} (B : Begins v o H) (h1 : H s.heap)
    (h : ∀ h', IsEnum h' (s.heap.objs.size + 1) s.heap.objs.size 0 .none → h'.get? s.heap.objs.size = some o → h'.objs.size = s.heap.objs.size + 2 →
      (∀ b o, s.heap.get? b = some o → h'.get? b = some o) → Q (.ref (s.heap.objs.size + 1)) { s with heap := h' }) :
    wpAny (model prog w) A (call (.type "enumerate") [v]) Q E s := by
  refine callType_new F.called_enumerate (by decide) (F.typeCall_enumerate_1 _) (F.newCall_enumerate_1 _) (fun obj => F.args_object_init_2 obj _) F.entry_enumerate_new
    (meets_enumerate_newB1 B) ⟨h1, ?_⟩
  have hz : (s.heap.push o).objs.size = s.heap.objs.size + 1 := Heap.size_push ..
  show _ ∧ _
  rw [hz]
  have he : IsEnum ((s.heap.push o).push { cls := .type "enumerate", data := .fields #[.none, .bool false, .ref s.heap.objs.size, rawInt 0, .none, .none] }) (s.heap.objs.size + 1) s.heap.objs.size 0 .none := by
    have := Heap.get?_push_size (s.heap.push o) (o := { cls := .type "enumerate", data := .fields #[.none, .bool false, .ref s.heap.objs.size, rawInt 0, .none, .none] }) rfl
    rw [hz] at this; exact this
  refine ⟨⟨_, he, rfl⟩, h _ he (Heap.get?_push_of_some _ (Heap.get?_push_size _ B.free)) (by rw [Heap.size_push, hz]) fun b o x => Heap.get?_push_of_some _ (Heap.get?_push_of_some _ x)⟩
end
end PySem
namespace Mi
open PySem PySem.Spec PyProof.Rows L2
section
variable {X : Cx} {W : WX} {a b : Expr} {ma mb : ME} {mr : MA} {p pos tpos : Pos} {K : PySem.W.Frag} {mg : Str → Option Value} {g : G} {σ : L2.St} {elts : List Expr} {kk : Nat}
def iEnumG (K : PySem.W.Frag) (ta : TA) : TI := fun σ H R => ta σ H fun us H1 => ∃ (sk : Sk) (vs : List V), us = [sk.v] ∧ sk.at K H1 vs ∧ R (JE K sk vs) H1
theorem pi_enumG {ta : TA} (hm : X.mg "enumerate" = none) (ha : PA X [a] ta) (hg : Gl X "enumerate" := by rfl) (hs : starEach [a] X.env = [(false, eval a X.env)] := by rfl) :
    PI X (.Tuple elts kk tpos) (.Call (.Name "enumerate" p) [a] [] pos) (iEnumG X.K ta) := by
  refine ⟨fun pins s σ H R I h => ?_⟩
  refine Call_ (ld_blt I hg hm boot_enumerate (PyProof.Rows.callWith_type1 (thn (ha.run pos pins s σ H _ I h) fun us s1 ⟨vs, H1, I1, r1, q1⟩ => ?_) hs rfl))
  obtain ⟨sk, ws, ex, hq, q⟩ := q1
  subst ex
  cases r1 with
  | cons r rr =>
    cases rr
    obtain ⟨o, Hb, B, hB, hit⟩ := sk_begins I1 hq r
    refine PySem.enum_begins1 B hB fun h' he hi hsz hk => wpAny_pyIter_enum he ?_
    have I2 : Inv X pins σ H1 { s1 with heap := h' } := I1.kept (t' := s1.toks) hk
    refine ⟨s1.heap.objs.size + 1, [s1.heap.objs.size + 1, s1.heap.objs.size], _, _, H1, rfl, I2, turn_enumG sk ws (s1.heap.objs.size + 1) s1.heap.objs.size (Nat.succ_ne_self _), ⟨Nat.zero_le _, ⟨.none, he⟩, hit h' _ hi⟩, fun b hb => ?_, q⟩
    have e' : b = s1.heap.objs.size + 1 ∨ b = s1.heap.objs.size := by simpa using hb
    have hle : s1.heap.objs.size ≤ b := by
      rcases e' with z | z
      · rw [z]; exact Nat.le_add_right _ _
      · rw [z]; exact Nat.le_refl _
    exact I1.fpOk hle (I1.hok.fresh hle)
def iZipG (K : PySem.W.Frag) (ta : TA) : TI := fun σ H R => ta σ H fun us H1 => ∃ (sk sk2 : Sk) (vs ws : List V), us = [sk.v, sk2.v] ∧ sk.at K H1 vs ∧ sk2.at K H1 ws ∧ R (JZ K sk sk2 vs ws) H1
theorem pi_zipG {ta : TA} (hm : X.mg "zip" = none) (ha : PA X [a, b] ta) (hg : Gl X "zip" := by rfl)
    (hs : starEach [a, b] X.env = (false, eval a X.env) :: starEach [b] X.env := by rfl) (hpl : (backTo pos (starEach [b] X.env)).any (·.1) = false := by rfl) :
    PI X (.Tuple elts kk tpos) (.Call (.Name "zip" p) [a, b] [] pos) (iZipG X.K ta) := by
  refine ⟨fun pins s σ H R I h => ?_⟩
  refine Call_ (ld_blt I hg hm PyProof.Rows.boot_zip (PyProof.Rows.callWith_type1 (thn (ha.run pos pins s σ H _ I h) fun us s1 ⟨vs, H1, I1, r1, q1⟩ => ?_) hs hpl))
  obtain ⟨sk, sk2, xs, ys, ex, hqx, hqy, q⟩ := q1
  subst ex
  cases r1 with
  | cons r rr =>
    cases rr with
    | cons r' rr =>
      cases rr
      obtain ⟨o, Hb, B, hB, hit⟩ := sk_begins I1 hqx r
      obtain ⟨o2, Hb2, B2, hB2, hit2⟩ := sk_begins I1 hqy r'
      refine PySem.zip_begins2 B B2 hB hB2 fun h' hz hTI hTO h1 h2 hsz hk => wpAny_pyIter_zip hz ?_
      have I2 : Inv X pins σ H1 { s1 with heap := h' } := I1.kept (t' := s1.toks) hk
      refine ⟨s1.heap.objs.size + 4, [s1.heap.objs.size + 4, s1.heap.objs.size + 2, s1.heap.objs.size + 3, s1.heap.objs.size, s1.heap.objs.size + 1], _, _, H1, rfl, I2, turn_zipG sk sk2 xs ys _ _ _ _ _ (by simp), ⟨Nat.zero_le _, Nat.zero_le _, hz, hTI, ⟨_, _, hTO⟩, hit h' _ h1, hit2 h' _ h2⟩, fun c hcm => ?_, q⟩
      have e' : c = s1.heap.objs.size + 4 ∨ c = s1.heap.objs.size + 2 ∨ c = s1.heap.objs.size + 3 ∨ c = s1.heap.objs.size ∨ c = s1.heap.objs.size + 1 := by simpa using hcm
      have hle : s1.heap.objs.size ≤ c := by
        rcases e' with z | z | z | z | z
        · rw [z]; exact Nat.le_add_right _ _
        · rw [z]; exact Nat.le_add_right _ _
        · rw [z]; exact Nat.le_add_right _ _
        · rw [z]; exact Nat.le_refl _
        · rw [z]; exact Nat.le_add_right _ _
      exact I1.fpOk hle (I1.hok.fresh hle)
def enumT : Nat → List T → List T
  | _, [] => []
  | n, x :: xs => .tup [.int (n : Int), x] :: enumT (n + 1) xs
theorem enumT_get : ∀ (xs : List T) (n i : Nat), (enumT n xs)[i]? = (xs[i]?).map fun x => T.tup [.int ((n + i : Nat) : Int), x]
  | [], _, _ => by simp [enumT]
  | x :: xs, n, 0 => by simp [enumT]
  | x :: xs, n, i + 1 => by
    simp only [enumT, List.getElem?_cons_succ]
    rw [enumT_get xs (n + 1) i]
    have : n + 1 + i = n + (i + 1) := by omega
    rw [this]
theorem enumT_len : ∀ (xs : List T) (n : Nat), (enumT n xs).length = xs.length
  | [], _ => rfl
  | x :: xs, n => by simp [enumT, enumT_len xs (n + 1)]
theorem yld_tup {R : Rel K mg g} {p : Addr} {xs : List T} {vs : List V} (hp : g.H p = none) (r : RepL K mg g xs vs) : ∃ g', g'.H = upd g.H p (.tup vs) ∧ g'.h = g.h ∧ Ext g g' ∧ Rel K mg g' ∧ Rep K mg g' (.tup xs) (.ref p) :=
  ⟨g.lay p (.tup vs), rfl, rfl, lay_ext R hp, R.lay hp, rep_tup R hp r⟩
theorem je_ok {sk : Sk} {vs : List V} {xs : List T} (r : RepL K mg g xs vs) (hs : ∀ g' : G, Sub g g' → sk.at K g'.H vs) : ItOk K mg g (enumT 0 xs) (JE K sk vs) := by
  refine ⟨fun i g1 s R l => ⟨hs g1 s, by rw [enumT_len, r.length] at l; exact l⟩, fun i g1 x H' s R il y => ?_, fun i g1 s R l => ⟨hs g1 s, by rw [enumT_len, r.length] at l; exact l⟩⟩
  obtain ⟨q, z, rfl, hq, rfl, hz⟩ := y
  obtain ⟨t, e1, r1⟩ := (r.sub s).get' hz
  obtain ⟨g', e2, e3, e4, R', r'⟩ := yld_tup (R := R) (xs := [.int (i : Int), t]) hq (RepL.cons rInt (RepL.cons r1 RepL.nil))
  refine ⟨g', e2, e3, e4, R', _, ?_, r'⟩
  rw [enumT_get, e1]
  simp
def zipT (xs ys : List T) : List T := (xs.zip ys).map fun q => .tup [q.1, q.2]
theorem jz_ok {sk sk2 : Sk} {vs ws : List V} {xs ys : List T} (r : RepL K mg g xs vs) (r2 : RepL K mg g ys ws) (hs : ∀ g' : G, Sub g g' → sk.at K g'.H vs) (hs2 : ∀ g' : G, Sub g g' → sk2.at K g'.H ws) : ItOk K mg g (zipT xs ys) (JZ K sk sk2 vs ws) := by
  have ln : (zipT xs ys).length = min vs.length ws.length := by unfold zipT; rw [List.length_map, List.length_zip, r.length, r2.length]
  refine ⟨fun i g1 s R l => ⟨hs g1 s, hs2 g1 s, by omega, by omega⟩, fun i g1 x H' s R il y => ?_, fun i g1 s R l => ⟨hs g1 s, hs2 g1 s, by omega⟩⟩
  obtain ⟨q, z, z2, rfl, hq, rfl, hz, hz2⟩ := y
  obtain ⟨t, e1, r1⟩ := (r.sub s).get' hz
  obtain ⟨t2, f1, rr1⟩ := (r2.sub s).get' hz2
  obtain ⟨g', e2, e3, e4, R', r'⟩ := yld_tup (R := R) (xs := [t, t2]) hq (RepL.cons r1 (RepL.cons rr1 RepL.nil))
  refine ⟨g', e2, e3, e4, R', _, ?_, r'⟩
  unfold zipT
  have z : (xs.zip ys)[i]? = some (t, t2) := List.getElem?_zip_eq_some.mpr ⟨e1, f1⟩
  rw [List.getElem?_map, z]
  rfl
def RL.bindL (r : RL) (f : List T → MH → RL) : RL := match r with
  | .ok t h => f t h
  | .ex x h => .ex x h
  | .stuck => .stuck
theorem wpI_bindL {Rr : It → Hp → Prop} {Q' : List V → Hp → Prop} {r : RL} {f : List T → MH → RL} (h : wpI K mg W g σ Rr (r.bindL f)) (k : ∀ g' ts vs, Ext g g' → Rel K mg g' → RepL K mg g' ts vs → wpI K mg W g' σ Rr (f ts g'.h) → Q' vs g'.H) : wpL K mg W g σ Q' r := by
  cases r with
  | ok t h' => exact fun g' v q e R r => k g' t v e R r (by subst q; exact wpI.ext h e)
  | ex x h' => exact h
  | stuck => exact h
def iEn : List T → MH → RL := fun ts h => match ts with
  | [t] => match srcOf t with
    | some xs => .ok (enumT 0 xs) h
    | none => .stuck
  | _ => .stuck
def iZp : List T → MH → RL := fun ts h => match ts with
  | [t, u] => match srcOf t, srcOf u with
    | some xs, some ys => .ok (zipT xs ys) h
    | _, _ => .stuck
  | _ => .stuck
def mIA (f : List T → MH → RL) (mr : MA) : MI := fun s h => (mr s h).bindL f
theorem sub_refl (g : G) : Sub g g := ⟨fun _ _ h => h, fun _ _ h n => ⟨h, n⟩⟩
theorem si_enum (hm : X.mg "enumerate" = none) (ha : SA X W [a] mr) (hg : Gl X "enumerate" := by rfl) (hs : starEach [a] X.env = [(false, eval a X.env)] := by rfl) :
    SI X W (.Tuple elts kk tpos) (.Call (.Name "enumerate" p) [a] [] pos) (mIA iEn mr) := by
  refine weakI (pi_enumG hm ha hg hs) ?_
  rintro σ H Rr ⟨g, s, rfl, R, S, h⟩
  refine ⟨g, s, rfl, R, S, wpI_bindL h fun g1 ts vs e1 R1 r1 h1 => ?_⟩
  unfold iEn at h1
  split at h1
  · obtain ⟨v, rfl, rv⟩ := r1.one
    split at h1
    · rename_i xs q
      obtain ⟨sk, ws, e, l, hs⟩ := sk_sub rv q
      exact ⟨sk, ws, by rw [e], hs g1 (sub_refl _), h1 g1 _ rfl (Ext.refl _) R1 (je_ok l hs)⟩
    · exact h1.elim
  · exact h1.elim
theorem si_zip (hm : X.mg "zip" = none) (ha : SA X W [a, b] mr) (hg : Gl X "zip" := by rfl)
    (hs : starEach [a, b] X.env = (false, eval a X.env) :: starEach [b] X.env := by rfl) (hpl : (backTo pos (starEach [b] X.env)).any (·.1) = false := by rfl) :
    SI X W (.Tuple elts kk tpos) (.Call (.Name "zip" p) [a, b] [] pos) (mIA iZp mr) := by
  refine weakI (pi_zipG hm ha hg hs hpl) ?_
  rintro σ H Rr ⟨g, s, rfl, R, S, h⟩
  refine ⟨g, s, rfl, R, S, wpI_bindL h fun g1 ts vs e1 R1 r1 h1 => ?_⟩
  unfold iZp at h1
  split at h1
  · simp only [RepL] at r1
    obtain ⟨v, w', rfl, rv, v2, w2, rfl, rv2, rfl⟩ := r1
    split at h1
    · rename_i xs ys q q2
      obtain ⟨sk, ws, e, l, hs⟩ := sk_sub rv q
      obtain ⟨sk2, ws2, e2, l2, hs2⟩ := sk_sub rv2 q2
      exact ⟨sk, sk2, ws, ws2, by rw [e, e2], hs g1 (sub_refl _), hs2 g1 (sub_refl _), h1 g1 _ rfl (Ext.refl _) R1 (jz_ok l l2 hs hs2)⟩
    · exact h1.elim
  · exact h1.elim
/-! ### range -/
def intsT (lo : Int) : Nat → List T
  | 0 => []
  | n + 1 => .int lo :: intsT (lo + 1) n
theorem intsT_len : ∀ (n : Nat) (lo : Int), (intsT lo n).length = n
  | 0, _ => rfl
  | n + 1, lo => by simp [intsT, intsT_len n (lo + 1)]
theorem intsT_get : ∀ (n : Nat) (lo : Int) (i : Nat), i < n → (intsT lo n)[i]? = some (.int (lo + i))
  | 0, _, _, h => absurd h (Nat.not_lt_zero _)
  | n + 1, lo, 0, h => by simp [intsT]
  | n + 1, lo, i + 1, h => by
    simp only [intsT, List.getElem?_cons_succ]
    rw [intsT_get n (lo + 1) i (by omega)]
    have : lo + 1 + (i : Int) = lo + ((i + 1 : Nat) : Int) := by omega
    rw [this]
theorem jr_ok {lo : Int} {n : Nat} : ItOk K mg g (intsT lo n) (Itr lo n) := by
  refine ⟨fun i g1 s R l => by rw [intsT_len] at l; exact l, fun i g1 x H' s R il y => ?_, fun i g1 s R l => by rw [intsT_len] at l; exact l⟩
  obtain ⟨rfl, rfl⟩ := y
  rw [intsT_len] at il
  exact ⟨g1, rfl, rfl, Ext.refl _, R, _, intsT_get n lo i il, rInt⟩
def rgOk (i : Int) : Bool := decide (-1000000 ≤ i) && decide (i ≤ 1000000)
def iRg1 : List T → MH → RL := fun ts h => match ts with
  | [.int n] => if rgOk n then .ok (intsT 0 n.toNat) h else .stuck
  | _ => .stuck
def iRg2 : List T → MH → RL := fun ts h => match ts with
  | [.int a, .int b] => if rgOk a && rgOk b then .ok (intsT a (b - a).toNat) h else .stuck
  | _ => .stuck
theorem rg_b {i : Int} (h : rgOk i = true) : -(2 ^ 62) ≤ i ∧ i < 2 ^ 62 := by
  unfold rgOk at h
  simp only [Bool.and_eq_true, decide_eq_true_eq] at h
  omega
theorem si_range1 {tg : Expr} (hm : X.mg "range" = none) (ha : SA X W [a] mr) (hg : Gl X "range" := by rfl) (hs : starEach [a] X.env = [(false, eval a X.env)] := by rfl) :
    SI X W tg (.Call (.Name "range" p) [a] [] pos) (mIA iRg1 mr) := by
  refine weakI (pi_range1 hg hm ha hs) ?_
  rintro σ H Rr ⟨g, s, rfl, R, S, h⟩
  refine ⟨g, s, rfl, R, S, wpI_bindL h fun g1 ts vs e1 R1 r1 h1 => ?_⟩
  unfold iRg1 at h1
  split at h1
  · rename_i n
    obtain ⟨v, rfl, rv⟩ := r1.one
    rw [rep_int rv]
    split at h1
    · rename_i q
      obtain ⟨b1, b2⟩ := rg_b q
      exact ⟨n, rfl, b1, b2, h1 g1 _ rfl (Ext.refl _) R1 jr_ok⟩
    · exact h1.elim
  · exact h1.elim
theorem si_range2 {tg : Expr} (hm : X.mg "range" = none) (ha : SA X W [a, b] mr) (hg : Gl X "range" := by rfl) (hs : starEach [a, b] X.env = [(false, eval a X.env), (false, eval b X.env)] := by rfl) (hs2 : starEach [b] X.env = [(false, eval b X.env)] := by rfl) :
    SI X W tg (.Call (.Name "range" p) [a, b] [] pos) (mIA iRg2 mr) := by
  refine weakI (pi_range2 hg hm ha hs hs2) ?_
  rintro σ H Rr ⟨g, s, rfl, R, S, h⟩
  refine ⟨g, s, rfl, R, S, wpI_bindL h fun g1 ts vs e1 R1 r1 h1 => ?_⟩
  unfold iRg2 at h1
  split at h1
  · rename_i i j
    rw [rep_int2 r1]
    split at h1
    · rename_i q
      obtain ⟨q1, q2⟩ := Bool.and_eq_true_iff.mp q
      exact ⟨i, j, rfl, ⟨(rg_b q1).1, (rg_b q1).2, (rg_b q2).1, (rg_b q2).2⟩, h1 g1 _ rfl (Ext.refl _) R1 jr_ok⟩
    · exact h1.elim
  · exact h1.elim
end
end Mi
end part_Mi4
section part_Mi5
set_option maxRecDepth 100000
set_option maxHeartbeats 2000000
/-! Mi, part 5: targets, comprehensions, statements. -/
namespace Mi
open PySem PySem.Spec PyProof.Rows L2
inductive GR where
  | ok (s : SM) (h : MH) | stuck
abbrev MG := T → SM → MH → GR
section
variable {X : Cx} {K : PySem.W.Frag} {mg : Str → Option Value} {W : WX} {g : G} {σ : L2.St} {Q : VK} {D : Ends}
variable {a b c e : Expr} {ma mb mc me mt : ME} {mr : MA} {pos p : Pos} {es : List Expr} {x : Str}
/-! ### targets -/
def wpG (K : PySem.W.Frag) (mg : Str → Option Value) (tl : List Nat) (g : G) (σ : L2.St) (Q : L2.St → Hp → Prop) : GR → Prop
  | .ok s' h' => ∀ g' σ', g'.h = h' → Ext g g' → Rel K mg g' → RepS K mg g' s' σ' → (∀ vs : List Nat, (∀ i ∈ tl, i ∈ vs) → wipe σ' vs = wipe σ vs) → Q σ' g'.H
  | .stuck => False
def tMG (K : PySem.W.Frag) (mg : Str → Option Value) (tl : List Nat) (m : MG) : TG := fun v σ H Q => ∃ g s t, g.H = H ∧ Rel K mg g ∧ RepS K mg g s σ ∧ Rep K mg g t v ∧ wpG K mg tl g σ Q (m t s g.h)
abbrev SG (X : Cx) (tg : Expr) (tl : List Nat) (m : MG) : Prop := PG X tg (tMG X.K X.mg tl m)
theorem weakG {X : Cx} {e : Expr} {t t' : TG} (h : PG X e t) (k : ∀ v σ H Q, t' v σ H Q → t v σ H Q) : PG X e t' := ⟨fun pins s σ H v u Q I r q => h.run pins s σ H v u Q I r (k v σ H Q q)⟩
theorem set_none_comm (σ : L2.St) (i j : Nat) (v : Option V) (h : i ≠ j) : (σ.set i v).set j none = (σ.set j none).set i v := by
  apply List.ext_getElem?
  intro k
  simp only [List.getElem?_set, List.length_set]
  by_cases h1 : j = k <;> by_cases h2 : i = k
  · exact absurd (h2.trans h1.symm) h
  · simp [h1, h2]
  · simp [h1, h2]
  · simp [h1, h2]
theorem wipe_set {σ : L2.St} {i : Nat} {v : Option V} : ∀ {vs : List Nat}, i ∈ vs → wipe (σ.set i v) vs = wipe σ vs
  | [], h => by cases h
  | j :: vs, h => by
    show (wipe (σ.set i v) vs).set j none = (wipe σ vs).set j none
    by_cases hi : i ∈ vs
    · rw [wipe_set hi]
    · have e : i = j := (List.mem_cons.mp h).resolve_right hi
      subst e
      have key : ∀ (ws : List Nat), i ∉ ws → wipe (σ.set i v) ws = (wipe σ ws).set i v := by
        intro ws
        induction ws with
        | nil => intro _; rfl
        | cons w ws ih =>
          intro hw
          show (wipe (σ.set i v) ws).set w none = ((wipe σ ws).set w none).set i v
          rw [ih (fun z => hw (List.mem_cons_of_mem _ z)), set_none_comm _ _ _ _ (fun z => hw (by rw [z]; exact List.mem_cons_self))]
      rw [key vs hi, List.set_set]
theorem wipe_wipe (σ : L2.St) : ∀ vs ws : List Nat, (∀ i ∈ ws, i ∈ vs) → wipe (wipe σ ws) vs = wipe σ vs
  | vs, [], _ => rfl
  | vs, w :: ws, h => by
    show wipe ((wipe σ ws).set w none) vs = wipe σ vs
    rw [wipe_set (h w List.mem_cons_self), wipe_wipe σ vs ws fun i hi => h i (List.mem_cons_of_mem _ hi)]
def gN (i : Nat) : MG := fun t s h => .ok (s.set i (some t)) h
theorem sg_name {i : Nat} (hN : X.N.Nodup) (hi : X.N[i]? = some x := by rfl) (hx : Loc X.env.scope x := by first | exact Or.inl rfl | exact Or.inr rfl) (hf : X.fn x = true ∨ X.env.scope.names.lookup x = some .local := by first | exact .inl rfl | exact .inr rfl) : SG X (.Name x pos) [i] (gN i) := by
  refine weakG (pg_name hN hi hx hf) ?_
  rintro v σ H Q ⟨g, s, t, rfl, R, S, r, h⟩
  exact h g (σ.set i (some v)) rfl (Ext.refl g) R (S.set r i) fun vs hv => wipe_set (hv i List.mem_cons_self)
abbrev MGs := List T → SM → MH → GR
def tMGs (K : PySem.W.Frag) (mg : Str → Option Value) (tl : List Nat) (m : MGs) : TGs := fun vs σ H Q => ∃ g s ts, g.H = H ∧ Rel K mg g ∧ RepS K mg g s σ ∧ RepL K mg g ts vs ∧ wpG K mg tl g σ Q (m ts s g.h)
abbrev SGs (X : Cx) (tg : List Expr) (tl : List Nat) (m : MGs) : Prop := PGs X tg (tMGs X.K X.mg tl m)
theorem weakGs {X : Cx} {e : List Expr} {t t' : TGs} (h : PGs X e t) (k : ∀ v σ H Q, t' v σ H Q → t v σ H Q) : PGs X e t' := ⟨fun pins s σ H v u Q I r q => h.run pins s σ H v u Q I r (k v σ H Q q)⟩
def gsNil : MGs := fun ts s h => match ts with
  | [] => .ok s h
  | _ => .stuck
def gsCons (m : MG) (ms : MGs) : MGs := fun ts s h => match ts with
  | t :: r => match m t s h with
    | .ok s1 h1 => ms r s1 h1
    | .stuck => .stuck
  | [] => .stuck
theorem sgs_nil : SGs X [] [] gsNil := by
  refine weakGs pgs_nil ?_
  rintro vs σ H Q ⟨g, s, ts, rfl, R, S, r, h⟩
  unfold gsNil at h
  split at h
  · simp only [RepL] at r
    exact ⟨r, h g σ rfl (Ext.refl g) R S fun vs _ => rfl⟩
  · exact h.elim
theorem sgs_cons {m : MG} {ms : MGs} {tl tl2 : List Nat} (h1 : SG X e tl m) (h2 : SGs X es tl2 ms) (hs : (assignEach (e :: es) X.env).map (·.2) = assign e X.env :: (assignEach es X.env).map (·.2) := by rfl) : SGs X (e :: es) (tl ++ tl2) (gsCons m ms) := by
  refine weakGs (pgs_cons h1 h2 hs) ?_
  rintro vs σ H Q ⟨g, s, ts, rfl, R, S, r, h⟩
  unfold gsCons at h
  split at h
  · rename_i t r'
    simp only [RepL] at r
    obtain ⟨v, w, rfl, r1, r2⟩ := r
    refine ⟨v, w, rfl, g, s, t, rfl, R, S, r1, ?_⟩
    cases q : m t s g.h with
    | ok s1 h1 =>
      rw [q] at h
      dsimp only at h
      intro g1 σ1 q1 e1 R1 S1 w1
      refine ⟨g1, s1, r', rfl, R1, S1, r2.mono e1, ?_⟩
      rw [q1]
      cases q2 : ms r' s1 h1 with
      | ok s2 h2 =>
        rw [q2] at h
        exact fun g2 σ2 q3 e2 R2 S2 w2 => h g2 σ2 q3 (e1.trans e2) R2 S2 fun vs hv => (w2 vs fun i hi => hv i (List.mem_append_right _ hi)).trans (w1 vs fun i hi => hv i (List.mem_append_left _ hi))
      | stuck => rw [q2] at h; exact h.elim
    | stuck => rw [q] at h; exact h.elim
  · exact h.elim
def gT (n : Nat) (ms : MGs) : MG := fun t s h => match t with
  | .tup xs => if xs.length = n then ms xs s h else .stuck
  | _ => .stuck
theorem sg_tup {ms : MGs} {tl : List Nat} {k n : Nat} (hc : X.calm = true) (h : SGs X es tl ms) (hn : (assignEach es X.env).length = n := by rfl) (hst : (assignEach es X.env).findIdx? (·.1) = none := by rfl) : SG X (.Tuple es k pos) tl (gT n ms) := by
  refine weakG (pg_tup hc h hn hst) ?_
  rintro v σ H Q ⟨g, s, t, rfl, R, S, r, h⟩
  unfold gT at h
  split at h
  · rename_i xs
    split at h
    · rename_i q
      obtain ⟨p, vs, rfl, h1, l1⟩ := r.sqT
      exact ⟨p, vs, rfl, h1, by rw [← l1.length]; exact q, g, s, xs, rfl, R, S, l1, h⟩
    · exact h.elim
  · exact h.elim
/-! ### comprehensions -/
def wipeM (s : SM) : List Nat → SM
  | [] => s
  | v :: vs => (wipeM s vs).set v none
theorem RepS.wipe {s : SM} (S : RepS K mg g s σ) : ∀ vs : List Nat, RepS K mg g (wipeM s vs) (L2.wipe σ vs)
  | [] => S
  | v :: vs => by
    have S1 := RepS.wipe S vs
    refine ⟨by show ((wipeM s vs).set v none).length = ((L2.wipe σ vs).set v none).length; rw [List.length_set, List.length_set, S1.1], fun i t h => ?_⟩
    have h' : ((wipeM s vs).set v none)[i]? = some (some t) := h
    by_cases e : v = i
    · subst e
      rw [List.getElem?_set] at h'
      split at h'
      · split at h' <;> cases h'
      · rename_i q; exact absurd rfl q
    · rw [List.getElem?_set_ne e] at h'
      obtain ⟨w, h1, h2⟩ := S1.2 i t h'
      refine ⟨w, ?_, h2⟩
      show ((L2.wipe σ vs).set v none)[i]? = some (some w)
      rw [List.getElem?_set_ne e]; exact h1
def lcFrom (mgt : MG) (mt me : ME) (s0 : SM) : List T → List T → MH → R
  | [], acc, h => .ok (.lst acc) h
  | x :: xs, acc, h => match mgt x s0 h with
    | .ok s1 h1 => match mt s1 h1 with
      | .ok (.bl true) h2 => match me s1 h2 with
        | .ok y h3 => if acc.length < big then lcFrom mgt mt me s0 xs (acc ++ [y]) h3 else .stuck
        | _ => .stuck
      | .ok (.bl false) h2 => lcFrom mgt mt me s0 xs acc h2
      | _ => .stuck
    | .stuck => .stuck
def RL.bindR (r : RL) (f : List T → MH → R) : R := r.bind f
def mLc (mi : MI) (mgt : MG) (mt me : ME) (own : List Nat) : ME := fun s h => (mi s h).bind fun xs h1 => lcFrom mgt mt me (wipeM s own) xs [] h1
def W0 : WX := fun _ _ _ _ => False
/-- a state of a comprehension's walk -/
structure LcAt (K : PySem.W.Frag) (mg : Str → Option Value) (W : WX) (g1 : G) (Dl : Addr) (σ : L2.St) (Q : VK) (r : List T → List T → MH → R) (xs : List T) (i : Nat) (H : Hp) : Prop where
  ex : ∃ (gi : G) (acc : List T) (accV : List V), gi.H = H ∧ Rel K mg gi ∧ Sub g1 gi ∧ gi.pv = Dl :: g1.pv ∧ (∀ a ∈ g1.pv, gi.H a = g1.H a) ∧ gi.H Dl = some (.lst accV) ∧ RepL K mg gi acc accV ∧ i ≤ xs.length ∧ wpR K mg W g1 σ Q (r (xs.drop i) acc gi.h)
theorem blk_ne {g1 : G} {Dl : Addr} (R : Rel K mg g1) (hD : g1.H Dl = none) : ∀ a ∈ g1.pv, a ≠ Dl := fun a ha e => by
  obtain ⟨u, q⟩ := R.pvt a ha
  rw [e, hD] at q; cases q
/-- an object kept apart is written -/
theorem pv_put {Dl : Addr} {o : HO} (R : Rel K mg g) (hD : Dl ∈ g.pv) : Sub g { g with H := upd g.H Dl o } ∧ Rel K mg { g with H := upd g.H Dl o } := by
  have hs : Sub g { g with H := upd g.H Dl o } := ⟨fun _ _ h => h, fun a u h n => ⟨by
    show upd g.H Dl o a = some u
    rw [upd_ne (fun e => n (.inl (by rw [e]; exact hD)))]; exact h, n⟩⟩
  refine ⟨hs, R.len, R.inj, R.npv, fun a ha => ?_, fun i a ha => ?_, fun i a w h1 h2 => (R.obj i a w h1 h2).sub hs fun u hu => ?_⟩
  · by_cases e : a = Dl
    · subst e; exact ⟨o, upd_same⟩
    · obtain ⟨u, q⟩ := R.pvt a ha; exact ⟨u, by show upd g.H Dl o a = some u; rw [upd_ne e]; exact q⟩
  · obtain ⟨u, q⟩ := R.tr i a ha
    have e : a ≠ Dl := fun e => R.npv Dl hD (by rw [← e]; exact List.mem_of_getElem? ha)
    exact ⟨u, by show upd g.H Dl o a = some u; rw [upd_ne e]; exact q⟩
  · have e : a ≠ Dl := fun e => R.npv Dl hD (by rw [← e]; exact List.mem_of_getElem? h1)
    show upd g.H Dl o a = some u
    rw [upd_ne e]; exact hu
/-- a new object is kept apart -/
theorem pv_new {Dl : Addr} {o : HO} (R : Rel K mg g) (hD : g.H Dl = none) : Sub g ⟨g.rho, g.h, Dl :: g.pv, upd g.H Dl o⟩ ∧ Rel K mg ⟨g.rho, g.h, Dl :: g.pv, upd g.H Dl o⟩ := by
  have hs : Sub g ⟨g.rho, g.h, Dl :: g.pv, upd g.H Dl o⟩ := ⟨fun _ _ h => h, fun a u h n => ⟨by
    show upd g.H Dl o a = some u
    rw [upd_ne (ne_of_none h hD)]; exact h, fun z => by
      rcases z with z | z
      · rcases List.mem_cons.mp z with e | z
        · rw [e, hD] at h; cases h
        · exact n (.inl z)
      · exact n (.inr z)⟩⟩
  have hn : ∀ (i : Nat) a, g.rho[i]? = some a → a ≠ Dl := fun i a ha e => by
    obtain ⟨u, q⟩ := R.tr i a ha
    rw [e, hD] at q; cases q
  refine ⟨hs, R.len, R.inj, fun a ha hm => ?_, fun a ha => ?_, fun i a ha => ?_, fun i a w h1 h2 => (R.obj i a w h1 h2).sub hs fun u hu => ?_⟩
  · rcases List.mem_cons.mp (show a ∈ Dl :: g.pv from ha) with e | z
    · obtain ⟨i, hi⟩ := List.mem_iff_getElem?.mp (show a ∈ g.rho from hm)
      exact hn i a hi e
    · exact R.npv a z hm
  · rcases List.mem_cons.mp (show a ∈ Dl :: g.pv from ha) with e | z
    · subst e; exact ⟨o, upd_same⟩
    · obtain ⟨u, q⟩ := R.pvt a z
      exact ⟨u, by show upd g.H Dl o a = some u; rw [upd_ne (ne_of_none q hD)]; exact q⟩
  · obtain ⟨u, q⟩ := R.tr i a ha
    exact ⟨u, by show upd g.H Dl o a = some u; rw [upd_ne (hn i a ha)]; exact q⟩
  · show upd g.H Dl o a = some u
    rw [upd_ne (hn i a h1)]; exact hu
/-- what was kept apart becomes a value -/
theorem pv_out {Dl : Addr} {ps : List Addr} (R : Rel K mg g) (hp : g.pv = Dl :: ps) (hn : Dl ∉ ps) : Sub g { g with pv := ps } ∧ Rel K mg { g with pv := ps } ∧ ¬ G.hid { g with pv := ps } Dl := by
  have hs : Sub g { g with pv := ps } := ⟨fun _ _ h => h, fun a u h n => ⟨h, fun z => n (by
    rcases z with z | z
    · exact .inl (by rw [hp]; exact List.mem_cons_of_mem _ z)
    · exact .inr z)⟩⟩
  refine ⟨hs, ⟨R.len, R.inj, fun a ha => R.npv a (by rw [hp]; exact List.mem_cons_of_mem _ ha), fun a ha => R.pvt a (by rw [hp]; exact List.mem_cons_of_mem _ ha), R.tr, fun i a w h1 h2 => (R.obj i a w h1 h2).sub hs fun u hu => hu⟩, ?_⟩
  rintro (z | ⟨i, o, h1, _⟩)
  · exact hn z
  · exact R.npv Dl (by rw [hp]; exact List.mem_cons_self) (List.mem_of_getElem? h1)
theorem lc_run {mgt : MG} {tl vs : List Nat} {J : It} {xs : List T} {g1 : G} {s : SM} (R1 : Rel K mg g1) (S1 : RepS K mg g1 s σ) (it : ItOk K mg g1 xs J) (htl : ∀ i ∈ tl, i ∈ vs)
    (h : wpR K mg W g1 σ Q (lcFrom mgt mt me (wipeM s vs) xs [] g1.h)) (Dl : Addr) (hD : g1.H Dl = none) :
    ∃ Wd : Nat → Nat → Hp → Prop, (∃ m, Wd 0 m (upd g1.H Dl (.lst []))) ∧ ∀ i m H, Wd i m H →
      (J.stop i H ∧ Q (.ref Dl) H) ∨ (J.go i H ∧ ∃ Nx : Hp → Prop, (∀ H', Nx H' → ∃ m', m' < m ∧ Wd (i + 1) m' H') ∧ ∀ x H', J.yld i H x H' → tMG K mg tl mgt x (wipe σ vs) H' fun σ2 H2 => wipe σ2 vs = wipe σ vs ∧ tMT K mg W0 mt σ2 H2 fun b H3 =>
        if b = true then tM K mg W0 me σ2 H3 fun y H4 => ∃ acc, H4 Dl = some (.lst acc) ∧ acc.length < sizeLine ∧ Nx (upd H4 Dl (.lst (acc ++ [y]))) else Nx H3) := by
  have hpn : Dl ∉ g1.pv := fun z => blk_ne R1 hD Dl z rfl
  refine ⟨fun i m H => m = xs.length - i ∧ LcAt K mg W g1 Dl σ Q (lcFrom mgt mt me (wipeM s vs)) xs i H, ⟨xs.length, rfl, ?_⟩, fun i m H hW => ?_⟩
  · obtain ⟨s1, r1⟩ := pv_new (o := .lst []) R1 hD
    exact ⟨⟨_, [], [], rfl, r1, s1, rfl, fun a ha => by
      show upd g1.H Dl (.lst []) a = g1.H a
      rw [upd_ne (blk_ne R1 hD a ha)], upd_same, RepL.nil, Nat.zero_le _, by rw [List.drop_zero]; exact h⟩⟩
  · obtain ⟨rfl, ⟨gi, acc, accV, rfl, Ri, si, hpv, hpk, hDi, la, hi, hw⟩⟩ := hW
    by_cases hlt : i < xs.length
    · refine .inr ⟨it.go i gi si Ri hlt, fun H' => LcAt K mg W g1 Dl σ Q (lcFrom mgt mt me (wipeM s vs)) xs (i + 1) H', fun H' hn => ⟨xs.length - (i + 1), by omega, rfl, hn⟩, fun x H' hy => ?_⟩
      obtain ⟨g', rfl, eh, e1, R', t, ht, rt⟩ := it.yld i gi x H' si Ri hlt hy
      have edrop : xs.drop i = t :: xs.drop (i + 1) := by
        rw [List.drop_eq_getElem_cons hlt]
        have : xs[i] = t := by
          have := List.getElem?_eq_getElem hlt
          rw [ht] at this; exact (Option.some.inj this).symm
        rw [this]
      rw [edrop] at hw
      unfold lcFrom at hw
      have S' : RepS K mg g' (wipeM s vs) (wipe σ vs) := ((S1.sub si).mono e1).wipe vs
      refine ⟨g', wipeM s vs, t, rfl, R', S', rt, ?_⟩
      rw [eh]
      cases q : mgt t (wipeM s vs) gi.h with
      | stuck => rw [q] at hw; exact hw.elim
      | ok s2 h2 =>
        rw [q] at hw
        dsimp only at hw
        intro g2 σ2 q2 e2 R2 S2 w2
        refine ⟨(w2 vs htl).trans (wipe_wipe σ vs vs fun _ z => z), g2, s2, rfl, R2, S2, ?_⟩
        rw [q2]
        have chain : ∀ g3 : G, Ext g' g3 → Sub g1 g3 ∧ g3.pv = Dl :: g1.pv ∧ (∀ a ∈ g1.pv, g3.H a = g1.H a) ∧ g3.H Dl = some (.lst accV) ∧ RepL K mg g3 acc accV := fun g3 e3 => by
          have e := e1.trans e3
          refine ⟨⟨fun i a z => e.rho i a (si.rho i a z), fun a u z n => let ⟨z1, n1⟩ := si.keep a u z n; e.keep a u z1 n1⟩, e.pv.trans hpv, fun a ha => (e.pvk a (by rw [hpv]; exact List.mem_cons_of_mem _ ha)).trans (hpk a ha), (e.pvk Dl (by rw [hpv]; exact List.mem_cons_self)).trans hDi, la.mono e⟩
        cases q3 : mt s2 h2 with
        | stuck => rw [q3] at hw; exact hw.elim
        | ex x h3 => rw [q3] at hw; exact hw.elim
        | ok tb h3 =>
          cases tb with
          | bl bb =>
            rw [q3] at hw
            intro g3 q4 e3 R3
            cases bb with
            | false =>
              refine iteF ?_
              obtain ⟨c1, c2, c3, c4, c5⟩ := chain g3 (e2.trans e3)
              exact ⟨⟨g3, acc, accV, rfl, R3, c1, c2, c3, c4, c5, hlt, by rw [q4]; exact hw⟩⟩
            | true =>
              refine iteT ⟨g3, s2, rfl, R3, S2.mono e3, ?_⟩
              rw [q4]
              dsimp only at hw
              cases q5 : me s2 h3 with
              | stuck => rw [q5] at hw; exact hw.elim
              | ex x h4 => rw [q5] at hw; exact hw.elim
              | ok y h4 =>
                rw [q5] at hw
                dsimp only at hw
                intro g4 v q6 e4 R4 r4
                split at hw
                · rename_i hl
                  obtain ⟨c1, c2, c3, c4, c5⟩ := chain g4 ((e2.trans e3).trans e4)
                  refine ⟨accV, c4, big_lt (by rw [← la.length]; exact hl), ?_⟩
                  obtain ⟨s5, R5⟩ := pv_put (o := .lst (accV ++ [v])) R4 (by rw [c2]; exact List.mem_cons_self)
                  refine ⟨⟨_, acc ++ [y], accV ++ [v], rfl, R5, ⟨fun i a z => s5.rho i a (c1.rho i a z), fun a u z n => let ⟨z1, n1⟩ := c1.keep a u z n; s5.keep a u z1 n1⟩, c2, fun a ha => ?_, upd_same, (c5.sub s5).append (RepL.cons (Rep.sub s5 y v r4) RepL.nil), hlt, ?_⟩⟩
                  · show upd g4.H Dl _ a = g1.H a
                    rw [upd_ne (blk_ne R1 hD a ha)]; exact c3 a ha
                  · show wpR K mg W g1 σ Q (lcFrom mgt mt me (wipeM s vs) (xs.drop (i + 1)) (acc ++ [y]) g4.h)
                    rw [q6]; exact hw
                · exact hw.elim
          | _ => rw [q3] at hw; exact hw.elim
    · have e : i = xs.length := by omega
      subst e
      refine .inl ⟨it.stop _ gi si Ri (Nat.le_refl _), ?_⟩
      rw [List.drop_length] at hw
      unfold lcFrom at hw
      obtain ⟨s5, R5, n5⟩ := pv_out Ri hpv hpn
      refine hw { gi with pv := g1.pv } (.ref Dl) rfl ⟨si.rho, rfl, hpk, fun a u z n => let ⟨z1, n1⟩ := si.keep a u z n; s5.keep a u z1 n1⟩ R5 ?_
      simp only [Rep]
      exact ⟨Dl, accV, rfl, ⟨hDi, n5⟩, la.sub s5⟩
theorem wpI_lc {r : RL} {f : List T → MH → R} {Rr : It → Hp → Prop} (h : wpR K mg W g σ Q (r.bind f)) (k : ∀ g' xs J, Ext g g' → Rel K mg g' → ItOk K mg g' xs J → wpR K mg W g' σ Q (f xs g'.h) → Rr J g'.H) : wpI K mg W g σ Rr r := by
  cases r with
  | ok t h' => exact fun g' J q e R it => k g' t J e R it (by subst q; exact wpR.ext h e)
  | ex x h' => exact h
  | stuck => exact h
theorem use_lc {mi : MI} {mgt : MG} {tl vs : List Nat} (htl : ∀ i ∈ tl, i ∈ vs) {H : Hp} (h : tM K mg W (mLc mi mgt mt me vs) σ H Q) : tLc (tMI K mg W mi) (tMG K mg tl mgt) (tMT K mg W0 mt) (tM K mg W0 me) vs σ H Q := by
  obtain ⟨g, s, rfl, R, S, h⟩ := h
  exact ⟨g, s, rfl, R, S, wpI_lc h fun g1 xs J e1 R1 it h1 => fun Dl hD => lc_run R1 (S.mono e1) it htl h1 Dl hD⟩
def subN (a b : List Nat) : Bool := a.all fun i => b.contains i
theorem subN_ok {a b : List Nat} (h : subN a b = true) : ∀ i ∈ a, i ∈ b := fun i hi => by
  have := List.all_eq_true.mp h i hi
  simpa using this
theorem se_lc {elt tg iter : Expr} {ifs : List Expr} {scope : Scope} {own : List (Str × Nat)} {mi : MI} {mgt : MG} {tl : List Nat} (hc : X.calm = true) (hN : X.N.Nodup) (hi : SI X W tg iter mi) (ok : BlkOk X.N X.env.scope scope own) (htl : subN tl (own.map (·.2)) = true)
    (hg : ∀ (s : Shared) (H : Hp) (C : Addr) (cl : List (Str × Addr)) (fp : List Addr), SG (X.blk s H scope (compEnvC scope cl C X.env) fp) tg tl mgt)
    (ht : ∀ (s : Shared) (H : Hp) (C : Addr) (cl : List (Str × Addr)) (fp : List Addr), PTs (X.blk s H scope (compEnvC scope cl C X.env) fp) ifs (tMT X.K X.mg W0 mt))
    (he : ∀ (s : Shared) (H : Hp) (C : Addr) (cl : List (Str × Addr)) (fp : List Addr), SE (X.blk s H scope (compEnvC scope cl C X.env) fp) W0 elt me) (hs : ∀ x, foldedSetIterable iter X.env x = pure x := by intro _; rfl) :
    SE X W (.ListComp elt [⟨tg, iter, ifs, 0⟩] scope pos) (mLc mi mgt mt me (own.map (·.2))) :=
  weakE (pe_lc hc hN hi ok hg ht he hs) fun _ _ _ h => use_lc (subN_ok htl) h
theorem weakTs {X : Cx} {ifs : List Expr} {t t' : TT} (h : PTs X ifs t) (k : ∀ σ H Q, t' σ H Q → t σ H Q) : PTs X ifs t' := ⟨fun pins s σ H Q I q => h.run pins s σ H Q I (k σ H Q q)⟩
theorem sts_nil : PTs X [] (tMT X.K X.mg W (mC (.bl true))) := by
  refine weakTs pts_nil ?_
  rintro σ H Q ⟨g, s, rfl, R, S, h⟩
  exact wpT_here h R
theorem sts_one (h : ST X W c mc) : PTs X [c] (tMT X.K X.mg W mc) := pts_one h
end
end Mi
end part_Mi5
section part_Mi6
set_option maxRecDepth 100000
set_option maxHeartbeats 2000000
/-! Mi, part 6: statements, defs, calls. -/
namespace Mi
open PySem PySem.Spec PyProof.Rows L2
section
variable {X : Cx} {K : PySem.W.Frag} {mg : Str → Option Value} {W : WX} {g g' : G} {σ : L2.St} {Q : VK} {D : Ends}
variable {a b c e : Expr} {ma mb mc me mt : ME} {mr : MA} {pos p : Pos} {es : List Expr} {x : Str} {st : Stmt} {rest : List Stmt} {m m' : MS}
abbrev SS (X : Cx) (W : WX) (st : Stmt) (m : MS) : Prop := PS X st (tSM X.K X.mg W m)
abbrev SSs (X : Cx) (W : WX) (sts : List Stmt) (m : MS) : Prop := PSs X sts (tSM X.K X.mg W m)
/-- an expression's outcome within a statement -/
def R.toS (r : R) (s : SM) (f : T → MH → SR) : SR := match r with
  | .ok t h => f t h
  | .ex x h => .ex x s h
  | .stuck => .stuck
theorem wpS_bind {r : R} {s : SM} {f : T → MH → SR} {Q' : VK} (S : RepS K mg g s σ) (h : wpS K mg W g D (r.toS s f)) (k : ∀ g' t v, Ext g g' → Rel K mg g' → Rep K mg g' t v → wpS K mg W g' D (f t g'.h) → Q' v g'.H) : wpR K mg W g σ Q' r := by
  cases r with
  | ok t h' => exact fun g' v q e R r => k g' t v e R r (by subst q; exact wpS.ext h e)
  | ex x h' => exact fun g' cls d q e R r => h g' σ cls d q e R (S.mono e) r
  | stuck => exact h
theorem wpS_bindT {r : R} {s : SM} {f : T → MH → SR} {Q' : Bool → Hp → Prop} (S : RepS K mg g s σ) (h : wpS K mg W g D (r.toS s f)) (hb : ∀ t h, (∀ b, t ≠ .bl b) → f t h = .stuck) (k : ∀ g' b, Ext g g' → Rel K mg g' → wpS K mg W g' D (f (.bl b) g'.h) → Q' b g'.H) : wpT K mg W g σ Q' r := by
  cases r with
  | ok t h' =>
    by_cases hx : ∃ b, t = .bl b
    · obtain ⟨b, rfl⟩ := hx
      exact fun g' q e R => k g' b e R (by subst q; exact wpS.ext h e)
    · have z := hb t h' (fun b e => hx ⟨b, e⟩)
      have h2 : wpS K mg W g D (f t h') := h
      rw [z] at h2
      exact h2.elim
  | ex x h' => exact fun g' cls d q e R r => h g' σ cls d q e R (S.mono e) r
  | stuck => exact h
def mNx : MS := fun s h => .nx s h
theorem sss_nil : SSs X W [] mNx := by
  refine weakSs pss_nil ?_
  rintro D σ H ⟨g, s, rfl, R, S, h⟩
  exact h g σ rfl (Ext.refl g) R S
def mSq (m m' : MS) : MS := fun s h => match m s h with
  | .nx s1 h1 => m' s1 h1
  | r => r
theorem sss_cons (h1 : SS X W st m) (h2 : SSs X W rest m') : SSs X W (st :: rest) (mSq m m') := by
  refine weakSs (pss_cons h1 h2) ?_
  rintro D σ H ⟨g, s, rfl, R, S, h⟩
  refine ⟨g, s, rfl, R, S, ?_⟩
  unfold mSq at h
  cases q : m s g.h with
  | nx s1 h1 =>
    rw [q] at h
    intro g1 σ1 q1 e1 R1 S1
    exact ⟨g1, s1, rfl, R1, S1, by rw [q1]; exact wpS.ext h e1⟩
  | rt t h1 => rw [q] at h; exact h
  | bk s1 h1 => rw [q] at h; exact h
  | ct s1 h1 => rw [q] at h; exact h
  | ex x s1 h1 => rw [q] at h; exact h
  | stuck => rw [q] at h; exact h.elim
theorem sss_one (h1 : SS X W st m) : SSs X W [st] m := pss_one h1
def mPass : MS := mNx
theorem ss_pass : SS X W (.Pass pos) mNx := by
  refine weakS ps_pass ?_
  rintro D σ H ⟨g, s, rfl, R, S, h⟩
  exact h g σ rfl (Ext.refl g) R S
def mBk : MS := fun s h => .bk s h
def mCt : MS := fun s h => .ct s h
theorem ss_break : SS X W (.Break pos) mBk := by
  refine weakS ps_break ?_
  rintro D σ H ⟨g, s, rfl, R, S, h⟩
  exact h g σ rfl (Ext.refl g) R S
theorem ss_continue : SS X W (.Continue pos) mCt := by
  refine weakS ps_continue ?_
  rintro D σ H ⟨g, s, rfl, R, S, h⟩
  exact h g σ rfl (Ext.refl g) R S
/-- a statement that is never reached -/
def mNever : MS := fun _ _ => .stuck
theorem ss_never : SS X W st mNever := by
  refine weakS ps_never ?_
  rintro D σ H ⟨g, s, rfl, R, S, h⟩
  exact h.elim
theorem sss_never {sts : List Stmt} : SSs X W sts mNever := by
  refine weakSs pss_never ?_
  rintro D σ H ⟨g, s, rfl, R, S, h⟩
  exact h.elim
def mEx (me : ME) : MS := fun s h => (me s h).toS s fun _ h1 => .nx s h1
theorem ss_expr (he : SE X W e me) (hs : swapsWith e none pos.line X.env = pure false := by rfl) : SS X W (.Expr e pos) (mEx me) := by
  refine weakS (ps_expr he hs) ?_
  rintro D σ H ⟨g, s, rfl, R, S, h⟩
  exact ⟨g, s, rfl, R, S, wpS_bind S h fun g1 t v e1 R1 r1 h1 => h1 g1 σ rfl (Ext.refl _) R1 (S.mono e1)⟩
def mRet (me : ME) : MS := fun s h => (me s h).toS s fun t h1 => .rt t h1
theorem ss_ret (he : SE X W e me) : SS X W (.Return (some e) pos) (mRet me) := by
  refine weakS (ps_ret he) ?_
  rintro D σ H ⟨g, s, rfl, R, S, h⟩
  exact ⟨g, s, rfl, R, S, wpS_bind S h fun g1 t v e1 R1 r1 h1 => h1 g1 v rfl (Ext.refl _) R1 r1⟩
def mRetN : MS := fun s h => .rt .non h
theorem ss_retN : SS X W (.Return none pos) mRetN := by
  refine weakS ps_retN ?_
  rintro D σ H ⟨g, s, rfl, R, S, h⟩
  exact h g .non rfl (Ext.refl _) R rNon
def fIfS (m m' : MS) (s : SM) : T → MH → SR := fun t h => match t with
  | .bl true => m s h
  | .bl false => m' s h
  | _ => .stuck
def mIfS (mc : ME) (m m' : MS) : MS := fun s h => (mc s h).toS s (fIfS m m' s)
theorem ss_if {A B : List Stmt} (hc : ST X W c mc) (ha : SSs X W A m) (hb : SSs X W B m') : SS X W (.If c A B pos) (mIfS mc m m') := by
  refine weakS (ps_if hc ha hb) ?_
  rintro D σ H ⟨g, s, rfl, R, S, h⟩
  refine ⟨g, s, rfl, R, S, wpS_bindT S h (fun t h k => by cases t <;> first | exact absurd rfl (k _) | rfl) fun g1 b e1 R1 h1 => ?_⟩
  cases b with
  | true => exact iteT ⟨g1, s, rfl, R1, S.mono e1, h1⟩
  | false => exact iteF ⟨g1, s, rfl, R1, S.mono e1, h1⟩
/-! ### assignment -/
def mSet (i : Nat) (me : ME) : MS := fun s h => (me s h).toS s fun t h1 => .nx (s.set i (some t)) h1
theorem use_set {i : Nat} {H : Hp} (h : tSM K mg W (mSet i me) D σ H) : tAsg (tM K mg W me) (gName i) D σ H := by
  obtain ⟨g, s, rfl, R, S, h⟩ := h
  exact ⟨g, s, rfl, R, S, wpS_bind S h fun g1 t v e1 R1 r1 h1 => h1 g1 _ rfl (Ext.refl _) R1 ((S.mono e1).set r1 i)⟩
theorem ss_set {i : Nat} {pos' : Pos} (hN : X.N.Nodup) (he : SE X W e me) (hi : X.N[i]? = some x := by rfl) (hx : Loc X.env.scope x := by first | exact Or.inl rfl | exact Or.inr rfl) (hs : swapsWith e (some (.Name x pos')) pos.line X.env = pure false := by rfl) (hf : X.fn x = true ∨ X.env.scope.names.lookup x = some .local := by first | exact .inl rfl | exact .inr rfl) :
    SS X W (.Assign [.Name x pos'] e pos) (mSet i me) := weakS (ps_set hN hi hx he hs hf) fun _ _ _ h => use_set h
theorem ss_setLc {i : Nat} {py : Pos} {tg iter : Expr} {ifs : List Expr} {scope : Scope} {own : List (Str × Nat)} {mi : MI} {mgt : MG} {tl : List Nat} (hc : X.calm = true) (hN : X.N.Nodup) (hi : SI X W tg iter mi) (ok : BlkOk X.N X.env.scope scope own) (htl : subN tl (own.map (·.2)) = true)
    (hg : ∀ (s : Shared) (H : Hp) (C : Addr) (cl : List (Str × Addr)) (fp : List Addr), SG (X.blk s H scope (compEnvC scope cl C X.env) fp) tg tl mgt)
    (ht : ∀ (s : Shared) (H : Hp) (C : Addr) (cl : List (Str × Addr)) (fp : List Addr), PTs (X.blk s H scope (compEnvC scope cl C X.env) fp) ifs (tMT X.K X.mg W0 mt))
    (he : ∀ (s : Shared) (H : Hp) (C : Addr) (cl : List (Str × Addr)) (fp : List Addr), SE (X.blk s H scope (compEnvC scope cl C X.env) fp) W0 e me)
    (hsw : swapsWith (.ListComp e [⟨tg, iter, ifs, 0⟩] scope p) (some (.Name x py)) pos.line X.env = pure true) (hy : X.N[i]? = some x := by rfl) (hyl : X.env.scope.names.lookup x = some .local := by rfl) (hs : ∀ x, foldedSetIterable iter X.env x = pure x := by intro _; rfl) :
    SS X W (.Assign [.Name x py] (.ListComp e [⟨tg, iter, ifs, 0⟩] scope p) pos) (mSet i (mLc mi mgt mt me (own.map (·.2)))) :=
  weakS (ps_setLc hc hN hy hyl hsw hi ok hg ht he hs) fun D σ H h => use_set (me := mLc mi mgt mt me (own.map (·.2))) h |> fun z => by
    obtain ⟨g, s, rfl, R, S, h⟩ := h
    exact use_lc (W := W) (subN_ok htl) ⟨g, s, rfl, R, S, wpS_bind S h fun g1 t v e1 R1 r1 h1 => h1 g1 _ rfl (Ext.refl _) R1 ((S.mono e1).set r1 i)⟩
/-- a, b = x, y with plain local names -/
def mPar (i j : Nat) (mr : MA) : MS := fun s h => match mr s h with
  | .ok [t, u] h1 => .nx ((s.set i (some t)).set j (some u)) h1
  | .ok _ _ => .stuck
  | .ex x h1 => .ex x s h1
  | .stuck => .stuck
theorem ss_par {i j : Nat} {y : Str} {px py pt : Pos} {kt k2 : Nat} {pt2 : Pos} (hc : X.calm = true) (hN : X.N.Nodup) (ha : SA X W [a, b] mr)
    (hw : swappedStores [.Tuple [.Name x px, .Name y py] kt pt] (.Tuple [a, b] k2 pt2) X.env = pure (some [x, y]) := by rfl) (hi : X.N[i]? = some x := by rfl) (hj : X.N[j]? = some y := by rfl) (hij : i ≠ j := by decide)
    (hx : X.env.scope.names.lookup x = some .local := by rfl) (hy : X.env.scope.names.lookup y = some .local := by rfl) (hs : swapsWithSole [.Tuple [.Name x px, .Name y py] kt pt] (.Tuple [a, b] k2 pt2) pos.line X.env = pure false := by rfl) :
    SS X W (.Assign [.Tuple [.Name x px, .Name y py] kt pt] (.Tuple [a, b] k2 pt2) pos) (mPar i j mr) := by
  refine weakS (ps_par hc hN hi hj hij hx hy ha hw hs) ?_
  rintro D σ H ⟨g, s, rfl, R, S, h⟩
  refine ⟨g, s, rfl, R, S, ?_⟩
  unfold mPar at h
  cases q : mr s g.h with
  | ok ts h1 =>
    rw [q] at h
    match ts, h with
    | [t, u], h =>
      intro g1 vs q1 e1 R1 r1
      simp only [RepL] at r1
      obtain ⟨v, w, rfl, rv, v2, w2, rfl, rv2, rfl⟩ := r1
      exact ⟨v, v2, rfl, h g1 _ q1 e1 R1 (((S.mono e1).set rv i).set rv2 j)⟩
    | [], h => exact h.elim
    | [_], h => exact h.elim
    | _ :: _ :: _ :: _, h => exact h.elim
  | ex x h1 =>
    rw [q] at h
    exact fun g1 cls d q e R r => h g1 σ cls d q e R (S.mono e) r
  | stuck => rw [q] at h; exact h.elim
/-- target = value -/
def mAs (me : ME) (mgt : MG) : MS := fun s h => (me s h).toS s fun t h1 => match mgt t s h1 with
  | .ok s1 h2 => .nx s1 h2
  | .stuck => .stuck
theorem ss_asg {tg : Expr} {tl : List Nat} {mgt : MG} (he : SE X W e me) (hg : SG X tg tl mgt) (hs : swapsWithSole [tg] e pos.line X.env = pure false := by rfl) (hw : swappedStores [tg] e X.env = pure none := by rfl)
    (h1 : (assignEach [tg] X.env).map (·.2) = [assign tg X.env] := by rfl) : SS X W (.Assign [tg] e pos) (mAs me mgt) := by
  refine weakS (ps_asg he hg hs hw h1) ?_
  rintro D σ H ⟨g, s, rfl, R, S, h⟩
  refine ⟨g, s, rfl, R, S, wpS_bind S h fun g1 t v e1 R1 r1 h1 => ⟨g1, s, t, rfl, R1, S.mono e1, r1, ?_⟩⟩
  cases q : mgt t s g1.h with
  | ok s1 h2 =>
    rw [q] at h1
    exact fun g2 σ2 q2 e2 R2 S2 _ => h1 g2 σ2 q2 e2 R2 S2
  | stuck => rw [q] at h1; exact h1.elim
/-- name op= e -/
def mAug (i : Nat) (f : T → T → MH → R) (me : ME) : MS := fun s h => match s[i]? with
  | some (some t) => (me s h).toS s fun u h1 => (f t u h1).toS s fun z h2 => .nx (s.set i (some z)) h2
  | _ => .stuck
theorem ss_aug {i : Nat} {op : Operator} {pos' : Pos} {f : T → T → MH → R} {r : R2} (hN : X.N.Nodup) (ho : OpR X (inplaceOp op) r) (hm : OpM X f r) (he : SE X W e me) (hi : X.N[i]? = some x := by rfl) (hx : Loc X.env.scope x := by first | exact Or.inl rfl | exact Or.inr rfl) (hf : X.fn x = true ∨ X.env.scope.names.lookup x = some .local := by first | exact .inl rfl | exact .inr rfl) :
    SS X W (.AugAssign (.Name x pos') op e pos) (mAug i f me) := by
  refine weakS (ps_aug hN hi hx he (ti := r) (fun pins s σ H x y v u Q I rx ry h => ho pins s σ H x y v u Q I rx ry h) hf) ?_
  rintro D σ H ⟨g, s, rfl, R, S, h⟩
  unfold mAug at h
  split at h
  · rename_i t q
    obtain ⟨v, hv, rv⟩ := S.2 i t q
    refine ⟨v, hv, g, s, rfl, R, S, wpS_bind S h fun g1 u w e1 R1 r1 h1 => ?_⟩
    refine hm W g1 σ t u v w _ R1 (rv.mono e1) r1 (wpS_bind (S.mono e1) h1 fun g2 z y e2 R2 r2 h2 => ?_)
    exact h2 g2 _ rfl (Ext.refl _) R2 (((S.mono e1).mono e2).set r2 i)
  · exact h.elim
/-! ### for -/
def forFrom (mgt : MG) (mb : MS) : List T → SM → MH → SR
  | [], s, h => .nx s h
  | x :: xs, s, h => match mgt x s h with
    | .ok s1 h1 => match mb s1 h1 with
      | .nx s2 h2 => forFrom mgt mb xs s2 h2
      | .ct s2 h2 => forFrom mgt mb xs s2 h2
      | .bk s2 h2 => .nx s2 h2
      | r => r
    | .stuck => .stuck
def mFor (mi : MI) (mgt : MG) (mb : MS) : MS := fun s h => match mi s h with
  | .ok xs h1 => forFrom mgt mb xs s h1
  | .ex x h1 => .ex x s h1
  | .stuck => .stuck
structure FoAt (K : PySem.W.Frag) (mg : Str → Option Value) (W : WX) (g1 : G) (D : Ends) (r : List T → SM → MH → SR) (xs : List T) (i : Nat) (σ : L2.St) (H : Hp) : Prop where
  ex : ∃ (gi : G) (s : SM), gi.H = H ∧ Rel K mg gi ∧ Ext g1 gi ∧ RepS K mg gi s σ ∧ i ≤ xs.length ∧ wpS K mg W gi D (r (xs.drop i) s gi.h)
theorem for_run {mgt : MG} {mb : MS} {tl : List Nat} {J : It} {xs : List T} {g1 : G} {s : SM} (R1 : Rel K mg g1) (S1 : RepS K mg g1 s σ) (it : ItOk K mg g1 xs J) (h : wpS K mg W g1 D (forFrom mgt mb xs s g1.h)) :
    ∃ Wd : Nat → Nat → L2.St → Hp → Prop, (∃ m, Wd 0 m σ g1.H) ∧ ∀ i m σ H, Wd i m σ H →
      (J.stop i H ∧ D.nx σ H) ∨ (J.go i H ∧ ∃ N : L2.St → Hp → Prop, (∀ σ' H', N σ' H' → ∃ m', m' < m ∧ Wd (i + 1) m' σ' H') ∧ ∀ x H', J.yld i H x H' → tMG K mg tl mgt x σ H' fun σ2 H2 => tSM K mg W mb { D with nx := N, ct := N, bk := D.nx } σ2 H2) := by
  refine ⟨fun i m σ H => m = xs.length - i ∧ FoAt K mg W g1 D (forFrom mgt mb) xs i σ H, ⟨xs.length, rfl, ⟨g1, s, rfl, R1, Ext.refl _, S1, Nat.zero_le _, by rw [List.drop_zero]; exact h⟩⟩, fun i m σ H hW => ?_⟩
  obtain ⟨rfl, ⟨gi, s, rfl, Ri, ei, Si, hi, hw⟩⟩ := hW
  by_cases hlt : i < xs.length
  · refine .inr ⟨it.go i gi ei.sub Ri hlt, fun σ' H' => FoAt K mg W g1 D (forFrom mgt mb) xs (i + 1) σ' H', fun σ' H' hn => ⟨xs.length - (i + 1), by omega, rfl, hn⟩, fun x H' hy => ?_⟩
    obtain ⟨g', rfl, eh, e1, R', t, ht, rt⟩ := it.yld i gi x H' ei.sub Ri hlt hy
    have edrop : xs.drop i = t :: xs.drop (i + 1) := by
      rw [List.drop_eq_getElem_cons hlt]
      have : xs[i] = t := by
        have := List.getElem?_eq_getElem hlt
        rw [ht] at this; exact (Option.some.inj this).symm
      rw [this]
    rw [edrop] at hw
    unfold forFrom at hw
    refine ⟨g', s, t, rfl, R', Si.mono e1, rt, ?_⟩
    rw [eh]
    cases q : mgt t s gi.h with
    | stuck => rw [q] at hw; exact hw.elim
    | ok s2 h2 =>
      rw [q] at hw
      dsimp only at hw
      intro g2 σ2 q2 e2 R2 S2 _
      refine ⟨g2, s2, rfl, R2, S2, ?_⟩
      rw [q2]
      cases q3 : mb s2 h2 with
      | nx s3 h3 =>
        rw [q3] at hw
        exact fun g3 σ3 q4 e3 R3 S3 => ⟨g3, s3, rfl, R3, ((ei.trans e1).trans e2).trans e3, S3, hlt, by rw [q4]; exact wpS.ext hw ((e1.trans e2).trans e3)⟩
      | ct s3 h3 =>
        rw [q3] at hw
        exact fun g3 σ3 q4 e3 R3 S3 => ⟨g3, s3, rfl, R3, ((ei.trans e1).trans e2).trans e3, S3, hlt, by rw [q4]; exact wpS.ext hw ((e1.trans e2).trans e3)⟩
      | bk s3 h3 =>
        rw [q3] at hw
        exact fun g3 σ3 q4 e3 R3 S3 => hw g3 σ3 q4 ((e1.trans e2).trans e3) R3 S3
      | rt t3 h3 =>
        rw [q3] at hw
        exact fun g3 v q4 e3 R3 r3 => hw g3 v q4 ((e1.trans e2).trans e3) R3 r3
      | ex x3 s3 h3 =>
        rw [q3] at hw
        exact fun g3 σ3 cls d q4 e3 R3 S3 r3 => hw g3 σ3 cls d q4 ((e1.trans e2).trans e3) R3 S3 r3
      | stuck => rw [q3] at hw; exact hw.elim
  · have e : i = xs.length := by omega
    subst e
    refine .inl ⟨it.stop _ gi ei.sub Ri (Nat.le_refl _), ?_⟩
    rw [List.drop_length] at hw
    exact hw gi σ rfl (Ext.refl _) Ri Si
theorem ss_for {tg iter : Expr} {body : List Stmt} {mi : MI} {mgt : MG} {tl : List Nat} {mb : MS} (hp : PassesOwn (model X.prog X.w) X.A X.env X.xe) (hc : X.calm = true) (hi : SI X W tg iter mi) (hg : SG X tg tl mgt) (hb : SSs X W body mb)
    (hs : ∀ x, foldedSetIterable iter X.env x = pure x := by intro _; rfl) : SS X W (.For tg iter body [] pos) (mFor mi mgt mb) := by
  refine weakS (ps_for hp hc hi hg hb hs) ?_
  rintro D σ H ⟨g, s, rfl, R, S, h⟩
  refine ⟨g, s, rfl, R, S, ?_⟩
  unfold mFor at h
  cases q : mi s g.h with
  | ok xs h1 =>
    rw [q] at h
    exact fun g1 J q1 e1 R1 it => for_run R1 (S.mono e1) it (by rw [q1]; exact wpS.ext h e1)
  | ex x h1 =>
    rw [q] at h
    exact fun g1 cls d q1 e1 R1 r1 => h g1 σ cls d q1 e1 R1 (S.mono e1) r1
  | stuck => rw [q] at h; exact h.elim
/-! ### while: by fuel -/
def whFrom (mc : ME) (mb : MS) : Nat → SM → MH → SR
  | 0, _, _ => .stuck
  | n + 1, s, h => (mc s h).toS s fun t h1 => match t with
    | .bl true => match mb s h1 with
      | .nx s2 h2 => whFrom mc mb n s2 h2
      | .ct s2 h2 => whFrom mc mb n s2 h2
      | .bk s2 h2 => .nx s2 h2
      | r => r
    | .bl false => .nx s h1
    | _ => .stuck
def mWh (n : Nat) (mc : ME) (mb : MS) : MS := fun s h => whFrom mc mb n s h
theorem ss_while {body : List Stmt} {mb : MS} {n : Nat} (hp : PassesOwn (model X.prog X.w) X.A X.env X.xe) (hc : ST X W c mc) (hb : SSs X W body mb) : SS X W (.While c body [] pos) (mWh n mc mb) := by
  refine weakS (ps_while hp hc hb) ?_
  rintro D σ H ⟨g0, s0, rfl, R0, S0, h0⟩
  refine ⟨fun m σ H => ∃ (g : G) (s : SM), g.H = H ∧ Rel X.K X.mg g ∧ RepS X.K X.mg g s σ ∧ wpS X.K X.mg W g D (whFrom mc mb m s g.h), ⟨n, g0, s0, rfl, R0, S0, h0⟩, fun m σ H hW => ?_⟩
  obtain ⟨g, s, rfl, R, S, h⟩ := hW
  cases m with
  | zero => exact h.elim
  | succ m =>
    unfold whFrom at h
    refine ⟨g, s, rfl, R, S, wpS_bindT S h (fun t h k => by cases t <;> first | exact absurd rfl (k _) | rfl) fun g1 b e1 R1 h1 => ?_⟩
    cases b with
    | false => exact iteF (h1 g1 σ rfl (Ext.refl _) R1 (S.mono e1))
    | true =>
      refine iteT ⟨fun σ' H' => ∃ (g : G) (s : SM), g.H = H' ∧ Rel X.K X.mg g ∧ RepS X.K X.mg g s σ' ∧ wpS X.K X.mg W g D (whFrom mc mb m s g.h), fun σ' H' hn => ⟨m, Nat.lt_succ_self _, hn⟩, g1, s, rfl, R1, S.mono e1, ?_⟩
      dsimp only at h1
      cases q3 : mb s g1.h with
      | nx s3 h3 =>
        rw [q3] at h1
        exact fun g3 σ3 q4 e3 R3 S3 => ⟨g3, s3, rfl, R3, S3, by rw [q4]; exact wpS.ext h1 e3⟩
      | ct s3 h3 =>
        rw [q3] at h1
        exact fun g3 σ3 q4 e3 R3 S3 => ⟨g3, s3, rfl, R3, S3, by rw [q4]; exact wpS.ext h1 e3⟩
      | bk s3 h3 => rw [q3] at h1; exact h1
      | rt t3 h3 => rw [q3] at h1; exact h1
      | ex x3 s3 h3 => rw [q3] at h1; exact h1
      | stuck => rw [q3] at h1; exact h1.elim
end
end Mi
end part_Mi6
section part_Mi7
set_option maxRecDepth 100000
set_option maxHeartbeats 2000000
/-! Mi, part 7: defs and calls. -/
namespace Mi
open PySem PySem.Spec PyProof.Rows L2
mutual
def closed : T → Bool
  | .non => true
  | .bl _ => true
  | .int _ => true
  | .str _ => true
  | .tup xs => closedL xs
  | .lst xs => closedL xs
  | .frl xs => closedL xs
  | .dct _ vs => closedL vs
  | .obj _ _ vs => closedL vs
  | .ref _ => false
def closedL : List T → Bool
  | [] => true
  | t :: ts => closed t && closedL ts
end
theorem closedL_mem : ∀ {ts : List T}, closedL ts = true → ∀ t ∈ ts, closed t = true
  | [], _, t, h => by cases h
  | u :: ts, h, t, ht => by
    simp only [closedL, Bool.and_eq_true] at h
    rcases List.mem_cons.mp ht with e | e
    · rw [e]; exact h.1
    · exact closedL_mem h.2 t e
section
variable {X : Cx} {K : PySem.W.Frag} {mg : Str → Option Value} {W : WX} {g g' : G} {σ : L2.St} {Q : VK} {D : Ends}
variable {a b c e : Expr} {ma mb mc me mt : ME} {mr : MA} {pos p : Pos} {es : List Expr} {x : Str}
theorem RepL.monoC {P : T → Prop} : ∀ {ts : List T} {vs : List V}, (∀ t ∈ ts, P t) → (∀ t ∈ ts, P t → ∀ v, Rep K mg g t v → Rep K mg g' t v) → RepL K mg g ts vs → RepL K mg g' ts vs
  | [], vs, _, _, h => by simpa only [RepL] using h
  | t :: ts, vs, hp, f, h => by
    simp only [RepL] at h ⊢
    obtain ⟨v, r, e, h1, h2⟩ := h
    exact ⟨v, r, e, f t List.mem_cons_self (hp t List.mem_cons_self) v h1, RepL.monoC (fun t ht => hp t (List.mem_cons_of_mem _ ht)) (fun t ht => f t (List.mem_cons_of_mem _ ht)) h2⟩
/-- a closed tree's representation leans on no changeable object's number -/
theorem Rep.subC (k : ∀ a o, g.H a = some o → ¬ g.hid a → g'.H a = some o ∧ ¬ g'.hid a) : ∀ t, closed t = true → ∀ v, Rep K mg g t v → Rep K mg g' t v := by
  intro t
  induction t using T.ind with
  | non => intro _ v h; simpa only [Rep] using h
  | bl b => intro _ v h; simpa only [Rep] using h
  | int i => intro _ v h; simpa only [Rep] using h
  | str s => intro _ v h; simpa only [Rep] using h
  | tup xs ih =>
    intro c v h; simp only [Rep] at h ⊢; simp only [closed] at c
    obtain ⟨p, vs, e1, h1, h2⟩ := h
    refine ⟨p, vs, e1, ?_, RepL.monoC (closedL_mem c) ih h2⟩
    rcases h1 with ⟨h1, n⟩ | h1
    · rcases h1 with h1 | ⟨o, h1⟩
      · exact .inl ⟨.inl (k _ _ h1 n).1, (k _ _ h1 n).2⟩
      · exact .inl ⟨.inr ⟨o, (k _ _ h1 n).1⟩, (k _ _ h1 n).2⟩
    · exact .inr h1
  | lst xs ih =>
    intro c v h; simp only [Rep] at h ⊢; simp only [closed] at c
    obtain ⟨p, vs, e1, ⟨h1, n⟩, h2⟩ := h
    exact ⟨p, vs, e1, k _ _ h1 n, RepL.monoC (closedL_mem c) ih h2⟩
  | frl xs ih =>
    intro c v h; simp only [Rep] at h ⊢; simp only [closed] at c
    obtain ⟨p, vs, e1, h1, h2⟩ := h
    refine ⟨p, vs, e1, ?_, RepL.monoC (closedL_mem c) ih h2⟩
    rcases h1 with ⟨⟨o, h1⟩, n⟩ | h1
    · exact .inl ⟨⟨o, (k _ _ h1 n).1⟩, (k _ _ h1 n).2⟩
    · exact .inr h1
  | dct ks vs ih1 ih2 =>
    intro c v h; simp only [Rep] at h ⊢; simp only [closed] at c
    obtain ⟨p, kvs, e1, ⟨h1, n⟩, e2, h2⟩ := h
    exact ⟨p, kvs, e1, k _ _ h1 n, e2, RepL.monoC (closedL_mem c) ih2 h2⟩
  | obj cc ns vs ih =>
    intro c v h; simp only [Rep] at h ⊢; simp only [closed] at c
    obtain ⟨p, C, dx, fs, e1, ⟨h1, n⟩, e2, e3, h2⟩ := h
    exact ⟨p, C, dx, fs, e1, k _ _ h1 n, e2, e3, RepL.monoC (closedL_mem c) ih h2⟩
  | ref i => intro c; simp only [closed] at c; cases c
theorem RepL.subC (k : ∀ a o, g.H a = some o → ¬ g.hid a → g'.H a = some o ∧ ¬ g'.hid a) {ts : List T} {vs : List V} (c : closedL ts = true) (h : RepL K mg g ts vs) : RepL K mg g' ts vs :=
  RepL.monoC (closedL_mem c) (fun t _ c v => Rep.subC k t c v) h
/-! ### the hidden places as a list -/
def liveAds : List Addr → List MO → List Addr
  | a :: as, .dead :: os => liveAds as os
  | a :: as, _ :: os => a :: liveAds as os
  | _, _ => []
theorem liveAds_mem : ∀ {as : List Addr} {os : List MO} {a : Addr}, a ∈ liveAds as os ↔ ∃ (i : Nat) (o : MO), as[i]? = some a ∧ os[i]? = some o ∧ o ≠ MO.dead
  | [], os, a => by simp [liveAds]
  | b :: as, [], a => by simp [liveAds]
  | b :: as, o :: os, a => by
    have ih := liveAds_mem (as := as) (os := os) (a := a)
    have split : (∃ (i : Nat) (o' : MO), (b :: as)[i]? = some a ∧ (o :: os)[i]? = some o' ∧ o' ≠ MO.dead) ↔ ((b = a ∧ o ≠ MO.dead) ∨ ∃ (i : Nat) (o' : MO), as[i]? = some a ∧ os[i]? = some o' ∧ o' ≠ MO.dead) := by
      constructor
      · rintro ⟨i, o', h1, h2, h3⟩
        cases i with
        | zero => simp at h1 h2; subst h1 h2; exact .inl ⟨rfl, h3⟩
        | succ i => exact .inr ⟨i, o', by simpa using h1, by simpa using h2, h3⟩
      · rintro (⟨e, h⟩ | ⟨i, o', h1, h2, h3⟩)
        · exact ⟨0, o, by simp [e], by simp, h⟩
        · exact ⟨i + 1, o', by simpa using h1, by simpa using h2, h3⟩
    rw [split, ← ih]
    cases o with
    | dead => simp [liveAds]
    | lst xs => simp [liveAds, eq_comm]
    | dct ks ts => simp [liveAds, eq_comm]
    | ins c ns ts => simp [liveAds, eq_comm]
def G.hidL (g : G) : List Addr := g.pv ++ liveAds g.rho g.h
theorem hidL_mem {a : Addr} : a ∈ g.hidL ↔ g.hid a := by
  unfold G.hidL G.hid
  rw [List.mem_append, liveAds_mem]
/-- the ghost of a call that sees no changeable object -/
def G.pure (g : G) : G := ⟨[], [], g.hidL, g.H⟩
theorem hid_pure {H : Hp} {a : Addr} : G.hid ⟨[], [], g.hidL, H⟩ a ↔ g.hid a := by
  constructor
  · rintro (h | ⟨i, o, h, _⟩)
    · exact hidL_mem.mp h
    · simp at h
  · exact fun h => .inl (hidL_mem.mpr h)
theorem Rel.hid_there (R : Rel K mg g) {a : Addr} (h : g.hid a) : ∃ o, g.H a = some o := by
  rcases h with h | ⟨i, o, h1, _⟩
  · exact R.pvt a h
  · exact R.tr i a h1
theorem Rel.pure (R : Rel K mg g) : Rel K mg g.pure :=
  ⟨rfl, fun i j a h => by simp [G.pure] at h, fun a _ h => by simp [G.pure] at h, fun a ha => R.hid_there (hidL_mem.mp ha), fun i a h => by simp [G.pure] at h, fun i a o h => by simp [G.pure] at h⟩
/-- behind such a call -/
theorem pure_back {gc : G} (R : Rel K mg g) (e : Ext g.pure gc) : Ext g { g with H := gc.H } ∧ Rel K mg { g with H := gc.H } := by
  have kp : ∀ a o, g.H a = some o → gc.H a = some o := fun a o h => by
    by_cases q : g.hid a
    · have := e.pvk a (show a ∈ g.pure.pv from hidL_mem.mpr q)
      rw [this]; exact h
    · exact (e.keep a o h (fun z => q (hid_pure.mp z))).1
  have hs : Sub g { g with H := gc.H } := ⟨fun _ _ h => h, fun a o h n => ⟨kp a o h, n⟩⟩
  refine ⟨⟨hs.rho, rfl, fun a ha => ?_, hs.keep⟩, R.len, R.inj, R.npv, fun a ha => ?_, fun i a ha => ?_, fun i a o h1 h2 => (R.obj i a o h1 h2).sub hs fun u hu => kp a u hu⟩
  · exact e.pvk a (show a ∈ g.pure.pv from hidL_mem.mpr (.inl ha))
  · obtain ⟨o, h⟩ := R.pvt a ha; exact ⟨o, kp a o h⟩
  · obtain ⟨o, h⟩ := R.tr i a ha; exact ⟨o, kp a o h⟩
theorem rep_back {gc : G} (e : Ext g.pure gc) {t : T} {v : V} (c : closed t = true) (r : Rep K mg gc t v) : Rep K mg { g with H := gc.H } t v :=
  Rep.subC (g := gc) (g' := { g with H := gc.H }) (fun a o h n => ⟨h, fun z => n (.inl (by rw [e.pv]; exact hidL_mem.mpr z))⟩) t c v r
theorem rep_fwd {t : T} {v : V} (c : closed t = true) (r : Rep K mg g t v) : Rep K mg g.pure t v :=
  Rep.subC (g := g) (g' := g.pure) (fun a o h n => ⟨h, fun z => n (hid_pure (g := g) (H := g.H) |>.mp z)⟩) t c v r
theorem repL_fwd {ts : List T} {vs : List V} (c : closedL ts = true) (r : RepL K mg g ts vs) : RepL K mg g.pure ts vs :=
  RepL.subC (g := g) (g' := g.pure) (fun a o h n => ⟨h, fun z => n (hid_pure (g := g) (H := g.H) |>.mp z)⟩) c r
theorem repX_back {gc : G} (e : Ext g.pure gc) {x : Exc} {cls : Value} {d : Option Addr} (c : closedL x.vs = true) (r : RepX K mg gc x cls d) : RepX K mg { g with H := gc.H } x cls d := by
  obtain ⟨C, da, fs, e1, e2, e3, ⟨h1, n⟩, e4, h2⟩ := r
  have kn : ∀ a o, gc.H a = some o → ¬ gc.hid a → (G.mk g.rho g.h g.pv gc.H).H a = some o ∧ ¬ (G.mk g.rho g.h g.pv gc.H).hid a := fun a o h n => ⟨h, fun z => n (.inl (by rw [e.pv]; exact hidL_mem.mpr z))⟩
  exact ⟨C, da, fs, e1, e2, e3, kn _ _ h1 n, e4, RepL.subC kn c h2⟩
/-! ### promises -/
abbrev MF := List T → MH → R
def wpD (K : PySem.W.Frag) (mg : Str → Option Value) (g : G) (Q : VK) (E : XK) : R → Prop
  | .ok t h' => ∀ g' v, g'.h = h' → Ext g g' → Rel K mg g' → Rep K mg g' t v → Q v g'.H
  | .ex x h' => ∀ g' cls d, g'.h = h' → Ext g g' → Rel K mg g' → RepX K mg g' x cls d → E cls d g'.H
  | .stuck => False
def spM (K : PySem.W.Frag) (mg : Str → Option Value) (n : Nat) (m : MF) : Sp := fun vs H Q E => ∃ g ts, g.H = H ∧ Rel K mg g ∧ RepL K mg g ts vs ∧ ts.length = n ∧ wpD K mg g Q E (m ts g.h)
theorem spM_len {n : Nat} {m : MF} {vs : List V} {H : Hp} {E : XK} (h : spM K mg n m vs H Q E) : vs.length = n := by
  obtain ⟨g, ts, _, _, r, l, _⟩ := h
  rw [← r.length]; exact l
/-- a def's mirror, by its body's -/
def mDef (N : Nat) (mb : MS) : MF := fun ts h => match mb (ts.map some ++ List.replicate (N - ts.length) none) h with
  | .nx _ h1 => .ok .non h1
  | .rt t h1 => .ok t h1
  | .ex x _ h1 => .ex x h1
  | _ => .stuck
theorem repS_start {N : List Str} {ts : List T} {vs : List V} (r : RepL K mg g ts vs) : RepS K mg g (ts.map some ++ List.replicate (N.length - ts.length) none) (L2.start N vs) := by
  unfold L2.start
  refine ⟨by simp only [List.length_append, List.length_map, List.length_replicate, r.length], fun i t h => ?_⟩
  by_cases l : i < ts.length
  · rw [List.getElem?_append_left (by simpa using l)] at h
    rw [List.getElem?_append_left (by rw [List.length_map, ← r.length]; exact l)]
    rw [List.getElem?_map] at h ⊢
    cases q : ts[i]? with
    | none => rw [q] at h; cases h
    | some u =>
      rw [q] at h
      have h : some (some u) = some (some t) := h
      cases h
      obtain ⟨v, e, rv⟩ := r.get q
      exact ⟨v, by rw [e]; rfl, rv⟩
  · rw [List.getElem?_append_right (by simpa using Nat.le_of_not_lt l)] at h
    have := List.mem_of_getElem? h
    simp at this
/-- THE RULE for a def -/
theorem def_ok {P : Program} {w : World} {base : Heap} {x qual : Str} {params : Arguments} {body : List Stmt} {scope : Scope} {dvs : List V} {kws : List (Str × V)} {f : Addr} {fd : FuncData} {N ps : List Str} {k n : Nat} {mb : MS}
    (F : FunD K x qual params body scope dvs kws f fd) (S : FnScope N ps scope) (hn : ps.length = n)
    (hbody : ∀ (cdv : Value) (A : Around) (outer : List Env) (s : Shared) (H : Hp) (E : XK), Room k (A.deeper (envOfC qual scope s.heap.objs.size f cdv)) →
      SSs (cxOf (L2.CX P w) P w K mg base N qual scope f cdv A outer s H E) (fun cls d _ H => E cls d H) body mb) :
    FnOk P w K mg base (L2.CX P w) (k + 1) f fd ps (spM K mg n (mDef N.length mb)) := by
  refine F.ok S (fun vs H Q E h => (spM_len h).trans hn.symm) fun cdv A outer s H vs Q E hr h => ⟨_, hbody cdv A outer s H E hr, ?_⟩
  obtain ⟨g, ts, rfl, R, r, l, h⟩ := h
  refine ⟨g, _, rfl, R, repS_start r, ?_⟩
  unfold mDef at h
  cases q : mb (ts.map some ++ List.replicate (N.length - ts.length) none) g.h with
  | nx s' h' =>
    rw [q] at h
    exact fun g' σ' q1 e R' S' => h g' .non q1 e R' rNon
  | rt t h' => rw [q] at h; exact fun g' v q1 e R' r' => h g' v q1 e R' r'
  | bk s' h' => rw [q] at h; exact h.elim
  | ct s' h' => rw [q] at h; exact h.elim
  | ex y s' h' => rw [q] at h; exact fun g' σ' cls d q1 e R' S' r' => h g' cls d q1 e R' r'
  | stuck => rw [q] at h; exact h.elim
/-- a weaker level -/
theorem FnOk.up {P : Program} {w : World} {K : PySem.W.Frag} {mg : Str → Option Value} {base : Heap} {CX : CXT} {j k : Nat} {f : Addr} {fd : FuncData} {ps : List Str} {sp : Sp} (F : FnOk P w K mg base CX j f fd ps sp) (h : j ≤ k) : FnOk P w K mg base CX k f fd ps sp := F.mono h
/-! ### calls -/
abbrev FnM (X : Cx) (k : Nat) (f : Addr) (fd : FuncData) (ps : List Str) (n : Nat) (m : MF) : Prop := FnOk X.prog X.w X.K X.mg X.base (L2.CX X.prog X.w) k f fd ps (spM X.K X.mg n m)
/-- a call that may change what the caller sees -/
theorem call_st {n : Nat} {m : MF} {ts : List T} {vs : List V} (R : Rel K mg g) (r : RepL K mg g ts vs) (hn : ts.length = n) (h : wpR K mg W g σ Q (m ts g.h)) : spM K mg n m vs g.H Q (WE W σ) := by
  refine ⟨g, ts, rfl, R, r, hn, ?_⟩
  cases q : m ts g.h with
  | ok t h' => rw [q] at h; exact h
  | ex x h' => rw [q] at h; exact h
  | stuck => rw [q] at h; exact h
def pureR (r : R) (h : MH) : R := match r with
  | .ok t _ => if closed t then .ok t h else .stuck
  | .ex x _ => if closedL x.vs then .ex x h else .stuck
  | .stuck => .stuck
def fP (n : Nat) (m : MF) : List T → MH → R := fun ts h => if ts.length = n ∧ closedL ts = true then pureR (m ts []) h else .stuck
def fS (n : Nat) (m : MF) : List T → MH → R := fun ts h => if ts.length = n then m ts h else .stuck
theorem call_pu {n : Nat} {m : MF} {ts : List T} {vs : List V} (R : Rel K mg g) (r : RepL K mg g ts vs) (h : wpR K mg W g σ Q (fP n m ts g.h)) : spM K mg n m vs g.H Q (WE W σ) := by
  unfold fP at h
  split at h
  · rename_i q
    obtain ⟨hn, hc⟩ := q
    refine ⟨g.pure, ts, rfl, R.pure, repL_fwd hc r, hn, ?_⟩
    show wpD K mg g.pure Q (WE W σ) (m ts [])
    unfold pureR at h
    cases q2 : m ts [] with
    | ok t h' =>
      rw [q2] at h
      dsimp only at h
      split at h
      · rename_i ct
        intro gc v _ e _ rv
        obtain ⟨e1, R1⟩ := pure_back R e
        exact h { g with H := gc.H } v rfl e1 R1 (rep_back e ct rv)
      · exact h.elim
    | ex x h' =>
      rw [q2] at h
      dsimp only at h
      split at h
      · rename_i ct
        intro gc cls d _ e _ rv
        obtain ⟨e1, R1⟩ := pure_back R e
        exact h { g with H := gc.H } cls d rfl e1 R1 (repX_back e ct rv)
      · exact h.elim
    | stuck => rw [q2] at h; exact h.elim
  · exact h.elim
/-- how a value is called -/
def Calls2 (X : Cx) (W : WX) (n : Nat) (m : MF) (f : List T → MH → R) : Prop := ∀ g σ ts vs Q, Rel X.K X.mg g → RepL X.K X.mg g ts vs → wpR X.K X.mg W g σ Q (f ts g.h) → spM X.K X.mg n m vs g.H Q (WE W σ)
theorem calls_st {n : Nat} {m : MF} : Calls2 X W n m (fS n m) := fun g σ ts vs Q R r h => by
  unfold fS at h
  split at h
  · rename_i q; exact call_st R r q h
  · exact h.elim
theorem calls_pu {n : Nat} {m : MF} : Calls2 X W n m (fP n m) := fun g σ ts vs Q R r h => call_pu R r h
/-- the defaults that fill up -/
def withD (dts : List T) (f : List T → MH → R) : List T → MH → R := fun ts h => f (ts ++ dts) h
theorem se_call {f : Addr} {fd : FuncData} {ps : List Str} {n k : Nat} {m : MF} {fm : List T → MH → R} {ds : List Value} {dvs : List V} {dts : List T} (F : FnM X k f fd ps n m) (hr : Room k X.A) (tk : Takes X W) (hm : X.mg x = some (.ref f)) (hk : PySem.W.keepIn X.K (.ref f) = true) (hb : Binds X.K fd ps ds) (hd : Vals dvs ds)
    (hdt : ∀ g, RepL X.K X.mg g dts dvs) (cl : Calls2 X W n m fm) (ha : SA X W (e :: es) mr) (hg : Gl X x := by rfl)
    (hdb : (x == ("__debug__" : Str)) = false := by decide) (he : starEach (e :: es) X.env = (false, eval e X.env) :: starEach es X.env := by rfl) (hpl : (backTo pos (starEach es X.env)).any (·.1) = false := by rfl) :
    SE X W (.Call (.Name x p) (e :: es) [] pos) (mA (withD dts fm) mr) := by
  refine weakE (pe_callSD F hr hg hm hk hb hd (fun σ => passAt tk σ) ha hdb he hpl) ?_
  rintro σ H Q ⟨g, s, rfl, R, S, h⟩
  exact ⟨g, s, rfl, R, S, wpL_of h fun g1 ts vs e1 R1 r1 h1 => cl g1 σ (ts ++ dts) (vs ++ dvs) Q R1 (r1.append (hdt g1)) h1⟩
end
end Mi
end part_Mi7
section part_Mi8
set_option maxRecDepth 100000
set_option maxHeartbeats 2000000
/-! Mi, part 8: times, in, chains, f-strings, isinstance, index, live lists, calls by keywords, globals, freezing. -/
namespace Mi
open PySem PySem.Spec PyProof.Rows L2
section
variable {X : Cx} {K : PySem.W.Frag} {mg : Str → Option Value} {W : WX} {g g' : G} {σ : L2.St} {Q : VK} {D : Ends}
variable {a b c e : Expr} {ma mb mc me mt : ME} {mr : MA} {pos p : Pos} {es : List Expr} {x : Str} {m : MS} {sts : List Stmt}
/-! ### times -/
def mulOk (i j : Int) : Bool := (decide (-18446744073709551616 < i) && decide (i < 18446744073709551616)) || (decide (-18446744073709551616 < j) && decide (j < 18446744073709551616))
theorem mulOk_of {i j : Int} (h : mulOk i j = true) : CMul i j := by
  unfold mulOk at h
  simp only [Bool.or_eq_true, Bool.and_eq_true, decide_eq_true_eq] at h
  unfold CMul
  omega
def strMulOk (s : Str) (i : Int) : Bool := decide (s.length ≤ 1000) && decide (-1000 ≤ i) && decide (i ≤ 1000)
theorem op_mul_str : OpR X (binaryOp .Mult) (fun x y H Q => ∃ s i, x = .str s ∧ y = .int i ∧ strMulOk s i = true ∧ Q (.str (Txt.mul s i)) H) := by
  intro pins s σ H x y v u Q I rx ry h
  obtain ⟨z, i, rfl, rfl, hc, q⟩ := h
  obtain ⟨t, rfl⟩ := rx
  obtain ⟨t', rfl⟩ := ry
  unfold strMulOk at hc
  simp only [Bool.and_eq_true, decide_eq_true_eq] at hc
  obtain ⟨⟨h1, h2⟩, h3⟩ := hc
  exact PySem.SB.mul (PyProof.Rows.mulOk_of 1000 1000 h1 (by omega) (by omega) (by omega) (by omega)) fun t' k => ⟨.str _, H, I.tok _, ⟨_, rfl⟩, q⟩
def repOk (xs : List T) (i : Int) : Bool := decide (-1000 ≤ i) && decide (i ≤ 1000) && decide (xs.length ≤ 100)
def fMul : T → T → MH → R := fun t u h => match t, u with
  | .int i, .int j => if mulOk i j then .ok (.int (i * j)) h else .stuck
  | .str s, .int i => if strMulOk s i then .ok (.str (Txt.mul s i)) h else .stuck
  | .lst xs, .int i => if repOk xs i then .ok (.lst (List.replicate i.toNat xs).flatten) h else .stuck
  | _, _ => .stuck
abbrev rMulV : R2 := fun x y H Q => (rI CMul fun i j => .int (i * j)) x y H Q ∨ (fun x y H Q => (∃ s i, x = .str s ∧ y = .int i ∧ strMulOk s i = true ∧ Q (.str (Txt.mul s i)) H) ∨ rRep x y H Q) x y H Q
theorem op_mulV : OpR X (binaryOp .Mult) rMulV := op_mul.or (op_mul_str.or op_rep)
theorem RepL.rep {xs : List T} {vs : List V} (r : RepL K mg g xs vs) : ∀ n : Nat, RepL K mg g (List.replicate n xs).flatten (List.replicate n vs).flatten
  | 0 => RepL.nil
  | n + 1 => by
    rw [List.replicate_succ, List.replicate_succ, List.flatten_cons, List.flatten_cons]
    exact r.append (RepL.rep r n)
theorem mMulV : OpM X fMul rMulV := by
  intro W g σ t u x y Q R r1 r2 h
  unfold fMul at h
  split at h
  · rename_i i j
    rw [rep_int r1, rep_int r2]
    split at h
    · rename_i q; exact .inl ⟨i, j, rfl, rfl, mulOk_of q, wpR_here h R rInt⟩
    · exact h.elim
  · rename_i s i
    rw [rep_str r1, rep_int r2]
    split at h
    · rename_i q; exact .inr (.inl ⟨s, i, rfl, rfl, q, wpR_here h R rStr⟩)
    · exact h.elim
  · rename_i xs i
    rw [rep_int r2]
    obtain ⟨p, vs, rfl, h1, l1⟩ := rep_lst_at r1
    split at h
    · rename_i q
      unfold repOk at q
      simp only [Bool.and_eq_true, decide_eq_true_eq] at q
      obtain ⟨⟨q1, q2⟩, q3⟩ := q
      refine .inr (.inr ⟨p, i, vs, rfl, rfl, h1, by omega, by omega, ?_, fun p' hp => wpR_lst h R (l1.rep _) hp⟩)
      have h1 : vs.length ≤ 100 := by rw [← l1.length]; exact q3
      have h2 : i.toNat ≤ 1000 := by omega
      have := Nat.mul_le_mul h1 h2
      rw [sizeLine_eq]
      omega
    · exact h.elim
  · exact h.elim
/-! ### in -/
def rInDT (K : PySem.W.Frag) (neg : Bool) : R2 := fun x y H Q => ∃ d ds, Dp K H x d ∧ Dp K H y (.tuple ds) ∧ SeqAt.shaped d = true ∧ SeqAt.shaped (.tuple ds) = true ∧ Q (.bl (if neg then !(ds.any fun z => PyData.eqv z d) else ds.any fun z => PyData.eqv z d)) H
theorem op_inDT (hu : X.A.units + 65 < cLine) : OpR X (compareOp .In) (rInDT X.K false) := by
  intro pins s σ H x y v u Q I rx ry h
  obtain ⟨d, ds, hd, he, sd, se, q⟩ := h
  obtain ⟨as, r1⟩ := Dp.reads I d x v hd rx
  obtain ⟨bs, r2⟩ := Dp.reads I (.tuple ds) y u he ry
  exact SeqAt.in_tuple_reads r2 r1 (SeqAt.canLay_of_shaped se) (SeqAt.canLay_of_shaped sd) (room_in_shaped sd hu) ⟨.bl _, H, I, rfl, q⟩
theorem op_notInDT (hu : X.A.units + 65 < cLine) : OpR X (compareOp .NotIn) (rInDT X.K true) := by
  intro pins s σ H x y v u Q I rx ry h
  obtain ⟨d, ds, hd, he, sd, se, q⟩ := h
  obtain ⟨as, r1⟩ := Dp.reads I d x v hd rx
  obtain ⟨bs, r2⟩ := Dp.reads I (.tuple ds) y u he ry
  exact SeqAt.notIn_tuple_reads r2 r1 (SeqAt.canLay_of_shaped se) (SeqAt.canLay_of_shaped sd) (room_in_shaped sd hu) ⟨.bl _, H, I, rfl, q⟩

def strIn (i j : Str) : Bool := match i.cps.toList with
  | [c] => decide (c ∈ j.cps.toList)
  | _ => !(Builtin.Str.occurrences j i 0 j.length 1).isEmpty
theorem strIn_eq (i j : Str) : strIn i j = !(Builtin.Str.occurrences j i 0 j.length 1).isEmpty := by
  unfold strIn
  split
  · rename_i c q
    have e : i = ⟨#[c]⟩ := by
      cases i with | mk z =>
      simp only at q
      congr 1
      exact Array.toList_inj.mp q
    rw [e]
    exact (PySem.StrLaws.found_one j c).symm
  · rfl
def fIn (neg : Bool) : T → T → MH → R := fun t u h => match u with
  | .str y => match t with
    | .str x => .ok (.bl (if neg then !strIn x y else strIn x y)) h
    | _ => .stuck
  | _ => match toD t, seqOf u h with
    | some d, some xs => match toDs xs with
      | some ds => if SeqAt.shaped d && SeqAt.shaped (.list ds) && SeqAt.shaped (.tuple ds) then .ok (.bl (if neg then !(ds.any fun z => PyData.eqv z d) else ds.any fun z => PyData.eqv z d)) h else .stuck
      | none => .stuck
    | _, _ => .stuck
abbrev rInV (K : PySem.W.Frag) (neg : Bool) : R2 := fun x y H Q => (∃ i j, x = .str i ∧ y = .str j ∧ Q (.bl (if neg then !strIn i j else strIn i j)) H) ∨ (fun x y H Q => (if neg then rNotInD K x y H Q else rInD K x y H Q) ∨ rInDT K neg x y H Q) x y H Q
theorem op_inV (hu : X.A.units + 65 < cLine) : OpR X (compareOp .In) (rInV X.K false) := by
  refine OpR.or ?_ ((op_inD hu).or (op_inDT hu))
  intro pins s σ H x y v u Q I rx ry h
  obtain ⟨i, j, e1, e2, q⟩ := h
  exact op_in_str pins s σ H x y v u Q I rx ry ⟨i, j, e1, e2, by rw [← strIn_eq]; exact q⟩
theorem op_notinV (hu : X.A.units + 65 < cLine) : OpR X (compareOp .NotIn) (rInV X.K true) := by
  refine OpR.or ?_ ((op_notInD hu).or (op_notInDT hu))
  intro pins s σ H x y v u Q I rx ry h
  obtain ⟨i, j, e1, e2, q⟩ := h
  exact op_notin_str pins s σ H x y v u Q I rx ry ⟨i, j, e1, e2, by rw [← strIn_eq]; exact q⟩
theorem dp_seq {t : T} {v : V} {xs : List T} {ds : List PyData} (R : Rel K mg g) (r : Rep K mg g t v) (h : seqOf t g.h = some xs) (hd : toDs xs = some ds) : Dp K g.H v (.list ds) ∨ Dp K g.H v (.tuple ds) := by
  obtain ⟨q, vs, rfl, h1, l1⟩ := seq_of R r h
  have z := dpAll_of (fun t _ v d r e => dp_of t v d r e) l1 hd
  rcases h1 with h1 | h1
  · exact .inl (.lst h1 z)
  · exact .inr (.tup h1 z)
theorem mInV {neg : Bool} : OpM X (fIn neg) (rInV X.K neg) := by
  intro W g σ t u x y Q R r1 r2 h
  unfold fIn at h
  split at h
  · rename_i j
    rw [rep_str r2]
    split at h
    · rename_i i
      rw [rep_str r1]
      exact .inl ⟨i, j, rfl, rfl, wpR_here h R rBl⟩
    · exact h.elim
  · split at h
    · rename_i d xs hd hs
      split at h
      · rename_i ds he
        split at h
        · rename_i q
          simp only [Bool.and_eq_true] at q
          obtain ⟨⟨q1, q2⟩, q3⟩ := q
          rcases dp_seq R r2 hs he with z | z
          · refine .inr (.inl ?_)
            cases neg with
            | false => exact ⟨d, ds, dp_of t x d r1 hd, z, q1, q2, wpR_here h R rBl⟩
            | true => exact ⟨d, ds, dp_of t x d r1 hd, z, q1, q2, wpR_here h R rBl⟩
          · exact .inr (.inr ⟨d, ds, dp_of t x d r1 hd, z, q1, q3, wpR_here h R rBl⟩)
        · exact h.elim
      · exact h.elim
    · exact h.elim
/-! ### chains -/
def mChain (f f' : T → T → MH → R) (ma mb mc : ME) : ME := fun s h => (ma s h).bind fun t h1 => (mb s h1).bind fun u h2 => (f t u h2).bind fun k h3 => match k with
  | .bl true => (mc s h3).bind fun w h4 => f' u w h4
  | .bl false => .ok (.bl false) h3
  | _ => .stuck
def BlM (f : T → T → MH → R) : Prop := ∀ t u h, (∃ b, f t u h = .ok (.bl b) h) ∨ f t u h = .stuck
theorem use_chain {f f' : T → T → MH → R} {r r' : R2} (hm : OpM X f r) (hm' : OpM X f' r') (hb : BlM f) {H : Hp} (h : tM X.K X.mg W (mChain f f' ma mb mc) σ H Q) : tChain r r' (tM X.K X.mg W ma) (tM X.K X.mg W mb) (tM X.K X.mg W mc) σ H Q := by
  obtain ⟨g, s, rfl, R, S, h⟩ := h
  refine ⟨g, s, rfl, R, S, wpR_bind h fun g1 t x e1 R1 r1 h1 => ⟨g1, s, rfl, R1, S.mono e1, wpR_bind h1 fun g2 u y e2 R2 r2 h2 => ?_⟩⟩
  refine hm W g2 σ t u x y _ R2 (r1.mono e2) r2 (wpR_bind h2 fun g3 k z e3 R3 r3 h3 => ?_)
  rcases hb t u g2.h with ⟨b, q⟩ | q
  · cases k with
    | bl kb =>
      refine ⟨kb, rep_bl r3, ?_⟩
      cases kb with
      | false => exact wpR_here h3 R3 rBl
      | true =>
        refine ⟨g3, s, rfl, R3, (S.mono (e1.trans e2)).mono e3, ?_⟩
        exact wpR_bind h3 fun g4 w wv e4 R4 r4 h4 => hm' W g4 σ u w y wv Q R4 ((r2.mono e3).mono e4) r4 h4
    | _ => exact h3.elim
  · rw [q] at h2; exact h2.elim
theorem se_chain {op op' : CmpOp} {f f' : T → T → MH → R} {r r' : R2} (ho : OpR X (compareOp op) r) (hm : OpM X f r) (hb' : BlM f) (ho' : OpR X (compareOp op') r') (hm' : OpM X f' r') (ha : SE X W a ma) (hb : SE X W b mb) (hc : SE X W c mc)
    (hk : lastMarks [op, op'] [b, c] = false := by with_unfolding_all rfl) : SE X W (.Compare a [op, op'] [b, c] pos) (mChain f f' ma mb mc) :=
  weakE (pe_chain ho ho' ha hb hc hk) fun _ _ _ h => use_chain hm hm' hb' h
/-! ### f-strings -/
def fFmt : T → MH → R := fun t h => match t with
  | .str y => if y.length ≤ big then .ok (.str y) h else .stuck
  | .int i => if i.natAbs.log2 < 1920 then .ok (.str (toString i)) h else .stuck
  | _ => .stuck
def fFmtR : T → MH → R := fun t h => match t with
  | .str y => if (reprText y).length ≤ big then .ok (.str (reprText y)) h else .stuck
  | .int i => if i.natAbs.log2 < 1920 then .ok (.str (toString i)) h else .stuck
  | _ => .stuck
theorem se_fmt (ha : SE X W a ma) : SE X W (.FormattedValue a (-1) none pos) (m1 fFmt ma) := by
  refine weakE (pe_fmt ha) ?_
  rintro σ H Q ⟨g, s, rfl, R, S, h⟩
  refine ⟨g, s, rfl, R, S, wpR_bind h fun g1 t x e1 R1 r1 h1 => ?_⟩
  unfold fFmt at h1
  split at h1
  · split at h1
    · rename_i q; exact .inl ⟨_, rep_str r1, big_le q, wpR_here h1 R1 rStr⟩
    · exact h1.elim
  · split at h1
    · rename_i q; exact .inr ⟨_, rep_int r1, q, wpR_here h1 R1 rStr⟩
    · exact h1.elim
  · exact h1.elim
theorem se_fmtR (ha : SE X W a ma) : SE X W (.FormattedValue a 114 none pos) (m1 fFmtR ma) := by
  refine weakE (pe_fmtR ha) ?_
  rintro σ H Q ⟨g, s, rfl, R, S, h⟩
  refine ⟨g, s, rfl, R, S, wpR_bind h fun g1 t x e1 R1 r1 h1 => ?_⟩
  unfold fFmtR at h1
  split at h1
  · split at h1
    · rename_i q; exact .inl ⟨_, rep_str r1, big_le q, wpR_here h1 R1 rStr⟩
    · exact h1.elim
  · split at h1
    · rename_i q; exact .inr ⟨_, rep_int r1, q, wpR_here h1 R1 rStr⟩
    · exact h1.elim
  · exact h1.elim
abbrev SJ (X : Cx) (W : WX) (es : List Expr) (ms : List ME) : Prop := PJ X es (ms.map (tM X.K X.mg W))
theorem sj_nil : SJ X W [] [] := .nil
theorem sj_cons {ms : List ME} (h : SE X W e me) (r : SJ X W es ms) : SJ X W (e :: es) (me :: ms) := .cons h r
def fJ (k : Str → ME) (acc : Str) (s : SM) : T → MH → R := fun t h1 => match t with
  | .str y => if (acc ++ y).length ≤ big then k (acc ++ y) s h1 else .stuck
  | _ => .stuck
def mJ : List ME → Str → ME
  | [], acc => fun _ h => .ok (.str acc) h
  | m :: ms, acc => fun s h => (m s h).bind (fJ (mJ ms) acc s)
theorem use_J : ∀ {ms : List ME} {acc : Str} {H : Hp} {Q : VK}, tM K mg W (mJ ms acc) σ H Q → tJs (ms.map (tM K mg W)) acc σ H fun out H1 => Q (.str out) H1
  | [], acc, H, Q, h => by
    obtain ⟨g, s, rfl, R, S, h⟩ := h
    exact wpR_here h R rStr
  | m :: ms, acc, H, Q, h => by
    obtain ⟨g, s, rfl, R, S, h⟩ := h
    refine ⟨g, s, rfl, R, S, wpR_bind h fun g1 t x e1 R1 r1 h1 => ?_⟩
    unfold fJ at h1
    split at h1
    · rename_i y
      split at h1
      · rename_i q; exact ⟨y, rep_str r1, big_le q, use_J ⟨g1, s, rfl, R1, S.mono e1, h1⟩⟩
      · exact h1.elim
    · exact h1.elim
theorem se_fstr {v1 v2 : Expr} {rest : List Expr} {ms : List ME} (h : SJ X W (v1 :: v2 :: rest) ms) : SE X W (.JoinedStr (v1 :: v2 :: rest) pos) (mJ ms Str.empty) :=
  weakE (pe_joined h) fun _ _ _ h => use_J h
theorem se_fstr1 (h : SE X W e me) : SE X W (.JoinedStr [e] pos) me := pe_joined1 h
/-! ### isinstance of a built-in type -/
inductive Ty5 where
  | non | bl | int | str | tup | lst | dct
  deriving DecidableEq
def Ty5.name : Ty5 → String
  | .non => "NoneType"
  | .bl => "bool"
  | .int => "int"
  | .str => "str"
  | .tup => "tuple"
  | .lst => "list"
  | .dct => "dict"
def tyOfT (t : T) (h : MH) : Option Ty5 := match t with
  | .non => some .non
  | .bl _ => some .bl
  | .int _ => some .int
  | .str _ => some .str
  | .tup _ => some .tup
  | .lst _ => some .lst
  | .frl _ => some .lst
  | .dct _ _ => some .dct
  | .obj _ _ _ => none
  | .ref i => match h[i]? with
    | some (.lst _) => some .lst
    | some (.dct _ _) => some .dct
    | _ => none
def isi5 (a c : Ty5) : Bool := decide (a = c) || (decide (a = .bl) && decide (c = .int))
theorem isi5_ok (a c : Ty5) : kitB a.name c.name = some (isi5 a c) := by cases a <;> cases c <;> decide +kernel
theorem tyx_of {t : T} {v : V} {a : Ty5} (R : Rel K mg g) (r : Rep K mg g t v) (h : tyOfT t g.h = some a) : TyX K g.H v (.type a.name) := by
  unfold tyOfT at h
  cases t with
  | non => cases h; rw [rep_non r]; exact .base .non
  | bl b => cases h; rw [rep_bl r]; exact .base (.bl b)
  | int b => cases h; rw [rep_int r]; exact .base (.int b)
  | str b => cases h; rw [rep_str r]; exact .base (.str b)
  | tup xs =>
    cases h
    obtain ⟨q, vs, rfl, h1, l1⟩ := r.sqT
    rcases h1 with h1 | ⟨o, its, n, h1, h2, _⟩
    · rcases h1 with h1 | ⟨o, h1⟩
      · exact .base (.tup h1)
      · exact .fTuple h1
    · exact .kTuple h1 h2
  | lst xs =>
    cases h
    obtain ⟨q, vs, rfl, h1, l1⟩ := rep_lst_at r
    exact .base (.lst h1)
  | frl xs =>
    cases h
    obtain ⟨q, vs, rfl, h1, l1⟩ := r.sqF
    rcases h1 with h1 | ⟨o, its, n, h1, h2, _⟩
    · rcases h1 with h1 | ⟨o, h1⟩
      · exact .base (.lst h1)
      · exact .base (.frz h1)
    · exact .kList h1 h2
  | dct ks vs =>
    cases h
    simp only [Rep] at r
    obtain ⟨p, kvs, rfl, ⟨h1, _⟩, _⟩ := r
    exact .base (.dK h1)
  | obj c ns vs => cases h
  | ref i =>
    dsimp only at h
    split at h
    · rename_i xs q
      cases h
      obtain ⟨p, vs, rfl, _, h1, _⟩ := R.lst_at r q
      exact .base (.lst h1)
    · rename_i ks vs q
      cases h
      simp only [Rep] at r
      obtain ⟨p, rfl, hp⟩ := r
      obtain ⟨kvs, h1, _⟩ := R.obj i p _ hp q
      exact .base (.dK h1)
    · cases h
def fIsi (c : Ty5) : T → MH → R := fun t h => match tyOfT t h with
  | some a => .ok (.bl (isi5 a c)) h
  | none => .stuck
theorem se_isi {pa pc : Pos} {y : Str} (c : Ty5) (hmi : X.mg "isinstance" = none) (hmc : X.mg y = none) (ha : SE X W a ma) (hg : Gl X "isinstance" := by rfl) (hgc : Gl X y := by rfl) (hv : bootBuiltins y = some (.type c.name) := by decide +kernel)
    (hn : y ≠ "__name__" := by decide) (hdc : (y == ("__debug__" : Str)) = false := by decide)
    (he : starEach [a, .Name y pc] X.env = (false, eval a X.env) :: starEach [.Name y pc] X.env := by rfl) (he2 : starEach [.Name y pc] X.env = [(false, eval (.Name y pc) X.env)] := by rfl) (hpl : (backTo pos (starEach [.Name y pc] X.env)).any (·.1) = false := by rfl) :
    SE X W (.Call (.Name "isinstance" pa) [a, .Name y pc] [] pos) (m1 (fIsi c) ma) := by
  refine weakE (pe_callB (id := "isinstance") call_isi hg hmi (by decide +kernel) (pa_cons ha (pa_cons (pe_bltn hgc hmc hv (v := .ty c.name) rfl hn hdc) pa_nil he2) he) (by decide) (by decide) he hpl) ?_
  rintro σ H Q ⟨g, s, rfl, R, S, h⟩
  refine ⟨g, s, rfl, R, S, wpR_bind h fun g1 t x e1 R1 r1 h1 => ?_⟩
  unfold fIsi at h1
  split at h1
  · rename_i a' q
    exact ⟨x, .ty c.name, .type a'.name, .type c.name, isi5 a' c, rfl, .ty _, tyx_of R1 r1 q, kit_ty (isi5_ok a' c), wpR_here h1 R1 rBl⟩
  · exact h1.elim
end
end Mi
end part_Mi8
section part_Mi9
set_option maxRecDepth 100000
set_option maxHeartbeats 2000000
/-! Mi, part 9: index, live lists, stores, calls by keywords, globals, freezing. -/
namespace Mi
open PySem PySem.Spec PyProof.Rows L2
section
variable {X : Cx} {K : PySem.W.Frag} {mg : Str → Option Value} {W : WX} {g g' : G} {σ : L2.St} {Q : VK} {D : Ends}
variable {a b c e : Expr} {ma mb mc me mt : ME} {mr : MA} {pos p : Pos} {es : List Expr} {x : Str} {m : MS} {sts : List Stmt}
/-! ### l.index(x) -/
def idxD (d : PyData) : List PyData → Option Nat
  | [] => none
  | z :: ds => if PyData.eqv z d then some 0 else (idxD d ds).map (· + 1)
theorem idxD_ok {d : PyData} : ∀ {ds : List PyData} {j : Nat}, idxD d ds = some j → ∃ z, ds[j]? = some z ∧ PyData.eqv z d = true ∧ ∀ (m : Nat) (z' : PyData), m < j → ds[m]? = some z' → PyData.eqv z' d = false
  | [], j, h => by cases h
  | z :: ds, j, h => by
    unfold idxD at h
    split at h
    · rename_i q
      cases h
      exact ⟨z, rfl, q, fun m z' hm => absurd hm (Nat.not_lt_zero _)⟩
    · rename_i q
      cases e : idxD d ds with
      | none => rw [e] at h; cases h
      | some i =>
        rw [e] at h
        cases h
        obtain ⟨y, h1, h2, h3⟩ := idxD_ok e
        refine ⟨y, h1, h2, fun m z' hm hz => ?_⟩
        cases m with
        | zero =>
          cases (show some z = some z' from hz)
          simpa using q
        | succ m => exact h3 m z' (Nat.lt_of_succ_lt_succ hm) hz
def fIndex : T → List T → MH → R := fun t ts h => match ts with
  | [u] => if isTupT t then .stuck else match toD u, seqOf t h with
    | some d, some xs => match toDs xs with
      | some ds => if SeqAt.shaped d && SeqAt.shaped (.list ds) then (match idxD d ds with
        | some j => .ok (.int (j : Nat)) h
        | none => .stuck) else .stuck
      | none => .stuck
    | _, _ => .stuck
  | _ => .stuck
theorem dp_lstOf {t : T} {v : V} {xs : List T} {ds : List PyData} (R : Rel K mg g) (r : Rep K mg g t v) (hT : isTupT t = false) (h : seqOf t g.h = some xs) (hd : toDs xs = some ds) : ∃ q, v = .ref q ∧ Dp K g.H v (.list ds) := by
  have z : ∀ {vs}, RepL K mg g xs vs → DpAll K g.H vs ds := fun l1 => dpAll_of (fun t _ v d r e => dp_of t v d r e) l1 hd
  cases t with
  | tup ys => cases hT
  | lst ys => cases h; obtain ⟨q, vs, e, h1, l1⟩ := r.sqL; exact ⟨q, e, e ▸ .lst h1 (z l1)⟩
  | frl ys => cases h; obtain ⟨q, vs, e, h1, l1⟩ := r.sqF; exact ⟨q, e, e ▸ .lst h1 (z l1)⟩
  | ref i =>
    unfold seqOf at h
    dsimp only at h
    split at h
    · rename_i ys q
      cases h
      obtain ⟨q, vs, e, _, h1, l1⟩ := R.lst_at r q
      exact ⟨q, e, e ▸ .lst (SqL.of h1) (z l1)⟩
    · cases h
  | _ => cases h
theorem meIndex : MeM X fIndex (rIndexD X.K) := by
  intro W g σ t ts x vs Q R r rs h
  unfold fIndex at h
  split at h
  · rename_i u
    obtain ⟨v, rfl, rv⟩ := rs.one
    split at h
    · exact h.elim
    · rename_i hT
      split at h
      · rename_i d xs hd hs
        split at h
        · rename_i ds he
          split at h
          · rename_i q
            simp only [Bool.and_eq_true] at q
            split at h
            · rename_i j hj
              obtain ⟨z, h1, h2, h3⟩ := idxD_ok hj
              obtain ⟨l, rfl, hl⟩ := dp_lstOf R r (by simpa using hT) hs he
              exact ⟨l, v, d, ds, j, z, rfl, rfl, hl, dp_of u v d rv hd, q.2, q.1, h1, h2, h3, wpR_here h R rInt⟩
            · exact h.elim
          · exact h.elim
        · exact h.elim
      · exact h.elim
  · exact h.elim
/-! ### a new changeable list -/
theorem wpR_new {xs : List T} {vs : List V} {p : Addr} (h : wpR K mg W g σ Q (.ok (.ref g.h.length) (g.h ++ [.lst xs]))) (R : Rel K mg g) (r : RepL K mg g xs vs) (hp : g.H p = none) : Q (.ref p) (upd g.H p (.lst vs)) := by
  obtain ⟨g', e1, e2, ex, R', rr⟩ := ref_lay (o := .lst xs) (ho := .lst vs) R hp (fun g2 s2 hq => ⟨vs, hq, r.sub s2⟩) (by intro z; cases z)
  rw [← e1]
  exact h g' _ e2 ex R' rr
def fLstN : List T → MH → R := fun ts h => if ts.length ≤ big then .ok (.ref h.length) (h ++ [.lst ts]) else .stuck
theorem se_lstN {es : List Expr} {mr : MA} (h : SA X W es mr) : SE X W (.List es pos) (mA fLstN mr) := by
  refine weakE (pe_lst h) ?_
  rintro σ H Q ⟨g, s, rfl, R, S, h⟩
  refine ⟨g, s, rfl, R, S, wpL_of h fun g1 ts vs e1 R1 r1 h1 => ?_⟩
  unfold fLstN at h1
  split at h1
  · rename_i q; exact ⟨big_le (by rw [← r1.length]; exact q), fun p hp => wpR_new h1 R1 r1 hp⟩
  · exact h1.elim
/-! ### l[i] = v of a changeable list -/
def gSt (mo mi : ME) : MG := fun t s h => match mo s h with
  | .ok o h1 => match mi s h1 with
    | .ok (.int k) h2 => match liveL o h2 with
      | some (j, xs) => match ixN xs.length k with
        | some n => .ok s (h2.set j (.lst (xs.set n t)))
        | none => .stuck
      | none => .stuck
    | _ => .stuck
  | _ => .stuck
theorem sg_sub {o i : Expr} {mo mi : ME} (ho : SE X W0 o mo) (hi : SE X W0 i mi)
    (ha : ∀ v, assign (.Subscript o i pos) X.env v = (do
      let ov ← holding [v] (eval o X.env)
      let iv ← holding [v, ov] (eval i X.env)
      standAt pos
      holding [v, ov, iv] (setItem ov iv v)
      release [v, ov, iv] []) := by intro _; rfl) : SG X (.Subscript o i pos) [] (gSt mo mi) := by
  refine weakG (pg_sub ho hi set_list ha) ?_
  rintro v σ H Q ⟨g, s, t, rfl, R, S, rv, h⟩
  refine ⟨g, s, rfl, R, S, ?_⟩
  unfold gSt at h
  cases q : mo s g.h with
  | ok to h1 =>
    rw [q] at h
    dsimp only at h
    rintro g1 vo rfl e1 R1 r1
    refine ⟨g1, s, rfl, R1, S.mono e1, ?_⟩
    cases q2 : mi s g1.h with
    | ok ti h2 =>
      rw [q2] at h
      rintro g2 vi rfl e2 R2 r2
      split at h
      · rename_i k _ q3
        cases q3
        split at h
        · rename_i j xs hl
          split at h
          · rename_i n hn
            obtain ⟨pl, vs, rfl, hp, hh, hH, l1⟩ := live_of R2 (r1.mono e2) hl
            have rv2 := (rv.mono e1).mono e2
            refine ⟨pl, vs, k, n, rfl, rep_int r2, hH, by rw [← l1.length]; exact hn, ?_⟩
            obtain ⟨g3, z1, z2, ex, R'⟩ := R2.put (o' := .lst (xs.set n t)) (ho := .lst (vs.set n v)) hp hh (by intro z; cases z) (by intro z; cases z) (fun g4 s4 hq => ⟨_, hq, (l1.sub s4).set n (Rep.sub s4 t v rv2)⟩)
            rw [← z1]
            exact h g3 σ z2 ((e1.trans e2).trans ex) R' (((S.mono e1).mono e2).mono ex) fun _ _ => rfl
          · exact h.elim
        · exact h.elim
      · exact h.elim
    | ex y h2 => rw [q2] at h; exact h.elim
    | stuck => rw [q2] at h; exact h.elim
  | ex y h1 => rw [q] at h; exact h.elim
  | stuck => rw [q] at h; exact h.elim
end
end Mi
end part_Mi9
section part_Mi10
set_option maxRecDepth 100000
set_option maxHeartbeats 2000000
/-! Mi, part 10: freezing, globals, what a def is (Has), calls by position, by keywords. -/
namespace Mi
open PySem PySem.Spec PyProof.Rows L2
section
variable {X : Cx} {K : PySem.W.Frag} {mg : Str → Option Value} {W : WX} {g g' : G} {σ : L2.St} {Q : VK} {D : Ends}
variable {a b c e : Expr} {ma mb mc me mt : ME} {mr mk : MA} {pos p : Pos} {es : List Expr} {x : Str} {m : MS} {st : Stmt} {sts : List Stmt} {kws : List Keyword}
/-! ### freezing -/
theorem frz_g (R : Rel K mg g) {j : Nat} {q : Addr} {o : MO} (h1 : g.rho[j]? = some q) (h2 : g.h[j]? = some o) (h3 : o ≠ MO.dead) :
    let g' : G := ⟨g.rho, g.h.set j .dead, g.pv, g.H⟩
    Ext g g' ∧ Rel K mg g' ∧ ¬ g'.hid q := by
  intro g'
  have hh : ∀ a, g'.hid a → g.hid a := by
    rintro a (z | ⟨i, o', z1, z2, z3⟩)
    · exact .inl z
    · have z2' : (g.h.set j .dead)[i]? = some o' := z2
      by_cases e : j = i
      · subst e
        rw [List.getElem?_set] at z2'
        split at z2'
        · split at z2'
          · cases z2'; exact absurd rfl z3
          · cases z2'
        · rename_i w; exact absurd rfl w
      · rw [List.getElem?_set_ne e] at z2'
        exact .inr ⟨i, o', z1, z2', z3⟩
  have hs : Sub g g' := ⟨fun _ _ h => h, fun a u h n => ⟨h, fun z => n (hh a z)⟩⟩
  refine ⟨⟨hs.rho, rfl, fun _ _ => rfl, hs.keep⟩, ⟨?_, R.inj, R.npv, R.pvt, R.tr, ?_⟩, ?_⟩
  · show g.rho.length = (g.h.set j .dead).length
    rw [List.length_set]; exact R.len
  · intro i a u z1 z2
    have z2' : (g.h.set j .dead)[i]? = some u := z2
    by_cases e : j = i
    · subst e
      rw [List.getElem?_set] at z2'
      split at z2'
      · split at z2'
        · cases z2'; trivial
        · cases z2'
      · rename_i w; exact absurd rfl w
    · rw [List.getElem?_set_ne e] at z2'
      exact (R.obj i a u z1 z2').sub hs fun w hw => hw
  · rintro (z | ⟨i, o', z1, z2, z3⟩)
    · exact R.npv q z (List.mem_of_getElem? h1)
    · have e : i = j := R.inj i j q z1 h1
      subst e
      have z2' : (g.h.set i .dead)[i]? = some o' := z2
      rw [List.getElem?_set] at z2'
      split at z2'
      · split at z2'
        · cases z2'; exact z3 rfl
        · cases z2'
      · rename_i w; exact w rfl
/-- a changeable object as a value, its number dead -/
def fzT (t : T) (h : MH) : T × MH := match t with
  | .ref j => match h[j]? with
    | some (.lst xs) => (.lst xs, h.set j .dead)
    | some (.dct ks vs) => (.dct ks vs, h.set j .dead)
    | some (.ins c ns vs) => (.obj c ns vs, h.set j .dead)
    | _ => (t, h)
  | _ => (t, h)
theorem fz_ok (R : Rel K mg g) {t : T} {v : V} (r : Rep K mg g t v) : ∃ g' : G, g'.H = g.H ∧ g'.h = (fzT t g.h).2 ∧ Ext g g' ∧ Rel K mg g' ∧ Rep K mg g' (fzT t g.h).1 v := by
  unfold fzT
  split
  · rename_i j
    simp only [Rep] at r
    obtain ⟨q, rfl, hq⟩ := r
    split
    · rename_i xs z
      obtain ⟨vs, h1, l1⟩ := R.obj j q _ hq z
      obtain ⟨e, R', n⟩ := frz_g R hq z (by intro w; cases w)
      exact ⟨⟨g.rho, g.h.set j .dead, g.pv, g.H⟩, rfl, rfl, e, R', by simp only [Rep]; exact ⟨q, vs, rfl, ⟨h1, n⟩, l1.mono e⟩⟩
    · rename_i ks ts z
      obtain ⟨kvs, h1, h2, l1⟩ := R.obj j q _ hq z
      obtain ⟨e, R', n⟩ := frz_g R hq z (by intro w; cases w)
      exact ⟨⟨g.rho, g.h.set j .dead, g.pv, g.H⟩, rfl, rfl, e, R', by simp only [Rep]; exact ⟨q, kvs, rfl, ⟨h1, n⟩, h2, l1.mono e⟩⟩
    · rename_i cc ns ts z
      obtain ⟨C, dx, fs, h1, h2, h3, l1⟩ := R.obj j q _ hq z
      obtain ⟨e, R', n⟩ := frz_g R hq z (by intro w; cases w)
      exact ⟨⟨g.rho, g.h.set j .dead, g.pv, g.H⟩, rfl, rfl, e, R', by simp only [Rep]; exact ⟨q, C, dx, fs, rfl, ⟨h1, n⟩, h2, h3, l1.mono e⟩⟩
    · exact ⟨g, rfl, rfl, Ext.refl g, R, by simp only [Rep]; exact ⟨q, rfl, hq⟩⟩
  · exact ⟨g, rfl, rfl, Ext.refl g, R, r⟩
/-- the slot i is frozen ahead -/
def mFz (i : Nat) (m : MS) : MS := fun s h => match s[i]? with
  | some (some t) => m (s.set i (some (fzT t h).1)) (fzT t h).2
  | _ => m s h
theorem sss_fz (i : Nat) (hm : SSs X W sts m) : SSs X W sts (mFz i m) := by
  refine weakSs hm ?_
  rintro D σ H ⟨g, s, rfl, R, S, h⟩
  unfold mFz at h
  split at h
  · rename_i t q
    obtain ⟨v, e1, r⟩ := S.2 i t q
    obtain ⟨g', e2, e3, ex, R', r'⟩ := fz_ok R r
    refine ⟨g', _, e2, R', ?_, by rw [e3]; exact h.ext ex⟩
    have := (S.mono ex).set r' i
    have e4 : σ.set i (some v) = σ := by
      apply List.ext_getElem?
      intro k
      by_cases w : i = k
      · subst w
        rw [List.getElem?_set]
        split
        · split
          · exact e1.symm
          · rename_i w1 w2
            have := (List.getElem?_eq_some_iff.mp e1).1
            exact absurd this w2
        · rename_i w1; exact absurd rfl w1
      · rw [List.getElem?_set_ne w]
    rw [e4] at this
    exact this
  · exact ⟨g, s, rfl, R, S, h⟩
/-- return, the value frozen -/
def mRetF (me : ME) : MS := fun s h => (me s h).toS s fun t h1 => .rt (fzT t h1).1 (fzT t h1).2
theorem ss_retF (he : SE X W e me) : SS X W (.Return (some e) pos) (mRetF me) := by
  refine weakS (ss_ret he) ?_
  rintro D σ H ⟨g, s, rfl, R, S, h⟩
  refine ⟨g, s, rfl, R, S, ?_⟩
  unfold mRetF at h
  unfold mRet
  cases q : me s g.h with
  | ok t h1 =>
    rw [q] at h
    intro g1 v e1 ex R1 r1
    have e1' : g1.h = h1 := e1
    obtain ⟨g', e2, e3, ex', R', r'⟩ := fz_ok R1 r1
    rw [← e2]
    exact h g' v (by rw [e3, e1']) (ex.trans ex') R' (by rw [← e1']; exact r')
  | ex y h1 => rw [q] at h; exact h
  | stuck => rw [q] at h; exact h
/-! ### globals -/
theorem se_glob {t : T} {v : V} {u : Value} (hm : X.mg x = some u) (hr : RelV v u) (r : ∀ g, Rep X.K X.mg g t v) (hg : Gl X x := by rfl) (hd : (x == ("__debug__" : Str)) = false := by decide) : SE X W (.Name x pos) (mC t) :=
  se_c (pe_glob hg hm hr hd) r
/-! ### defs -/
def Has (P : Program) (w : World) (K : PySem.W.Frag) (mg : Str → Option Value) (base : Heap) (k : Nat) (x qual : Str) (st : Stmt) (ps : List Str) (m : MF) : Prop :=
  ∃ (f : Addr) (fd : FuncData), FunD K x qual (defArgs st) (defBody st) (defScope st) [] [] f fd ∧ mg x = some (.ref f) ∧ FnOk P w K mg base (L2.CX P w) k f fd ps (spM K mg ps.length m)
abbrev HasX (X : Cx) := Has X.prog X.w X.K X.mg X.base
theorem Has.up {P : Program} {w : World} {K : PySem.W.Frag} {mg : Str → Option Value} {base : Heap} {j k : Nat} {x qual : Str} {st : Stmt} {ps : List Str} {m : MF} (h : Has P w K mg base j x qual st ps m) (l : j ≤ k) : Has P w K mg base k x qual st ps m := by
  obtain ⟨f, fd, F, hm, ok⟩ := h
  exact ⟨f, fd, F, hm, ok.mono l⟩
abbrev PosB (st : Stmt) (x qual : Str) (ps : List Str) : Prop := ∀ (kV doc pm : Value) (an : Option Addr) (cdv ct : Value) (us : List Value), us.length = ps.length → bindArgs (PySem.W.fnOf x qual (defArgs st) (defBody st) (defScope st) .none kV doc pm an cdv ct) ⟨us, []⟩ = pure (ps.zip us)
/-- THE RULE for a call by position -/
theorem se_hcall {k : Nat} {qual : Str} {st : Stmt} {ps : List Str} {mf : MF} {fm : List T → MH → R} (h : HasX X k x qual st ps mf) (hr : Room k X.A) (tk : Takes X W) (cl : Calls2 X W ps.length mf fm) (hb : PosB st x qual ps) (ha : SA X W (e :: es) mr) (hg : Gl X x := by rfl)
    (hdb : (x == ("__debug__" : Str)) = false := by decide) (he : starEach (e :: es) X.env = (false, eval e X.env) :: starEach es X.env := by rfl) (hpl : (backTo pos (starEach es X.env)).any (·.1) = false := by rfl) :
    SE X W (.Call (.Name x p) (e :: es) [] pos) (mA fm mr) := by
  obtain ⟨f, fd, F, hm, ok⟩ := h
  have := se_call (dts := []) (p := p) (pos := pos) ok hr tk hm F.kp (F.bindsN hb) .nil (fun _ => RepL.nil) cl ha hg hdb he hpl
  have e1 : withD [] fm = fm := by
    funext ts h
    show fm (ts ++ []) h = fm ts h
    rw [List.append_nil]
  rw [e1] at this
  exact this
/-! ### keywords -/
def pick {α : Type} (is : List Nat) (l : List α) : List α := is.filterMap fun i => l[i]?
theorem pick_vals {vs : List V} {us : List Value} (r : Vals vs us) : ∀ is : List Nat, Vals (pick is vs) (pick is us)
  | [] => .nil
  | i :: is => by
    unfold pick
    simp only [List.filterMap_cons]
    have hl := r.length
    by_cases l : i < vs.length
    · rw [List.getElem?_eq_getElem l, List.getElem?_eq_getElem (by omega)]
      refine .cons ?_ (pick_vals r is)
      obtain ⟨u, e, z⟩ := r.get (List.getElem?_eq_getElem l)
      rw [List.getElem?_eq_getElem (by omega)] at e
      cases e
      exact z
    · rw [List.getElem?_eq_none (by omega), List.getElem?_eq_none (by omega)]
      exact pick_vals r is
theorem pick_repL {ts : List T} {vs : List V} (r : RepL K mg g ts vs) : ∀ is : List Nat, RepL K mg g (pick is ts) (pick is vs)
  | [] => RepL.nil
  | i :: is => by
    unfold pick
    simp only [List.filterMap_cons]
    have hl := r.length
    by_cases l : i < ts.length
    · obtain ⟨v, e, z⟩ := r.get (List.getElem?_eq_getElem l)
      rw [List.getElem?_eq_getElem l, e]
      exact RepL.cons z (pick_repL r is)
    · rw [List.getElem?_eq_none (by omega), List.getElem?_eq_none (by omega)]
      exact pick_repL r is
abbrev KwB (st : Stmt) (x qual : Str) (ps : List Str) (n : Nat) (ks : List Str) (is : List Nat) : Prop := ∀ (kV doc pm : Value) (an : Option Addr) (cdv ct : Value) (us ws : List Value), us.length = n → ws.length = ks.length →
  bindArgs (PySem.W.fnOf x qual (defArgs st) (defBody st) (defScope st) .none kV doc pm an cdv ct) ⟨us, ks.zip ws⟩ = pure (ps.zip (pick is (us ++ ws)))
theorem kbn_of {qual : Str} {st : Stmt} {ps ks : List Str} {n : Nat} {is : List Nat} {f : Addr} {fd : FuncData} (F : FunD K x qual (defArgs st) (defBody st) (defScope st) [] [] f fd) (h : KwB st x qual ps n ks is) : KBn K fd ps n ks (fun us ws => pick is (us ++ ws)) (fun vs zs => pick is (vs ++ zs)) := by
  obtain ⟨oc, od, dV, kV, doc, pm, an, cdv, ct, osl, rfl, _, _, hd, _⟩ := F.ex
  rcases hd with ⟨_, rfl⟩ | ⟨z, _⟩
  · exact ⟨fun s us ws _ l1 l2 M A E Q q => by rw [h kV doc pm an cdv ct us ws l1 l2]; exact wpAny_pure q, fun r rz => pick_vals (r.append rz) is⟩
  · exact absurd rfl z
abbrev SK (X : Cx) (W : WX) (kws : List Keyword) (m : MA) : Prop := PK X kws (tMA X.K X.mg W m)
variable {nm : Option Str} {kpos : Pos}
theorem sk_nil : SK X W [] aNil := by
  refine ⟨fun pos pins s σ H Q I h => pk_nil.run pos pins s σ H Q I ?_⟩
  obtain ⟨g, s', rfl, R, S, h⟩ := h
  exact h g [] rfl (Ext.refl g) R RepL.nil
theorem use_cons {H : Hp} {Q : List V → Hp → Prop} (h : tMA K mg W (aCons ma mr) σ H Q) : tCons (tM K mg W ma) (tMA K mg W mr) σ H Q := by
  obtain ⟨g, s, rfl, R, S, h⟩ := h
  refine ⟨g, s, rfl, R, S, ?_⟩
  unfold aCons at h
  cases q : ma s g.h with
  | ok t h1 =>
    rw [q] at h
    intro g1 v e1 ex R1 r1
    refine ⟨g1, s, rfl, R1, S.mono ex, ?_⟩
    dsimp only at h
    rw [e1]
    cases q2 : mr s h1 with
    | ok ts h2 =>
      rw [q2] at h
      intro g2 vs e2 ex2 R2 r2
      exact h g2 (v :: vs) e2 (ex.trans ex2) R2 (RepL.cons (r1.mono ex2) r2)
    | ex x h2 => 
      rw [q2] at h
      exact fun g2 cls d e2 ex2 R2 r2 => h g2 cls d e2 (ex.trans ex2) R2 r2
    | stuck => rw [q2] at h; exact h.elim
  | ex x h1 => rw [q] at h; exact h
  | stuck => rw [q] at h; exact h.elim
theorem sk_cons (ha : SE X W e me) (hr : SK X W kws mk) : SK X W (⟨nm, e, kpos⟩ :: kws) (aCons me mk) :=
  ⟨fun pos pins s σ H Q I h => (pk_cons ha hr).run pos pins s σ H Q I (use_cons h)⟩
def mKw (n nk : Nat) (is : List Nat) (fm : List T → MH → R) (mr mk : MA) : ME := fun s h => (mr s h).bind fun ts h1 => (mk s h1).bind fun us h2 => if ts.length = n ∧ us.length = nk then fm (pick is (ts ++ us)) h2 else .stuck
section
variable {k n : Nat} {f : Addr} {fd : FuncData} {ps ks : List Str} {sp : Sp} {E : L2.St → XK} {gg : List Value → List Value → List Value} {gV : List V → List V → List V} {CX : CXT} {t tk : TA}
theorem run_fnNS {pins : List (Addr × Obj)} {H : Hp} {s : Shared} {us ws : List Value} {vs zs : List V} (F : FnOk X.prog X.w X.K X.mg X.base CX k f fd ps sp) (hr : Room k X.A) (hb : KBn X.K fd ps n ks gg gV) (hx : PassesAt CX X σ (E σ))
    (I : Inv X pins σ H s) (r : Vals vs us) (rz : Vals zs ws) (l1 : vs.length = n) (l2 : zs.length = ks.length) (h : sp (gV vs zs) H Q (E σ)) : wpAny (model X.prog X.w) X.A (call (.ref f) us (ks.zip ws)) (EP X pins σ Q) X.xe s := by
  have r2 := hb.rel r rz
  refine wpAny_call (codeAny_mono (F.run X.A X.stack s H ⟨us, ks.zip ws⟩ (gg us ws) (gV vs zs) Q (E σ) hr I.env0 (hb.to s us ws I.kIn (r.length.symm.trans l1) (rz.length.symm.trans l2)) r2 h) fun r s' hq => ?_)
  cases r with
  | error e => exact hx pins H s e s' I hq
  | ok fl =>
    cases fl with
    | ret u => exact I.after hq
    | next => exact False.elim hq
    | brk => exact False.elim hq
    | cont => exact False.elim hq
def tCallNS (n m : Nat) (sp : Sp) (gV : List V → List V → List V) (E : L2.St → XK) (t tk : TA) : TE := fun σ H Q => t σ H fun vs H1 => tk σ H1 fun zs H2 => vs.length = n ∧ zs.length = m ∧ sp (gV vs zs) H2 Q (E σ)
theorem pe_callNS (F : FnOk X.prog X.w X.K X.mg X.base CX k f fd ps sp) (hr : Room k X.A) (hg : Gl X x) (hm : X.mg x = some (.ref f)) (hk : PySem.W.keepIn X.K (.ref f) = true) (hb : KBn X.K fd ps n ks gg gV) (hx : ∀ σ, PassesAt CX X σ (E σ))
    (ha : PA X (e :: es) t) (hkw : PK X kws tk) (hall : (backToKw pos (keywordEach kws X.env)).all (·.1.isSome) = true) (hks : (backToKw pos (keywordEach kws X.env)).filterMap (·.1) = ks)
    (hdb : (x == ("__debug__" : Str)) = false) (he : starEach (e :: es) X.env = (false, eval e X.env) :: starEach es X.env)
    (hpl : ((backTo pos (starEach (e :: es) X.env)).any (·.1) || (backToKw pos (keywordEach kws X.env)).any (·.1.isNone)) = false) :
    PE X (.Call (.Name x p) (e :: es) kws pos) (tCallNS n ks.length sp gV E t tk) := by
  refine ⟨fun pins s σ H Q I h => ?_⟩
  refine wpAny_Call_Name_kw (ld_glob I hg hm ?_ hdb)
  refine PySem.W.callWith_KW (h₀ := X.base) I.ok.mod.kin hk hall (thn (ha.run pos pins s σ H _ I h) fun us s1 ⟨vs, H1, I1, r, q⟩ => ?_) hpl he
  refine thn (hkw.run pos pins s1 σ H1 _ I1 q) fun ws s2 ⟨zs, H2, I2, rz, l1, l2, q2⟩ => ⟨I2.kIn, ?_⟩
  rw [hks]
  exact run_fnNS F hr hb (hx σ) I2 r rz l1 l2 q2
theorem pe_callNS0 (F : FnOk X.prog X.w X.K X.mg X.base CX k f fd ps sp) (hr : Room k X.A) (hg : Gl X x) (hm : X.mg x = some (.ref f)) (hk : PySem.W.keepIn X.K (.ref f) = true) (hb : KBn X.K fd ps 0 ks gg gV) (hx : ∀ σ, PassesAt CX X σ (E σ))
    (hkw : PK X kws tk) (hall : (backToKw pos (keywordEach kws X.env)).all (·.1.isSome) = true) (hks : (backToKw pos (keywordEach kws X.env)).filterMap (·.1) = ks)
    (hdb : (x == ("__debug__" : Str)) = false)
    (hpl : ((backTo pos (starEach [] X.env)).any (·.1) || (backToKw pos (keywordEach kws X.env)).any (·.1.isNone)) = false) :
    PE X (.Call (.Name x p) [] kws pos) (tCallNS 0 ks.length sp gV E tNil tk) := by
  refine ⟨fun pins s σ H Q I h => ?_⟩
  refine wpAny_Call_Name_kw (ld_glob I hg hm ?_ hdb)
  refine PySem.W.callWith_KW0 (h₀ := X.base) I.ok.mod.kin hk hall ?_ hpl
  refine thn (hkw.run pos pins s σ H _ I h) fun ws s2 ⟨zs, H2, I2, rz, l1, l2, q2⟩ => ⟨I2.kIn, ?_⟩
  rw [hks]
  exact run_fnNS (us := []) (vs := []) F hr hb (hx σ) I2 .nil rz l1 l2 q2
end
theorem wpL_kw {n nk : Nat} {is : List Nat} {mf : MF} {fm : List T → MH → R} {nn : Nat} (cl : Calls2 X W nn mf fm) {ts : List T} {vs : List V} {s : SM} (R : Rel X.K X.mg g) (S : RepS X.K X.mg g s σ) (r : RepL X.K X.mg g ts vs)
    (h : wpR X.K X.mg W g σ Q ((mk s g.h).bind fun us h2 => if ts.length = n ∧ us.length = nk then fm (pick is (ts ++ us)) h2 else .stuck)) :
    tMA X.K X.mg W mk σ g.H fun zs H2 => vs.length = n ∧ zs.length = nk ∧ spM X.K X.mg nn mf (pick is (vs ++ zs)) H2 Q (WE W σ) := by
  refine ⟨g, s, rfl, R, S, wpL_of h fun g2 us zs e2 R2 r2 h2 => ?_⟩
  split at h2
  · rename_i q
    exact ⟨r.length.symm.trans q.1, r2.length.symm.trans q.2, cl g2 σ _ _ Q R2 (pick_repL ((r.mono e2).append r2) is) h2⟩
  · exact h2.elim
theorem se_hkw {k n : Nat} {qual : Str} {st : Stmt} {ps ks : List Str} {is : List Nat} {mf : MF} {fm : List T → MH → R} (h : HasX X k x qual st ps mf) (hr : Room k X.A) (tk : Takes X W) (cl : Calls2 X W ps.length mf fm) (hb : KwB st x qual ps n ks is) (ha : SA X W (e :: es) mr) (hkw : SK X W kws mk) (hg : Gl X x := by rfl)
    (hall : (backToKw pos (keywordEach kws X.env)).all (·.1.isSome) = true := by rfl) (hks : (backToKw pos (keywordEach kws X.env)).filterMap (·.1) = ks := by rfl)
    (hdb : (x == ("__debug__" : Str)) = false := by decide) (he : starEach (e :: es) X.env = (false, eval e X.env) :: starEach es X.env := by rfl)
    (hpl : ((backTo pos (starEach (e :: es) X.env)).any (·.1) || (backToKw pos (keywordEach kws X.env)).any (·.1.isNone)) = false := by rfl) :
    SE X W (.Call (.Name x p) (e :: es) kws pos) (mKw n ks.length is fm mr mk) := by
  obtain ⟨f, fd, F, hm, ok⟩ := h
  refine weakE (pe_callNS ok hr hg hm F.kp (kbn_of F hb) (fun σ => passAt tk σ) ha hkw hall hks hdb he hpl) ?_
  rintro σ H Q ⟨g, s, rfl, R, S, h⟩
  exact ⟨g, s, rfl, R, S, wpL_of h fun g1 ts vs e1 R1 r1 h1 => wpL_kw cl R1 (S.mono e1) r1 h1⟩
theorem se_hkw0 {k : Nat} {qual : Str} {st : Stmt} {ps ks : List Str} {is : List Nat} {mf : MF} {fm : List T → MH → R} (h : HasX X k x qual st ps mf) (hr : Room k X.A) (tk : Takes X W) (cl : Calls2 X W ps.length mf fm) (hb : KwB st x qual ps 0 ks is) (hkw : SK X W kws mk) (hg : Gl X x := by rfl)
    (hall : (backToKw pos (keywordEach kws X.env)).all (·.1.isSome) = true := by rfl) (hks : (backToKw pos (keywordEach kws X.env)).filterMap (·.1) = ks := by rfl)
    (hdb : (x == ("__debug__" : Str)) = false := by decide)
    (hpl : ((backTo pos (starEach [] X.env)).any (·.1) || (backToKw pos (keywordEach kws X.env)).any (·.1.isNone)) = false := by rfl) :
    SE X W (.Call (.Name x p) [] kws pos) (mKw 0 ks.length is fm aNil mk) := by
  obtain ⟨f, fd, F, hm, ok⟩ := h
  refine weakE (pe_callNS0 ok hr hg hm F.kp (kbn_of F hb) (fun σ => passAt tk σ) hkw hall hks hdb hpl) ?_
  rintro σ H Q ⟨g, s, rfl, R, S, h⟩
  exact wpL_kw (ts := []) cl R S RepL.nil h
end
end Mi
end part_Mi10
section part_Mi11
set_option maxRecDepth 100000
set_option maxHeartbeats 2000000
/-! Mi, part 11: small things for printed walks. -/
namespace Mi
open PySem PySem.Spec PyProof.Rows L2
theorem hu65 {k : Nat} {A : Around} (r : Room k A) : A.units + 65 < cLine := by have := r.un; omega
theorem blCmp {fi : Int → Int → Bool} {fs : List Nat → List Nat → Bool} : BlM (fCmp fi fs) := fun t u h => by
  unfold fCmp
  split
  · exact .inl ⟨_, rfl⟩
  · exact .inl ⟨_, rfl⟩
  · exact .inr rfl
theorem blLt : BlM fLt := blCmp
theorem blLe : BlM fLe := blCmp
theorem blGt : BlM fGt := blCmp
theorem blGe : BlM fGe := blCmp
theorem blEq : BlM fEq := fun t u h => by
  unfold fEq with2
  repeat' split
  all_goals first | exact .inl ⟨_, rfl⟩ | exact .inr rfl
theorem blNe : BlM fNe := fun t u h => by
  unfold fNe with2
  repeat' split
  all_goals first | exact .inl ⟨_, rfl⟩ | exact .inr rfl
theorem blIs {neg : Bool} : BlM (fIs neg) := fun t u h => by
  unfold fIs
  repeat' split
  all_goals first | exact .inl ⟨_, rfl⟩ | exact .inr rfl
theorem blIn {neg : Bool} : BlM (fIn neg) := fun t u h => by
  unfold fIn
  repeat' split
  all_goals first | exact .inl ⟨_, rfl⟩ | exact .inr rfl
/-- nothing is promised -/
theorem fnOk_stuck {P : Program} {w : World} {K : PySem.W.Frag} {mg : Str → Option Value} {base : Heap} {x qual : Str} {params : Arguments} {body : List Stmt} {scope : Scope} {dvs : List V} {kws : List (Str × V)} {f : Addr} {fd : FuncData} {N ps : List Str} {k : Nat}
    (F : FunD K x qual params body scope dvs kws f fd) (S : FnScope N ps scope) : FnOk P w K mg base (L2.CX P w) (k + 1) f fd ps (spM K mg ps.length fun _ _ => .stuck) :=
  F.ok S (fun vs H Q E h => spM_len h) fun cdv A outer s H vs Q E hr h => by
    obtain ⟨g, ts, _, _, _, _, h⟩ := h
    exact h.elim
theorem blkOk_at {X : Cx} {N : List Str} {sc scope : Scope} {own : List (Str × Nat)} (hN : X.N = N) (hs : X.env.scope = sc) (h : blkC N sc scope own = true) : BlkOk X.N X.env.scope scope own := by
  subst hN hs
  exact blkOk_by h
/-- def_ok, what every body wants at hand -/
theorem def_ok2 {P : Program} {w : World} {K : PySem.W.Frag} {mg : Str → Option Value} {base : Heap} {x qual : Str} {params : Arguments} {body : List Stmt} {scope : Scope} {dvs : List V} {kws : List (Str × V)} {f : Addr} {fd : FuncData} {N ps : List Str} {k n : Nat} {mb : MS}
    (F : FunD K x qual params body scope dvs kws f fd) (S : FnScope N ps scope) (hn : ps.length = n)
    (hbody : ∀ (cdv : Value) (A : Around) (outer : List Env) (s : Shared) (H : Hp) (E : XK), Room k (A.deeper (envOfC qual scope s.heap.objs.size f cdv)) →
      Takes (cxOf (L2.CX P w) P w K mg base N qual scope f cdv A outer s H E) (fun cls d _ H => E cls d H) →
      PassesOwn (model P w) (A.deeper (envOfC qual scope s.heap.objs.size f cdv)) (envOfC qual scope s.heap.objs.size f cdv) (cxOf (L2.CX P w) P w K mg base N qual scope f cdv A outer s H E).xe →
      SSs (cxOf (L2.CX P w) P w K mg base N qual scope f cdv A outer s H E) (fun cls d _ H => E cls d H) body mb) :
    FnOk P w K mg base (L2.CX P w) (k + 1) f fd ps (spM K mg n (mDef N.length mb)) :=
  def_ok F S hn fun cdv A outer s H E hr => hbody cdv A outer s H E hr (takes_of rfl rfl rfl rfl) (passes_of rfl)
end Mi
end part_Mi11
section part_Mi12
set_option maxRecDepth 100000
set_option maxHeartbeats 2000000
/-! Mi, part 12: constants of the module, the law's promise, the head's facts. -/
namespace Mi
open PySem PySem.Spec PyProof.Rows L2
/-! the value u, read in K, is the tree t -/
mutual
def kT (K : PySem.W.Frag) : T → Value → Bool
  | .non, .none => true
  | .bl b, .bool c => decide (b = c)
  | .int i, .int j _ => decide (i = j)
  | .str x, .str y _ => decide (x = y)
  | .tup xs, .ref a => match K.lookup a with
    | some ⟨.type c, _, .seq its _, _⟩ => decide (c = "tuple") && (decide (its.size ≤ sizeLine) && kTs K xs its.toList)
    | _ => false
  | .frl xs, .ref a => match K.lookup a with
    | some ⟨.type c, none, .seq its _, _⟩ => decide (c = "list") && (decide (its.size ≤ sizeLine) && kTs K xs its.toList)
    | _ => false
  | _, _ => false
def kTs (K : PySem.W.Frag) : List T → List Value → Bool
  | [], [] => true
  | t :: ts, u :: us => kT K t u && kTs K ts us
  | _, _ => false
end
def kV (K : PySem.W.Frag) (x : Str) (t : T) : Bool := match PySem.W.nsIn K mainGlobals x with
  | some (some u) => kT K t u
  | _ => false
theorem bb {a b : Bool} (h : (a && b) = true) : a = true ∧ b = true := Bool.and_eq_true_iff.mp h
theorem kTs_of {K : PySem.W.Frag} {mg : Str → Option Value} : ∀ {ts : List T} {us : List Value}, (∀ t ∈ ts, ∀ u, kT K t u = true → ∃ v, RelV v u ∧ ∀ g, Rep K mg g t v) → kTs K ts us = true → ∃ vs, Vals vs us ∧ ∀ g, RepL K mg g ts vs
  | [], [], _, _ => ⟨[], .nil, fun _ => RepL.nil⟩
  | [], _ :: _, _, h => by simp [kTs] at h
  | _ :: _, [], _, h => by simp [kTs] at h
  | t :: ts, u :: us, f, h => by
    simp only [kTs] at h
    obtain ⟨h1, h2⟩ := bb h
    obtain ⟨v, r, q⟩ := f t List.mem_cons_self u h1
    obtain ⟨vs, rs, qs⟩ := kTs_of (fun t ht => f t (List.mem_cons_of_mem _ ht)) h2
    exact ⟨v :: vs, .cons r rs, fun g => RepL.cons (q g) (qs g)⟩
theorem kT_of {K : PySem.W.Frag} {mg : Str → Option Value} : ∀ (t : T) (u : Value), kT K t u = true → ∃ v, RelV v u ∧ ∀ g, Rep K mg g t v := by
  intro t
  induction t using T.ind with
  | non => intro u h; cases u <;> first | exact ⟨.non, rfl, fun g => rNon⟩ | (simp [kT] at h)
  | bl b => intro u h; cases u <;> first | (simp [kT] at h; subst h; exact ⟨.bl _, rfl, fun g => rBl⟩) | (simp [kT] at h)
  | int i => intro u h; cases u <;> first | (simp [kT] at h; subst h; exact ⟨.int _, ⟨_, rfl⟩, fun g => rInt⟩) | (simp [kT] at h)
  | str x => intro u h; cases u <;> first | (simp [kT] at h; subst h; exact ⟨.str _, ⟨_, rfl⟩, fun g => rStr⟩) | (simp [kT] at h)
  | tup xs ih =>
    intro u h
    cases u with
    | ref a =>
      simp only [kT] at h
      split at h
      · rename_i c dd its n sl q
        obtain ⟨h1, h2⟩ := bb h
        obtain ⟨h2, h3⟩ := bb h2
        obtain ⟨vs, rs, qs⟩ := kTs_of ih h3
        refine ⟨.ref a, rfl, fun g => ?_⟩
        simp only [Rep]
        exact ⟨a, vs, rfl, .inr ⟨_, its, n, q, congrArg Value.type (of_decide_eq_true h1), rfl, of_decide_eq_true h2, rs⟩, qs g⟩
      · cases h
    | _ => simp [kT] at h
  | lst xs ih => intro u h; cases u <;> simp [kT] at h
  | frl xs ih =>
    intro u h
    cases u with
    | ref a =>
      simp only [kT] at h
      split at h
      · rename_i c its n sl q
        obtain ⟨h1, h2⟩ := bb h
        obtain ⟨h2, h3⟩ := bb h2
        obtain ⟨vs, rs, qs⟩ := kTs_of ih h3
        refine ⟨.ref a, rfl, fun g => ?_⟩
        simp only [Rep]
        exact ⟨a, vs, rfl, .inr ⟨_, its, n, q, congrArg Value.type (of_decide_eq_true h1), rfl, rfl, of_decide_eq_true h2, rs⟩, qs g⟩
      · cases h
    | _ => simp [kT] at h
  | dct ks vs _ _ => intro u h; cases u <;> simp [kT] at h
  | obj c ns vs _ => intro u h; cases u <;> simp [kT] at h
  | ref i => intro u h; cases u <;> simp [kT] at h
abbrev GlobAt (K : PySem.W.Frag) (mg : Str → Option Value) (x : Str) (t : T) : Prop := ∃ (v : V) (u : Value), mg x = some u ∧ RelV v u ∧ ∀ g, Rep K mg g t v
theorem kV_of {K : PySem.W.Frag} {mg : Str → Option Value} {h : Heap} {x : Str} {t : T} (X : K.In h) (G : h.Ns mainGlobals mg) (e : kV K x t = true) : GlobAt K mg x t := by
  unfold kV at e
  split at e
  · rename_i u q
    obtain ⟨v, r, z⟩ := kT_of t u e
    exact ⟨v, u, PySem.W.mg_of X G q, r, z⟩
  · cases e
/-- the law's promise -/
theorem law_sp {K : PySem.W.Frag} {mg : Str → Option Value} {m : MF} {ns : List Int} {H : Hp} {a : Addr} (hm : ∃ h', m [.frl (ns.map T.int)] [] = .ok (.bl true) h') (hO : Only H) (hS : SqL K H a (ns.map V.int)) :
    spM K mg 1 m [.ref a] H (fun v _ => v = .bl true) (fun _ _ _ => False) := by
  obtain ⟨h', e⟩ := hm
  refine ⟨⟨[], [], [], H⟩, [.frl (ns.map T.int)], rfl, ⟨rfl, fun i j a h => by simp at h, fun a h => by simp at h, fun a h => by simp at h, fun i a h => by simp at h, fun i a o h => by simp at h⟩, RepL.cons ?_ RepL.nil, rfl, ?_⟩
  · have nh : ¬ G.hid ⟨[], [], [], H⟩ a := by
      rintro (z | ⟨i, o, z, _⟩)
      · simp at z
      · simp at z
    simp only [Rep]
    refine ⟨a, ns.map V.int, rfl, ?_, RepL.ints ns⟩
    rcases hS with (hS | hS) | hS
    · rcases hO a with z | ⟨o, xs, z⟩
      · have hS' : H a = some (HO.lst (ns.map V.int)) := hS
        rw [z] at hS'; cases hS'
      · have hS' : H a = some (HO.lst (ns.map V.int)) := hS
        rw [z] at hS'; cases hS'
    · exact .inl ⟨hS, nh⟩
    · exact .inr hS
  · rw [e]
    exact fun g' v _ _ _ r => rep_bl r
/-- a def without exceptions -/
theorem fnOk_nox {P : Program} {w : World} {K : PySem.W.Frag} {mg : Str → Option Value} {base : Heap} {k : Nat} {f : Addr} {fd : FuncData} {ps : List Str} {sp : Sp} (F : FnOk P w K mg base (L2.CX P w) k f fd ps sp) :
    FnOk P w K mg base CX0 k f fd ps (fun vs H Q _ => sp vs H Q fun _ _ _ => False) :=
  ⟨fun vs H Q E q => F.len vs H Q _ q, fun A outer s H args us vs Q E hr he hb hv hs => codeAny_mono (F.run A outer s H args us vs Q _ hr he hb hv hs) fun r s' hq => by
    cases r with
    | ok fl => cases fl <;> exact hq
    | error e =>
      obtain ⟨_, _, _, _, _, _, _, _, _, _, _, _, z⟩ := hq
      exact z.elim⟩
theorem funD_one {K : PySem.W.Frag} {x qual : Str} {params : Arguments} {body : List Stmt} {scope : Scope} {dvs dvs' : List V} {kws kws' : List (Str × V)} {f : Addr} {fd fd' : FuncData} (F : FunD K x qual params body scope dvs kws f fd) (F' : FunD K x qual params body scope dvs' kws' f fd') : fd = fd' := by
  obtain ⟨_, _, _, _, _, _, _, _, _, _, rfl, h, _⟩ := F.ex
  obtain ⟨_, _, _, _, _, _, _, _, _, _, rfl, h', _⟩ := F'.ex
  rw [h] at h'
  injection h' with h'
  injection h' with _ _ h' _
  injection h'
/-- the law's def, as the head wants it -/
theorem law_at {P : Program} {w : World} {K : PySem.W.Frag} {mg : Str → Option Value} {base : Heap} {k : Nat} {x qual : Str} {st : Stmt} {ps : List Str} {m : MF} {f : Addr} {fd : FuncData} (F : FunD K x qual (defArgs st) (defBody st) (defScope st) [] [] f fd) (hm : mg x = some (.ref f)) (h : Has P w K mg base k x qual st ps m) :
    FnOk P w K mg base CX0 k f fd ps (fun vs H Q _ => spM K mg ps.length m vs H Q fun _ _ _ => False) := by
  obtain ⟨f', fd', F', hm', ok⟩ := h
  cases hm.symm.trans hm'
  cases funD_one F F'
  exact fnOk_nox ok
/-! ### the head's facts -/
theorem says_d {fa : List He.Fa} {fn : List He.DefD} {ex : PySem.W.Frag → Bool} {w : World} {h : Heap} {K : PySem.W.Frag} (c : He.SaysX fa fn [] [] ex w h K) : He.SaysD fa fn K := congrArg Prod.fst c.t
end Mi
end part_Mi12
section part_Bg
set_option maxRecDepth 100000
set_option maxHeartbeats 2000000
/-! Bg: the law's bag of draws, once for all laws. -/
namespace Mi
open PySem PySem.Spec PyProof.Rows L2
def mBagL : MF := mDef 4 ((mSq (mSet 1 (mA fList (aCons (mSl (mVar 0) (mC .non) (m1 fPart (mC (.int 63)))) aNil)))
    (mSq (mSet 2 (m2 fAdd (mC (.int 5608)) (m2 fMul (mC (.int 31)) (mA fLen (aCons (mVar 1) aNil)))))
    (mSq (mFor (mSrc (mVar 1)) (gN 3) (mSq (mSet 2 (m2 fMod (mA fInt (aCons (m2 fAdd (m2 fAdd (m2 fMul (mVar 2) (mC (.int 47093))) (m2 fMod (mA fInt (aCons (mVar 3) aNil)) (mC (.int 2147483389)))) (mC (.int 17))) aNil)) (mC (.int 2147483549))))
    mNx))
    (mSq (mRet (mA fLstN (aCons (mVar 1) (aCons (mC (.int 0)) (aCons (mC (.int 0)) (aCons (mVar 2) aNil))))))
    mNx)))))
def mDrawL : MF := mDef 5 ((mSq (mIfS (mAnd (m2 fEq (m2 fIx (mVar 0) (mC (.int 2))) (mC (.int 0))) (m2 fLt (m2 fIx (mVar 0) (mC (.int 1))) (mA fLen (aCons (m2 fIx (mVar 0) (mC (.int 0))) aNil)))) (mSq (mSet 2 (m2 fIx (m2 fIx (mVar 0) (mC (.int 0))) (m2 fIx (mVar 0) (mC (.int 1)))))
    (mSq (mAs (m2 fAdd (m2 fIx (mVar 0) (mC (.int 1))) (mC (.int 1))) (gSt (mVar 0) (mC (.int 1))))
    (mSq (mIfS (m2 fGe (mVar 2) (m2 fPow (mC (.int 10)) (mC (.int 18)))) (mSq (mAs (mVar 2) (gSt (mVar 0) (mC (.int 2))))
    mNx) (mSq (mSet 4 (m2 fAdd (m2 fMul (m2 fIx (mVar 0) (mC (.int 3))) (mC (.int 41381))) (m2 fMod (mA fInt (aCons (mVar 2) aNil)) (mC (.int 2000000033)))))
    (mSq (mAs (m2 fMod (mA fInt (aCons (m2 fAdd (mVar 4) (m2 fIx (mVar 0) (mC (.int 1)))) aNil)) (mC (.int 2147483549))) (gSt (mVar 0) (mC (.int 3))))
    mNx)))
    mNx))) mNx)
    (mSq (mIfS (m2 fGt (m2 fIx (mVar 0) (mC (.int 2))) (mC (.int 0))) (mSq (mSet 3 (m2 fMod (mA fInt (aCons (m2 fIx (mVar 0) (mC (.int 2))) aNil)) (mVar 1)))
    (mSq (mAs (m2 fFdiv (m2 fIx (mVar 0) (mC (.int 2))) (mVar 1)) (gSt (mVar 0) (mC (.int 2))))
    (mSq (mRetF (mVar 3))
    mNx))) mNx)
    (mSq (mAs (m2 fMod (mA fInt (aCons (m2 fAdd (m2 fMul (m2 fIx (mVar 0) (mC (.int 3))) (mC (.int 45137))) (mC (.int 1019))) aNil)) (mC (.int 2147483549))) (gSt (mVar 0) (mC (.int 3))))
    (mSq (mRetF (m2 fMod (mA fInt (aCons (m2 fFdiv (m2 fMod (mA fInt (aCons (m2 fMul (m2 fIx (mVar 0) (mC (.int 3))) (m2 fIx (mVar 0) (mC (.int 3)))) aNil)) (mC (.int 999999929))) (mC (.int 37))) aNil)) (mVar 1)))
    mNx)))))
def bagO (row : List Int) (p c m : Int) : MO := .lst [.lst (row.map .int), .int p, .int c, .int m]
structure Bag (h : MH) (i : Nat) : Prop where
  ex : ∃ (row : List Int) (p c m : Int), h[i]? = some (bagO row p c m) ∧ row.length ≤ 63 ∧ 0 ≤ p ∧ 0 ≤ c ∧ 0 ≤ m ∧ m < 2147483549
theorem bIx {i : Nat} {h : MH} {row : List Int} {p c m : Int} (e : h[i]? = some (bagO row p c m)) :
    fIx (.ref i) (.int 0) h = .ok (.lst (row.map .int)) h ∧ fIx (.ref i) (.int 1) h = .ok (.int p) h ∧ fIx (.ref i) (.int 2) h = .ok (.int c) h ∧ fIx (.ref i) (.int 3) h = .ok (.int m) h := by
  have z : seqOf (.ref i) h = some [.lst (row.map .int), .int p, .int c, .int m] := by simp only [seqOf, e, bagO]
  have q : ∀ k, fIx (.ref i) (.int k) h = match seqOf (.ref i) h with
      | some xs => match atI xs k with
        | some z => .ok z h
        | none => .stuck
      | none => .stuck := fun k => rfl
  refine ⟨?_, ?_, ?_, ?_⟩ <;> (rw [q, z]; rfl)
theorem bSt {i : Nat} {h : MH} {row : List Int} {p c m : Int} {s : SM} (e : h[i]? = some (bagO row p c m)) (hs : s[0]? = some (some (.ref i))) (x : Int) :
    gSt (mVar 0) (mC (.int 1)) (.int x) s h = .ok s (h.set i (bagO row x c m)) ∧ gSt (mVar 0) (mC (.int 2)) (.int x) s h = .ok s (h.set i (bagO row p x m)) ∧ gSt (mVar 0) (mC (.int 3)) (.int x) s h = .ok s (h.set i (bagO row p c x)) := by
  have e2 : liveL (.ref i) h = some (i, [.lst (row.map .int), .int p, .int c, .int m]) := by
    simp only [liveL, e, bagO]
  refine ⟨?_, ?_, ?_⟩ <;> (simp only [gSt, mVar, mC, hs, e2]; rfl)
theorem bGet {i : Nat} {h : MH} {o o' : MO} (e : h[i]? = some o) : (h.set i o')[i]? = some o' := List.getElem?_set_self (List.getElem?_eq_some_iff.mp e).1
theorem mulOk_l {a b : Int} (h1 : -18446744073709551616 < a) (h2 : a < 18446744073709551616) : mulOk a b = true := by
  unfold mulOk
  simp only [Bool.or_eq_true, Bool.and_eq_true, decide_eq_true_eq]
  exact .inl ⟨h1, h2⟩
theorem mulOk_r {a b : Int} (h1 : -18446744073709551616 < b) (h2 : b < 18446744073709551616) : mulOk a b = true := by
  unfold mulOk
  simp only [Bool.or_eq_true, Bool.and_eq_true, decide_eq_true_eq]
  exact .inr ⟨h1, h2⟩
theorem fMul_l {a b : Int} {h : MH} (h1 : -18446744073709551616 < a) (h2 : a < 18446744073709551616) : fMul (.int a) (.int b) h = .ok (.int (a * b)) h := by
  show (if mulOk a b then R.ok (.int (a * b)) h else .stuck) = _
  rw [mulOk_l h1 h2]; rfl
theorem fMul_r {a b : Int} {h : MH} (h1 : -18446744073709551616 < b) (h2 : b < 18446744073709551616) : fMul (.int a) (.int b) h = .ok (.int (a * b)) h := by
  show (if mulOk a b then R.ok (.int (a * b)) h else .stuck) = _
  rw [mulOk_r h1 h2]; rfl
theorem fMod_ok {a b : Int} {h : MH} (h1 : 0 < b) : fMod (.int a) (.int b) h = .ok (.int (a % b)) h := by
  show (if decide (0 < b) = true then R.ok (.int (a % b)) h else .stuck) = _
  rw [decide_eq_true h1]; rfl
theorem fFdiv_ok {a b : Int} {h : MH} (h1 : 0 < b) (h2 : b < 1073741824) : fFdiv (.int a) (.int b) h = .ok (.int (a / b)) h := by
  show (if (decide (0 < b) && decide (b < 1073741824)) = true then R.ok (.int (a / b)) h else .stuck) = _
  rw [decide_eq_true h1, decide_eq_true h2]; rfl
theorem fAdd_i {a b : Int} {h : MH} : fAdd (.int a) (.int b) h = .ok (.int (a + b)) h := rfl
theorem fInt_i {a : Int} {h : MH} : fInt [.int a] h = .ok (.int a) h := rfl
theorem fEq_i {a b : Int} {h : MH} : fEq (.int a) (.int b) h = .ok (.bl (decide (a = b))) h := by
  show R.ok (T.bl (PyData.eqv (.int a) (.int b))) h = _
  congr 2
  try (simp [PyData.eqv]) 
theorem fLt_i {a b : Int} {h : MH} : fLt (.int a) (.int b) h = .ok (.bl (decide (a < b))) h := rfl
theorem fGt_i {a b : Int} {h : MH} : fGt (.int a) (.int b) h = .ok (.bl (decide (b < a))) h := rfl
theorem fGe_i {a b : Int} {h : MH} : fGe (.int a) (.int b) h = .ok (.bl (decide (b ≤ a))) h := rfl
theorem fLen_l {xs : List T} {h : MH} : fLen [.lst xs] h = .ok (.int xs.length) h := rfl
/-- the second half of a draw -/
def mDraw2 : MS := mSq (mIfS (m2 fGt (m2 fIx (mVar 0) (mC (.int 2))) (mC (.int 0))) (mSq (mSet 3 (m2 fMod (mA fInt (aCons (m2 fIx (mVar 0) (mC (.int 2))) aNil)) (mVar 1)))
    (mSq (mAs (m2 fFdiv (m2 fIx (mVar 0) (mC (.int 2))) (mVar 1)) (gSt (mVar 0) (mC (.int 2))))
    (mSq (mRetF (mVar 3))
    mNx))) mNx)
    (mSq (mAs (m2 fMod (mA fInt (aCons (m2 fAdd (m2 fMul (m2 fIx (mVar 0) (mC (.int 3))) (mC (.int 45137))) (mC (.int 1019))) aNil)) (mC (.int 2147483549))) (gSt (mVar 0) (mC (.int 3))))
    (mSq (mRetF (m2 fMod (mA fInt (aCons (m2 fFdiv (m2 fMod (mA fInt (aCons (m2 fMul (m2 fIx (mVar 0) (mC (.int 3))) (m2 fIx (mVar 0) (mC (.int 3)))) aNil)) (mC (.int 999999929))) (mC (.int 37))) aNil)) (mVar 1)))
    mNx))
theorem draw2_ok {h : MH} {i : Nat} {many : Int} {s2 s3 s4 : Option T} {row : List Int} {p c m : Int} (e : h[i]? = some (bagO row p c m)) (h1 : 1 ≤ many) (h2 : many ≤ 1000000) (hc : 0 ≤ c) (hm0 : 0 ≤ m) (hm1 : m < 2147483549) :
    ∃ (r : Int) (c' m' : Int), mDraw2 [some (.ref i), some (.int many), s2, s3, s4] h = .rt (.int r) (h.set i (bagO row p c' m')) ∧ 0 ≤ r ∧ r < many ∧ 0 ≤ c' ∧ 0 ≤ m' ∧ m' < 2147483549 := by
  obtain ⟨e0, e1, e2, e3⟩ := bIx e
  unfold mDraw2
  by_cases q : 0 < c
  · refine ⟨c % many, c / many, m, ?_, Int.emod_nonneg _ (by omega), Int.emod_lt_of_pos _ (by omega), Int.ediv_nonneg hc (by omega), hm0, hm1⟩
    have st := (bSt (s := [some (.ref i), some (.int many), s2, some (.int (c % many)), s4]) e rfl (c / many)).2.1
    simp only [mSq, mIfS, m2, mVar, mC, R.bind, R.toS, e2, fGt_i, decide_eq_true q, fIfS, mSet, mA, aCons, aNil, RL.bind, fInt_i, fMod_ok (show (0 : Int) < many by omega), List.getElem?_cons_zero, List.getElem?_cons_succ, List.set_cons_succ, List.set_cons_zero,
      mAs, fFdiv_ok (show (0 : Int) < many by omega) (show many < 1073741824 by omega), st, mRetF, fzT]
  · refine ⟨((((m * 45137 + 1019) % 2147483549) * ((m * 45137 + 1019) % 2147483549)) % 999999929 / 37) % many, c, (m * 45137 + 1019) % 2147483549, ?_, Int.emod_nonneg _ (by omega), Int.emod_lt_of_pos _ (by omega), hc, Int.emod_nonneg _ (by omega), Int.emod_lt_of_pos _ (by omega)⟩
    have st := (bSt (s := [some (.ref i), some (.int many), s2, s3, s4]) e rfl ((m * 45137 + 1019) % 2147483549)).2.2
    obtain ⟨_, _, _, z3⟩ := bIx (bGet (o' := bagO row p c ((m * 45137 + 1019) % 2147483549)) e)
    have b0 := Int.emod_nonneg (m * 45137 + 1019) (show (2147483549 : Int) ≠ 0 by omega)
    have b1 := Int.emod_lt_of_pos (m * 45137 + 1019) (show (0 : Int) < 2147483549 by omega)
    simp only [mSq, mIfS, m2, mVar, mC, R.bind, R.toS, e2, e3, fGt_i, decide_eq_false q, fIfS, mSet, mA, aCons, aNil, RL.bind, fInt_i, fAdd_i, fMul_l (show -18446744073709551616 < m by omega) (show m < 18446744073709551616 by omega), fMod_ok (show (0 : Int) < many by omega), fMod_ok (show (0 : Int) < 2147483549 by omega), fMod_ok (show (0 : Int) < 999999929 by omega), List.getElem?_cons_zero, List.getElem?_cons_succ, List.set_cons_succ, List.set_cons_zero,
      mAs, fFdiv_ok (show (0 : Int) < 37 by omega) (show (37 : Int) < 1073741824 by omega), st, z3, mRetF, fzT, mNx, fMul_l (show -18446744073709551616 < (m * 45137 + 1019) % 2147483549 by omega) (show (m * 45137 + 1019) % 2147483549 < 18446744073709551616 by omega)]
def mDraw1 : MS := mIfS (mAnd (m2 fEq (m2 fIx (mVar 0) (mC (.int 2))) (mC (.int 0))) (m2 fLt (m2 fIx (mVar 0) (mC (.int 1))) (mA fLen (aCons (m2 fIx (mVar 0) (mC (.int 0))) aNil)))) (mSq (mSet 2 (m2 fIx (m2 fIx (mVar 0) (mC (.int 0))) (m2 fIx (mVar 0) (mC (.int 1)))))
    (mSq (mAs (m2 fAdd (m2 fIx (mVar 0) (mC (.int 1))) (mC (.int 1))) (gSt (mVar 0) (mC (.int 1))))
    (mSq (mIfS (m2 fGe (mVar 2) (m2 fPow (mC (.int 10)) (mC (.int 18)))) (mSq (mAs (mVar 2) (gSt (mVar 0) (mC (.int 2))))
    mNx) (mSq (mSet 4 (m2 fAdd (m2 fMul (m2 fIx (mVar 0) (mC (.int 3))) (mC (.int 41381))) (m2 fMod (mA fInt (aCons (mVar 2) aNil)) (mC (.int 2000000033)))))
    (mSq (mAs (m2 fMod (mA fInt (aCons (m2 fAdd (mVar 4) (m2 fIx (mVar 0) (mC (.int 1)))) aNil)) (mC (.int 2147483549))) (gSt (mVar 0) (mC (.int 3))))
    mNx)))
    mNx))) mNx
theorem fIx_l {xs : List T} {k : Int} {h : MH} {n : Nat} {t : T} (h1 : 0 ≤ k) (h2 : k < xs.length) (h3 : xs[k.toNat]? = some t) : fIx (.lst xs) (.int k) h = .ok t h := by
  have e : atI xs k = some t := by
    unfold atI ixN
    rw [if_pos h1, if_pos h2]
    exact h3
  show (match atI xs k with
    | some z => R.ok z h
    | none => .stuck) = _
  rw [e]
theorem fPow_18 {h : MH} : fPow (.int 10) (.int 18) h = .ok (.int 1000000000000000000) h := rfl
theorem draw1_ok {h : MH} {i : Nat} {many : Int} {row : List Int} {p c m : Int} (e : h[i]? = some (bagO row p c m)) (hp : 0 ≤ p) (hc : 0 ≤ c) (hm0 : 0 ≤ m) (hm1 : m < 2147483549) :
    ∃ (s2 s3 s4 : Option T) (p' c' m' : Int), mDraw1 [some (.ref i), some (.int many), none, none, none] h = .nx [some (.ref i), some (.int many), s2, s3, s4] (h.set i (bagO row p' c' m')) ∧ 0 ≤ p' ∧ 0 ≤ c' ∧ 0 ≤ m' ∧ m' < 2147483549 := by
  obtain ⟨e0, e1, e2, e3⟩ := bIx e
  have hself : h.set i (bagO row p c m) = h := by
    apply List.ext_getElem?
    intro k
    by_cases w : i = k
    · subst w
      rw [bGet e, e]
    · rw [List.getElem?_set_ne w]
  unfold mDraw1
  by_cases q : c = 0
  · by_cases q2 : p < row.length
    · have hx : (row.map T.int)[p.toNat]? = some (.int (row[p.toNat]'(by omega))) := by simp [List.getElem?_eq_getElem (show p.toNat < row.length by omega)]
      have hlen : ((row.map T.int).length : Int) = (row.length : Int) := by simp
      have hfx := fIx_l (n := 0) (h := h) hp (by rw [hlen]; exact q2) hx
      generalize row[p.toNat]'(by omega) = cell at hx hfx
      have st1 := (bSt (s := [some (.ref i), some (.int many), some (.int cell), none, none]) e rfl (p + 1)).1
      have g1 : (h.set i (bagO row (p + 1) c m))[i]? = some (bagO row (p + 1) c m) := bGet e
      obtain ⟨f0, f1, f2, f3⟩ := bIx g1
      by_cases q3 : 1000000000000000000 ≤ cell
      · refine ⟨some (.int cell), none, none, p + 1, cell, m, ?_, by omega, by omega, hm0, hm1⟩
        have st2 := (bSt (s := [some (.ref i), some (.int many), some (.int cell), none, none]) g1 rfl cell).2.1
        rw [List.set_set] at st2
        simp only [mSq, mIfS, mAnd, fAnd, m2, mVar, mC, R.bind, R.toS, e0, e1, e2, fEq_i, decide_eq_true q, fLen_l, hlen, fLt_i, decide_eq_true q2, fIfS, mSet, mA, aCons, aNil, RL.bind, fInt_i, List.getElem?_cons_zero, List.getElem?_cons_succ, List.set_cons_succ, List.set_cons_zero,
          hfx, mAs, fAdd_i, st1, fPow_18, fGe_i, decide_eq_true q3, st2, mNx]
      · refine ⟨some (.int cell), none, some (.int (m * 41381 + cell % 2000000033)), p + 1, c, (m * 41381 + cell % 2000000033 + (p + 1)) % 2147483549, ?_, by omega, hc, Int.emod_nonneg _ (by omega), Int.emod_lt_of_pos _ (by omega)⟩
        have st2 := (bSt (s := [some (.ref i), some (.int many), some (.int cell), none, some (.int (m * 41381 + cell % 2000000033))]) g1 rfl ((m * 41381 + cell % 2000000033 + (p + 1)) % 2147483549)).2.2
        rw [List.set_set] at st2
        simp only [mSq, mIfS, mAnd, fAnd, m2, mVar, mC, R.bind, R.toS, e0, e1, e2, fEq_i, decide_eq_true q, fLen_l, hlen, fLt_i, decide_eq_true q2, fIfS, mSet, mA, aCons, aNil, RL.bind, fInt_i, List.getElem?_cons_zero, List.getElem?_cons_succ, List.set_cons_succ, List.set_cons_zero,
          hfx, mAs, fAdd_i, st1, fPow_18, fGe_i, decide_eq_false q3, f3, f1, fMul_l (show -18446744073709551616 < m by omega) (show m < 18446744073709551616 by omega), fMod_ok (show (0 : Int) < 2147483549 by omega), fMod_ok (show (0 : Int) < 2000000033 by omega), st2, mNx]
    · refine ⟨none, none, none, p, c, m, ?_, hp, hc, hm0, hm1⟩
      have hlen : ((row.map T.int).length : Int) = (row.length : Int) := by simp
      rw [hself]
      simp only [mIfS, mAnd, fAnd, m2, mVar, mC, R.bind, R.toS, e0, e1, e2, fEq_i, decide_eq_true q, fLen_l, hlen, fLt_i, decide_eq_false q2, fIfS, mA, aCons, aNil, RL.bind, List.getElem?_cons_zero, List.getElem?_cons_succ, mNx]
  · refine ⟨none, none, none, p, c, m, ?_, hp, hc, hm0, hm1⟩
    rw [hself]
    simp only [mIfS, mAnd, fAnd, m2, mVar, mC, R.bind, R.toS, e2, fEq_i, decide_eq_false q, fIfS, List.getElem?_cons_zero, List.getElem?_cons_succ, mNx]
/-- what stays -/
structure Keeps (i : Nat) (h h' : MH) : Prop where
  len : h'.length = h.length
  get : ∀ j, j ≠ i → h'[j]? = h[j]?
theorem draw_ok {h : MH} {i : Nat} {many : Int} (B : Bag h i) (h1 : 1 ≤ many) (h2 : many ≤ 1000000) : ∃ (r : Int) (h' : MH), mDrawL [.ref i, .int many] h = .ok (.int r) h' ∧ 0 ≤ r ∧ r < many ∧ Bag h' i ∧ Keeps i h h' := by
  obtain ⟨row, p, c, m, e, hl, hp, hc, hm0, hm1⟩ := B.ex
  obtain ⟨s2, s3, s4, p', c', m', q1, hp', hc', hm0', hm1'⟩ := draw1_ok (many := many) e hp hc hm0 hm1
  have g1 : (h.set i (bagO row p' c' m'))[i]? = some (bagO row p' c' m') := bGet e
  obtain ⟨r, c2, m2, q2, r0, r1, hc2, hm2, hm3⟩ := draw2_ok (s2 := s2) (s3 := s3) (s4 := s4) g1 h1 h2 hc' hm0' hm1'
  rw [List.set_set] at q2
  refine ⟨r, h.set i (bagO row p' c2 m2), ?_, r0, r1, ⟨row, p', c2, m2, bGet e, hl, hp', hc2, hm2, hm3⟩, ⟨List.length_set, fun j hj => List.getElem?_set_ne (Ne.symm hj)⟩⟩
  show (match (match mDraw1 [some (.ref i), some (.int many), none, none, none] h with
    | .nx s1 h1 => mDraw2 s1 h1
    | r => r) with
    | .nx _ h1 => R.ok .non h1
    | .rt t h1 => .ok t h1
    | .ex x _ h1 => .ex x h1
    | _ => .stuck) = _
  rw [q1]
  dsimp only
  rw [q2]
end Mi
end part_Bg
section part_Bh
set_option maxRecDepth 100000
set_option maxHeartbeats 2000000
/-! Bh: walks of comprehensions and loops, the bag made, a draw from a list, alike. -/
namespace Mi
open PySem PySem.Spec PyProof.Rows L2
theorem lc_fm {mgt : MG} {mt me : ME} {s0 : SM} {h : MH} {p : T → Bool} {f : T → T} : ∀ (xs acc : List T), (∀ x ∈ xs, ∃ s1, mgt x s0 h = .ok s1 h ∧ mt s1 h = .ok (.bl (p x)) h ∧ (p x = true → me s1 h = .ok (f x) h)) → acc.length + xs.length ≤ big →
    lcFrom mgt mt me s0 xs acc h = .ok (.lst (acc ++ (xs.filter p).map f)) h
  | [], acc, _, _ => by simp [lcFrom]
  | x :: xs, acc, hx, hl => by
    obtain ⟨s1, e1, e2, e3⟩ := hx x List.mem_cons_self
    simp only [List.length_cons] at hl
    unfold lcFrom
    rw [e1]
    dsimp only
    rw [e2]
    cases q : p x with
    | true =>
      dsimp only
      rw [e3 q]
      dsimp only
      rw [if_pos (by omega), lc_fm xs (acc ++ [f x]) (fun y hy => hx y (List.mem_cons_of_mem _ hy)) (by rw [List.length_append]; simp; omega)]
      simp [List.filter_cons, q]
    | false =>
      dsimp only
      rw [lc_fm xs acc (fun y hy => hx y (List.mem_cons_of_mem _ hy)) (by omega)]
      simp [List.filter_cons, q]
theorem lc_map {mgt : MG} {mt me : ME} {s0 : SM} {h : MH} {f : T → T} (xs : List T) (hx : ∀ x ∈ xs, ∃ s1, mgt x s0 h = .ok s1 h ∧ mt s1 h = .ok (.bl true) h ∧ me s1 h = .ok (f x) h) (hl : xs.length ≤ big) :
    lcFrom mgt mt me s0 xs [] h = .ok (.lst (xs.map f)) h := by
  have := lc_fm (p := fun _ => true) xs [] (fun x hx' => let ⟨s1, a, b, c⟩ := hx x hx'; ⟨s1, a, b, fun _ => c⟩) (by simpa using hl)
  rw [this]
  have e : xs.filter (fun _ => true) = xs := List.filter_eq_self.mpr fun _ _ => rfl
  rw [e]
  rfl
theorem for_inv {mgt : MG} {mb : MS} {I : List T → SM → MH → Prop} : ∀ (xs pre : List T) (s : SM) (h : MH), I pre s h →
    (∀ pre x s h, I pre s h → x ∈ xs → ∃ s1 h1 s2 h2, mgt x s h = .ok s1 h1 ∧ (mb s1 h1 = .nx s2 h2 ∨ mb s1 h1 = .ct s2 h2) ∧ I (pre ++ [x]) s2 h2) →
    ∃ s' h', forFrom mgt mb xs s h = .nx s' h' ∧ I (pre ++ xs) s' h'
  | [], pre, s, h, hI, _ => ⟨s, h, rfl, by simpa using hI⟩
  | x :: xs, pre, s, h, hI, st => by
    obtain ⟨s1, h1, s2, h2, e1, e2, hI2⟩ := st pre x s h hI List.mem_cons_self
    obtain ⟨s', h', e3, hI3⟩ := for_inv xs (pre ++ [x]) s2 h2 hI2 fun pre y s h hI hy => st pre y s h hI (List.mem_cons_of_mem _ hy)
    refine ⟨s', h', ?_, by simpa using hI3⟩
    unfold forFrom
    rw [e1]
    dsimp only
    rcases e2 with e2 | e2 <;> (rw [e2]; dsimp only; exact e3)
theorem cut_to {xs : List T} {n : Nat} : cutT xs none (some (n : Int)) = xs.take n := by
  unfold cutT
  rw [HT.sIx_none, HT.sIx_nat, List.drop_zero, Nat.sub_zero]
  by_cases h : n ≤ xs.length
  · rw [Nat.min_eq_left h]
  · rw [Nat.min_eq_right (by omega), List.take_of_length_le (by omega), List.take_of_length_le (by omega)]
theorem bag_ok (ns : List Int) (h : MH) : ∃ o, mBagL [.frl (ns.map .int)] h = .ok (.ref h.length) (h ++ [o]) ∧ Bag (h ++ [o]) h.length := by
  have hcut : cutT (ns.map T.int) none (some (63 : Int)) = (ns.take 63).map T.int := by
    have := cut_to (xs := ns.map T.int) (n := 63)
    rw [List.map_take] <;> exact this
  have hl : ((ns.take 63).map T.int).length ≤ 63 := by simp; omega
  generalize (ns.take 63) = row at hcut hl
  let mb : MS := mSq (mSet 2 (m2 fMod (mA fInt (aCons (m2 fAdd (m2 fAdd (m2 fMul (mVar 2) (mC (.int 47093))) (m2 fMod (mA fInt (aCons (mVar 3) aNil)) (mC (.int 2147483389)))) (mC (.int 17))) aNil)) (mC (.int 2147483549)))) mNx
  have lp : ∀ (s : SM) (m : Int), s = [some (.frl (ns.map .int)), some (.lst (row.map .int)), some (.int (5608 + 31 * (row.length : Int))), none] → ∃ s' m', forFrom (gN 3) mb (row.map .int) s h = .nx s' h ∧ (∃ z, s' = [some (.frl (ns.map .int)), some (.lst (row.map .int)), some (.int m'), z]) ∧ 0 ≤ m' ∧ m' < 2147483549 := by
    intro s m hs
    have hl' : row.length ≤ 63 := by simpa using hl
    obtain ⟨s', h', e, ⟨z, m', e2, e3, b0, b1⟩⟩ := for_inv (mgt := gN 3) (mb := mb) (I := fun pre s h' => ∃ z m, h' = h ∧ s = [some (.frl (ns.map .int)), some (.lst (row.map .int)), some (.int m), z] ∧ 0 ≤ m ∧ m < 2147483549) (row.map .int) [] s h ⟨none, 5608 + 31 * (row.length : Int), rfl, hs, by omega, by omega⟩ (by
      rintro pre x s h1 ⟨z, m, rfl, rfl, b0, b1⟩ hx
      obtain ⟨c, _, rfl⟩ := List.mem_map.mp hx
      refine ⟨_, h1, _, h1, rfl, .inl ?_, some (.int c), (m * 47093 + c % 2147483389 + 17) % 2147483549, rfl, rfl, Int.emod_nonneg _ (by omega), Int.emod_lt_of_pos _ (by omega)⟩
      simp only [mb, mSq, mSet, m2, mA, aCons, aNil, RL.bind, R.bind, R.toS, mVar, mC, List.set_cons_succ, List.set_cons_zero, List.getElem?_cons_zero, List.getElem?_cons_succ, fMul_l (show -18446744073709551616 < m by omega) (show m < 18446744073709551616 by omega), fInt_i, fAdd_i,
        fMod_ok (show (0 : Int) < 2147483389 by omega), fMod_ok (show (0 : Int) < 2147483549 by omega), mNx])
    subst e2
    exact ⟨s', m', e, ⟨z, e3⟩, b0, b1⟩
  obtain ⟨s', m', e1, ⟨z, e2⟩, b0, b1⟩ := lp _ 0 rfl
  refine ⟨bagO row 0 0 m', ?_, ⟨row, 0, 0, m', by simp, by simpa using hl, by omega, by omega, b0, b1⟩⟩
  subst e2
  have ef : (mFor (mSrc (mVar 1)) (gN 3) mb) [some (.frl (ns.map .int)), some (.lst (row.map .int)), some (.int (5608 + 31 * (row.length : Int))), none] h = .nx [some (.frl (ns.map .int)), some (.lst (row.map .int)), some (.int m'), z] h := e1
  have e0 : mBagL [.frl (ns.map .int)] h = (match (mSq (mFor (mSrc (mVar 1)) (gN 3) mb) (mSq (mRet (mA fLstN (aCons (mVar 1) (aCons (mC (.int 0)) (aCons (mC (.int 0)) (aCons (mVar 2) aNil)))))) mNx)) [some (.frl (ns.map .int)), some (.lst (row.map .int)), some (.int (5608 + 31 * (row.length : Int))), none] h with
    | .nx _ h1 => R.ok .non h1
    | .rt t h1 => .ok t h1
    | .ex x _ h1 => .ex x h1
    | _ => .stuck) := by
    have e3 : fSl (.frl (ns.map .int)) .non (.int 63) h = .ok (.lst (row.map .int)) h := by rw [← hcut]; rfl
    have e4 : ((row.map T.int).length : Int) = row.length := by simp
    simp only [mBagL, mDef, mSq, mSet, mA, aCons, aNil, mSl, mVar, mC, m1, fPart, R.bind, R.toS, RL.bind, List.map_cons, List.map_nil, List.length_cons, List.length_nil, List.getElem?_cons_zero, List.getElem?_cons_succ, List.cons_append, List.nil_append, Nat.reduceAdd, Nat.reduceSub, List.replicate_succ, List.replicate_zero, e3, List.set_cons_succ, List.set_cons_zero, m2, fLen_l, e4, fList, seqOf, fMul_l (show (-18446744073709551616 : Int) < 31 by omega) (show (31 : Int) < 18446744073709551616 by omega), fAdd_i]
    rfl
  rw [e0]
  show (match (match (mFor (mSrc (mVar 1)) (gN 3) mb) [some (.frl (ns.map .int)), some (.lst (row.map .int)), some (.int (5608 + 31 * (row.length : Int))), none] h with
    | .nx s1 h1 => (mSq (mRet (mA fLstN (aCons (mVar 1) (aCons (mC (.int 0)) (aCons (mC (.int 0)) (aCons (mVar 2) aNil)))))) mNx) s1 h1
    | r => r) with
    | .nx _ h1 => R.ok .non h1
    | .rt t h1 => .ok t h1
    | .ex x _ h1 => .ex x h1
    | _ => .stuck) = _
  rw [ef]
  rfl
/-- a draw from a list or tuple -/
def mOfL : MF := mDef 2 ((mSq (mRetF (m2 fIx (mVar 1) (mA (fS 2 mDrawL) (aCons (mVar 0) (aCons (mA fLen (aCons (mVar 1) aNil)) aNil)))))
    mNx))
theorem fzT_closed {t : T} {h : MH} (c : closed t = true) : fzT t h = (t, h) := by
  cases t with
  | ref i => simp [closed] at c
  | _ => rfl
theorem atI_get {xs : List T} {k : Int} (h1 : 0 ≤ k) (h2 : k < xs.length) : atI xs k = some (xs[k.toNat]'(by omega)) := by
  unfold atI ixN
  rw [if_pos h1, if_pos h2]
  exact List.getElem?_eq_getElem (by omega)
theorem of_lst {h : MH} {i : Nat} {xs : List T} (B : Bag h i) (h1 : xs ≠ []) (h2 : xs.length ≤ 1000000) (hc : closedL xs = true) :
    ∃ (x : T) (h' : MH), mOfL [.ref i, .lst xs] h = .ok x h' ∧ x ∈ xs ∧ Bag h' i ∧ Keeps i h h' := by
  have hp : 0 < xs.length := List.length_pos_iff.mpr h1
  obtain ⟨r, h', e, r0, r1, B', k⟩ := draw_ok (many := (xs.length : Int)) B (by omega) (by omega)
  refine ⟨xs[r.toNat]'(by omega), h', ?_, List.getElem_mem _, B', k⟩
  have e2 : fIx (.lst xs) (.int r) h' = .ok (xs[r.toNat]'(by omega)) h' := by
    show (match atI xs r with
      | some z => R.ok z h'
      | none => .stuck) = _
    rw [atI_get r0 r1]
  have e3 := fzT_closed (h := h') (closedL_mem hc _ (List.getElem_mem (show r.toNat < xs.length by omega)))
  have e4 : (fS 2 mDrawL) [.ref i, .int xs.length] h = .ok (.int r) h' := e
  simp only [mOfL, mDef, mSq, mA, aCons, aNil, m2, mVar, R.bind, R.toS, RL.bind, List.map_cons, List.map_nil, List.length_cons, List.length_nil, List.getElem?_cons_zero, List.getElem?_cons_succ, List.cons_append, List.nil_append, Nat.reduceAdd, Nat.reduceSub, List.replicate_zero, fLen_l, e4, mRetF, e2, e3]
theorem of_str {h : MH} {i : Nat} {z : Str} (B : Bag h i) (h1 : 0 < z.cps.toList.length) (h2 : z.cps.toList.length ≤ 100000) :
    ∃ (c : Nat) (h' : MH), mOfL [.ref i, .str z] h = .ok (.str ⟨#[c]⟩) h' ∧ c ∈ z.cps.toList ∧ Bag h' i ∧ Keeps i h h' := by
  have hz : z.length = z.cps.toList.length := by simp [Str.length]
  obtain ⟨r, h', e, r0, r1, B', k⟩ := draw_ok (many := (z.length : Int)) B (by omega) (by omega)
  have hr : r.toNat < z.cps.toList.length := by omega
  refine ⟨z.cps.toList[r.toNat], h', ?_, List.getElem_mem _, B', k⟩
  have q : atI z.cps.toList r = some z.cps.toList[r.toNat] := by
    unfold atI ixN
    rw [if_pos r0, if_pos (by omega)]
    exact List.getElem?_eq_getElem hr
  have hb : z.length ≤ big := by unfold big; omega
  have e2 : fIx (.str z) (.int r) h' = .ok (.str ⟨#[z.cps.toList[r.toNat]]⟩) h' := by
    show (if z.length ≤ big then (match atI z.cps.toList r with
      | some c => R.ok (T.str ⟨#[c]⟩) h'
      | none => .stuck) else .stuck) = _
    rw [if_pos hb, q]
  have e4 : (fS 2 mDrawL) [.ref i, .int z.length] h = .ok (.int r) h' := e
  have e5 : fLen [.str z] h = .ok (.int z.length) h := by
    show (if z.length ≤ big then R.ok (.int z.length) h else .stuck) = _
    rw [if_pos hb]
  have e6 : ∀ c : Nat, fzT (.str ⟨#[c]⟩) h' = (.str ⟨#[c]⟩, h') := fun c => rfl
  simp only [mOfL, mDef, mSq, mA, aCons, aNil, m2, mVar, R.bind, R.toS, RL.bind, List.map_cons, List.map_nil, List.length_cons, List.length_nil, List.getElem?_cons_zero, List.getElem?_cons_succ, List.cons_append, List.nil_append, Nat.reduceAdd, Nat.reduceSub, List.replicate_zero, e5, e4, mRetF, e2, e6]
/-! ### alike -/
def mAlikeL : Nat → MF
  | 0 => fun _ _ => .stuck
  | n + 1 => mDef 5 ((mSq (mIfS (mOr (m2 (fIs false) (mVar 1) (mC .non)) (m2 (fIs false) (mVar 0) (mC .non))) (mSq (mRetF (mAndV (m2 (fIs false) (mVar 1) (mC .non)) (m2 (fIs false) (mVar 0) (mC .non))))
    mNx) mNx)
    (mSq (mFor (mSrc (mA fTup (aCons (mC (.int 1)) (aCons (mC (.int 2)) (aCons (mC (.int 3)) aNil))))) (gN 2) (mSq (mIfS (mAnd (m2 fEq (mVar 2) (mC (.int 1))) (mOr (mTru (m1 (fIsi .bl) (mVar 1))) (mTru (m1 (fIsi .bl) (mVar 0))))) (mSq (mRetF (mAndV (m1 (fIsi .bl) (mVar 1)) (mAndV (m1 (fIsi .bl) (mVar 0)) (m2 fEq (mVar 0) (mVar 1)))))
    mNx) mNx)
    (mSq (mIfS (mAnd (m2 fEq (mVar 2) (mC (.int 2))) (mOr (mTru (m1 (fIsi .str) (mVar 1))) (mTru (m1 (fIsi .str) (mVar 0))))) (mSq (mRetF (mAndV (m1 (fIsi .str) (mVar 1)) (mAndV (m1 (fIsi .str) (mVar 0)) (m2 fEq (mVar 0) (mVar 1)))))
    mNx) mNx)
    (mSq (mIfS (mAnd (m2 fEq (mVar 2) (mC (.int 3))) (mOr (mTru (m1 (fIsi .int) (mVar 1))) (mTru (m1 (fIsi .int) (mVar 0))))) (mSq (mRetF (mAndV (m1 (fIsi .int) (mVar 1)) (mAndV (m1 (fIsi .int) (mVar 0)) (m2 fEq (mVar 0) (mVar 1)))))
    mNx) mNx)
    mNx))))
    (mSq (mIfS (mOr (m2 fNe (m1 (fIsi .tup) (mVar 1)) (m1 (fIsi .tup) (mVar 0))) (m2 fNe (m1 (fIsi .lst) (mVar 1)) (m1 (fIsi .lst) (mVar 0)))) (mSq (mRetF (mC (.bl false)))
    mNx) mNx)
    (mSq (mRetF (mAndV (m2 fEq (mA fLen (aCons (mVar 0) aNil)) (mA fLen (aCons (mVar 1) aNil))) (mA fAll (aCons (mLc (mIA iZp (aCons (mVar 0) (aCons (mVar 1) aNil))) (gT 2 (gsCons (gN 3) (gsCons (gN 4) gsNil))) (mC (.bl true)) (mA (fP 2 (mAlikeL n)) (aCons (mVar 3) (aCons (mVar 4) aNil))) [3, 4]) aNil))))
    mNx)))))
theorem alike_non {n : Nat} {h : MH} : mAlikeL (n + 1) [.non, .non] h = .ok (.bl true) h := rfl
theorem alike_bl {n : Nat} {h : MH} {b : Bool} : mAlikeL (n + 1) [.bl b, .bl b] h = .ok (.bl true) h := by cases b <;> rfl
theorem alike_str0 {n : Nat} {h : MH} {b c : Str} : mAlikeL (n + 1) [.str b, .str c] h = .ok (.bl (decide (b = c))) h := rfl
theorem alike_int0 {n : Nat} {h : MH} {b c : Int} : mAlikeL (n + 1) [.int b, .int c] h = .ok (.bl (b == c)) h := rfl
def mAlZip (n : Nat) : ME := mLc (mIA iZp (aCons (mVar 0) (aCons (mVar 1) aNil))) (gT 2 (gsCons (gN 3) (gsCons (gN 4) gsNil))) (mC (.bl true)) (mA (fP 2 (mAlikeL n)) (aCons (mVar 3) (aCons (mVar 4) aNil))) [3, 4]
def mAlEnd (n : Nat) : ME := mAndV (m2 fEq (mA fLen (aCons (mVar 0) aNil)) (mA fLen (aCons (mVar 1) aNil))) (mA fAll (aCons (mAlZip n) aNil))
theorem alZip_ok {n : Nat} {h : MH} {t u : T} {xs ys : List T} {s2 : Option T} (ht : seqOf t h = some xs) (hu : seqOf u h = some ys) (ht' : srcOf t = some xs) (hu' : srcOf u = some ys) (hl : xs.length = ys.length) (hb : xs.length ≤ big)
    (hel : ∀ p ∈ xs.zip ys, closed p.1 = true ∧ closed p.2 = true ∧ ∃ h', mAlikeL n [p.1, p.2] [] = .ok (.bl true) h') :
    mAlZip n [some t, some u, s2, none, none] h = .ok (.lst ((xs.zip ys).map fun _ => .bl true)) h := by
  have e1 : (mIA iZp (aCons (mVar 0) (aCons (mVar 1) aNil))) [some t, some u, s2, none, none] h = .ok (zipT xs ys) h := by
    simp only [mIA, aCons, aNil, mVar, RL.bindL, List.getElem?_cons_zero, List.getElem?_cons_succ, iZp, ht', hu']
  have e2 : lcFrom (gT 2 (gsCons (gN 3) (gsCons (gN 4) gsNil))) (mC (.bl true)) (mA (fP 2 (mAlikeL n)) (aCons (mVar 3) (aCons (mVar 4) aNil))) [some t, some u, s2, none, none] (zipT xs ys) [] h = .ok (.lst ((zipT xs ys).map fun _ => .bl true)) h := by
    refine lc_map (f := fun _ => .bl true) _ (fun x hx => ?_) (by unfold zipT; rw [List.length_map, List.length_zip]; omega)
    obtain ⟨q, hq, rfl⟩ := List.mem_map.mp hx
    obtain ⟨c1, c2, h', e⟩ := hel q hq
    refine ⟨[some t, some u, s2, some q.1, some q.2], rfl, rfl, ?_⟩
    show (if [q.1, q.2].length = 2 ∧ closedL [q.1, q.2] = true then pureR (mAlikeL n [q.1, q.2] []) h else .stuck) = _
    rw [if_pos ⟨rfl, by simp [closedL, c1, c2]⟩, e]
    rfl
  show ((mIA iZp (aCons (mVar 0) (aCons (mVar 1) aNil))) [some t, some u, s2, none, none] h).bind _ = _
  rw [e1]
  show lcFrom _ _ _ (wipeM [some t, some u, s2, none, none] [3, 4]) (zipT xs ys) [] h = _
  have e3 : wipeM [some t, some u, s2, none, none] [3, 4] = [some t, some u, s2, none, none] := rfl
  rw [e3, e2]
  unfold zipT
  rw [List.map_map]
  rfl
theorem bls_true (xs : List (T × T)) : blsOf (xs.map fun _ => T.bl true) = some (xs.map fun _ => true) := by
  induction xs with
  | nil => rfl
  | cons x xs ih => simp only [List.map_cons, blsOf, ih, Option.map_some]
theorem all_true (xs : List (T × T)) : ((xs.map fun _ => true).all id) = true := by
  induction xs with
  | nil => rfl
  | cons x xs ih => simpa using ih
theorem alEnd_ok {n : Nat} {h : MH} {t u : T} {xs ys : List T} {s2 : Option T} (el : fLen [t] h = .ok (.int xs.length) h) (eu : fLen [u] h = .ok (.int ys.length) h) (ht : seqOf t h = some xs) (hu : seqOf u h = some ys) (ht' : srcOf t = some xs) (hu' : srcOf u = some ys) (hl : xs.length = ys.length) (hb : xs.length ≤ big)
    (hel : ∀ p ∈ xs.zip ys, closed p.1 = true ∧ closed p.2 = true ∧ ∃ h', mAlikeL n [p.1, p.2] [] = .ok (.bl true) h') :
    mAlEnd n [some t, some u, s2, none, none] h = .ok (.bl true) h := by
  have z := alZip_ok (s2 := s2) ht hu ht' hu' hl hb hel
  have e4 : fAll [.lst ((xs.zip ys).map fun _ => .bl true)] h = .ok (.bl true) h := by
    simp only [fAll, fBls, lstOf, bls_true, all_true]
  simp only [mAlEnd, mAndV, m2, mA, aCons, aNil, RL.bind, R.bind, mVar, List.getElem?_cons_zero, List.getElem?_cons_succ, el, eu, fEq_i, hl, decide_true, fTru, fAndV, z, e4]
theorem alike_tup {n : Nat} {h : MH} {xs ys : List T} (hl : xs.length = ys.length) (hb : xs.length ≤ big)
    (hel : ∀ p ∈ xs.zip ys, closed p.1 = true ∧ closed p.2 = true ∧ ∃ h', mAlikeL n [p.1, p.2] [] = .ok (.bl true) h') : mAlikeL (n + 1) [.tup xs, .tup ys] h = .ok (.bl true) h := by
  have e : mAlikeL (n + 1) [.tup xs, .tup ys] h = (match (mSq (mRetF (mAlEnd n)) mNx) [some (.tup xs), some (.tup ys), some (.int 3), none, none] h with
    | .nx _ h1 => R.ok .non h1
    | .rt t h1 => .ok t h1
    | .ex x _ h1 => .ex x h1
    | _ => .stuck) := rfl
  rw [e]
  have z := alEnd_ok (n := n) (h := h) (t := .tup xs) (u := .tup ys) (s2 := some (.int 3)) rfl rfl rfl rfl rfl rfl hl hb hel
  simp only [mSq, mRetF, R.toS, z, fzT]
theorem alike_lst {n : Nat} {h : MH} {xs ys : List T} (hl : xs.length = ys.length) (hb : xs.length ≤ big)
    (hel : ∀ p ∈ xs.zip ys, closed p.1 = true ∧ closed p.2 = true ∧ ∃ h', mAlikeL n [p.1, p.2] [] = .ok (.bl true) h') : mAlikeL (n + 1) [.lst xs, .lst ys] h = .ok (.bl true) h := by
  have e : mAlikeL (n + 1) [.lst xs, .lst ys] h = (match (mSq (mRetF (mAlEnd n)) mNx) [some (.lst xs), some (.lst ys), some (.int 3), none, none] h with
    | .nx _ h1 => R.ok .non h1
    | .rt t h1 => .ok t h1
    | .ex x _ h1 => .ex x h1
    | _ => .stuck) := rfl
  rw [e]
  have z := alEnd_ok (n := n) (h := h) (t := .lst xs) (u := .lst ys) (s2 := some (.int 3)) rfl rfl rfl rfl rfl rfl hl hb hel
  simp only [mSq, mRetF, R.toS, z, fzT]
/-- a plain tree of depth below n -/
inductive Pl : Nat → T → Prop where
  | non {n : Nat} : Pl (n + 1) .non
  | bl {n : Nat} (b : Bool) : Pl (n + 1) (.bl b)
  | int {n : Nat} (i : Int) : Pl (n + 1) (.int i)
  | str {n : Nat} (s : Str) : Pl (n + 1) (.str s)
  | tup {n : Nat} {xs : List T} (h : ∀ x ∈ xs, Pl n x) (hb : xs.length ≤ big) : Pl (n + 1) (.tup xs)
  | lst {n : Nat} {xs : List T} (h : ∀ x ∈ xs, Pl n x) (hb : xs.length ≤ big) : Pl (n + 1) (.lst xs)
theorem closedL_of : ∀ {xs : List T}, (∀ x ∈ xs, closed x = true) → closedL xs = true
  | [], _ => rfl
  | x :: xs, h => by
    simp only [closedL, Bool.and_eq_true]
    exact ⟨h x List.mem_cons_self, closedL_of fun y hy => h y (List.mem_cons_of_mem _ hy)⟩
theorem Pl.closed {n : Nat} {t : T} (p : Pl n t) : Mi.closed t = true := by
  induction p with
  | non => rfl
  | bl b => rfl
  | int i => rfl
  | str s => rfl
  | tup h hb ih => simp only [Mi.closed]; exact closedL_of ih
  | lst h hb ih => simp only [Mi.closed]; exact closedL_of ih
theorem zip_self {xs : List T} {p : T × T} (h : p ∈ xs.zip xs) : p.1 = p.2 ∧ p.1 ∈ xs := by
  induction xs with
  | nil => cases h
  | cons x xs ih =>
    rw [List.zip_cons_cons] at h
    rcases List.mem_cons.mp h with e | e
    · subst e; exact ⟨rfl, List.mem_cons_self⟩
    · exact ⟨(ih e).1, List.mem_cons_of_mem _ (ih e).2⟩
theorem alike_refl {n : Nat} {t : T} (p : Pl n t) (h : MH) : mAlikeL n [t, t] h = .ok (.bl true) h := by
  induction p generalizing h with
  | non => exact alike_non
  | bl b => exact alike_bl
  | int i => rw [alike_int0, beq_self_eq_true]
  | str s => rw [alike_str0, decide_eq_true rfl]
  | tup hp hb ih =>
    refine alike_tup rfl hb fun q hq => ?_
    obtain ⟨e, m⟩ := zip_self hq
    rw [← e]
    exact ⟨(hp _ m).closed, (hp _ m).closed, [], ih _ m []⟩
  | lst hp hb ih =>
    refine alike_lst rfl hb fun q hq => ?_
    obtain ⟨e, m⟩ := zip_self hq
    rw [← e]
    exact ⟨(hp _ m).closed, (hp _ m).closed, [], ih _ m []⟩
end Mi
end part_Bh
section part_Bs
set_option maxRecDepth 100000
set_option maxHeartbeats 2000000
/-! Bs: texts as lists of signs. -/
namespace Mi
open PySem PySem.Spec PyProof.Rows L2
def sS (l : List Nat) : Str := ⟨l.toArray⟩
theorem sS_len (l : List Nat) : (sS l).length = l.length := by simp [sS, Str.length]
theorem sS_list (l : List Nat) : (sS l).cps.toList = l := by simp [sS]
theorem sS_inj {l k : List Nat} : sS l = sS k ↔ l = k := by
  constructor
  · intro h
    have := congrArg (fun z : Str => z.cps.toList) h
    simpa [sS] using this
  · intro h; rw [h]
theorem sS_app (l k : List Nat) : sS l ++ sS k = sS (l ++ k) := by
  show (⟨l.toArray ++ k.toArray⟩ : Str) = _
  simp [sS]
theorem sS_of (z : Str) : sS z.cps.toList = z := by cases z; simp [sS]
theorem fAdd_s {l k : List Nat} {h : MH} (hb : l.length + k.length ≤ big) : fAdd (.str (sS l)) (.str (sS k)) h = .ok (.str (sS (l ++ k))) h := by
  show (if (sS l).length + (sS k).length ≤ big then R.ok (T.str (sS l ++ sS k)) h else .stuck) = _
  rw [sS_len, sS_len, if_pos hb, sS_app]
theorem fLen_s {l : List Nat} {h : MH} (hb : l.length ≤ big) : fLen [.str (sS l)] h = .ok (.int l.length) h := by
  show (if (sS l).length ≤ big then R.ok (.int (sS l).length) h else .stuck) = _
  rw [sS_len, if_pos hb]
theorem fIx_s {l : List Nat} {k : Int} {c : Nat} {h : MH} (hb : l.length ≤ big) (e : atI l k = some c) : fIx (.str (sS l)) (.int k) h = .ok (.str (sS [c])) h := by
  show (if (sS l).length ≤ big then (match atI (sS l).cps.toList k with
      | some c => R.ok (T.str ⟨#[c]⟩) h
      | none => .stuck) else .stuck) = _
  rw [sS_len, if_pos hb, sS_list, e]
  rfl
theorem atI_nat {α : Type} {l : List α} {k : Nat} (h : k < l.length) : atI l (k : Int) = some l[k] := by
  unfold atI ixN
  rw [if_pos (by omega), if_pos (by omega)]
  show l[((k : Int)).toNat]? = _
  rw [Int.toNat_natCast]
  exact List.getElem?_eq_getElem h
theorem atI_last {α : Type} {l : List α} {c : α} : atI (l ++ [c]) (-1) = some c := by
  unfold atI ixN
  rw [if_neg (by omega), if_pos (by simp; omega)]
  show (l ++ [c])[((-1 : Int) + ((l ++ [c]).length : Int)).toNat]? = _
  have e : ((-1 : Int) + ((l ++ [c]).length : Int)).toNat = l.length := by
    rw [List.length_append, List.length_singleton]; omega
  rw [e]
  simp
theorem cutS_to {l : List Nat} {k : Nat} : cutS (sS l) none (some (k : Int)) = sS (l.take k) := by
  unfold cutS
  rw [sS_list, sS_len, HT.sIx_none, HT.sIx_nat, List.drop_zero, Nat.sub_zero]
  show sS _ = _
  rw [sS_inj]
  by_cases h : k ≤ l.length
  · rw [Nat.min_eq_left h]
  · rw [Nat.min_eq_right (by omega), List.take_of_length_le (by omega), List.take_of_length_le (by omega)]
theorem sIx_neg1 (n d : Nat) : HT.sIx n d (some (-1)) = n - 1 := by
  show (if (-1 : Int) < 0 then ((-1 : Int) + (n : Int)).toNat else min (-1 : Int).toNat n) = n - 1
  rw [if_pos (by omega)]; omega
theorem cutS_butlast {l : List Nat} : cutS (sS l) none (some (-1)) = sS l.dropLast := by
  unfold cutS
  rw [sS_list, sS_len, HT.sIx_none, sIx_neg1, List.drop_zero, Nat.sub_zero]
  show sS _ = _
  rw [sS_inj, List.dropLast_eq_take]
theorem cutS_mid {l : List Nat} {k : Nat} (hk : k ≤ l.length) : cutS (sS l) (some (k : Int)) (some (-1)) = sS (l.drop k).dropLast := by
  unfold cutS
  rw [sS_list, sS_len, HT.sIx_nat, sIx_neg1, Nat.min_eq_left hk]
  show sS _ = _
  rw [sS_inj, List.dropLast_eq_take, List.length_drop]
  congr 1
  omega
theorem fold_rep (a : Array Nat) : ∀ (n : Nat) (acc : Array Nat), ((List.replicate n a).foldl (· ++ ·) acc).toList = acc.toList ++ (List.replicate n a.toList).flatten
  | 0, acc => by simp
  | n + 1, acc => by
    rw [List.replicate_succ, List.foldl_cons, fold_rep a n, List.replicate_succ]
    simp
theorem flat_one (c : Nat) : ∀ n : Nat, (List.replicate n [c]).flatten = List.replicate n c
  | 0 => rfl
  | n + 1 => by rw [List.replicate_succ, List.flatten_cons, flat_one c n, List.replicate_succ]; rfl
theorem mul_one (c n : Nat) : Txt.mul (sS [c]) (n : Int) = sS (List.replicate n c) := by
  unfold Txt.mul
  by_cases h : (n : Int) < 1
  · have : n = 0 := by omega
    subst this; rfl
  · rw [if_neg h]
    by_cases h2 : n = 1
    · subst h2; rfl
    · have e : ((((n : Int) == 1) || ((sS [c]).length == 0)) = true) = False := by
        rw [sS_len]
        simp
        omega
      rw [if_neg (by rw [e]; exact id)]
      have := fold_rep (sS [c]).cps n #[]
      rw [show (sS [c]).cps.toList = [c] from rfl, flat_one] at this
      have e2 : ((List.replicate ((n : Int)).toNat (sS [c]).cps).foldl (· ++ ·) #[]) = (List.replicate n c).toArray := by
        rw [Int.toNat_natCast]
        apply Array.toList_inj.mp
        rw [this]
        simp
      rw [e2]; rfl
theorem fMul_s {c : Nat} {n : Nat} {h : MH} (hb : n ≤ 1000) : fMul (.str (sS [c])) (.int (n : Int)) h = .ok (.str (sS (List.replicate n c))) h := by
  have e : strMulOk (sS [c]) (n : Int) = true := by
    unfold strMulOk
    simp only [Bool.and_eq_true, decide_eq_true_eq, sS_len, List.length_singleton]
    omega
  show (if strMulOk (sS [c]) (n : Int) then R.ok (T.str (Txt.mul (sS [c]) (n : Int))) h else .stuck) = _
  rw [e, mul_one]; rfl
theorem take_rep (x : Nat) : ∀ (k : Nat) (r : List Nat), (∀ y, r.head? = some y → y ≠ x) → ((List.replicate k x ++ r).takeWhile fun y => decide (y = x)).length = k
  | 0, r, h => by
    cases r with
    | nil => rfl
    | cons y r =>
      have := h y rfl
      simp [List.takeWhile_cons, this]
  | k + 1, r, h => by
    rw [List.replicate_succ, List.cons_append, List.takeWhile_cons, if_pos (by simp), List.length_cons, take_rep x k r h]
theorem rstrip_ok {l : List Nat} {k c : Nat} (h : ∀ y, l.getLast? = some y → y ≠ c) : Txt.rstripChars (sS (l ++ List.replicate k c)) (sS [c]) = sS l := by
  unfold Txt.rstripChars
  rw [stripBy_eq]
  have e1 : PySem.stripLo (sS [c]).cps.contains false (sS (l ++ List.replicate k c)) = 0 := rfl
  have hg : ∀ y, (sS [c]).cps.contains y = decide (y = c) := fun y => by simp [sS]
  have e2 : PySem.stripHi (sS [c]).cps.contains true (sS (l ++ List.replicate k c)) 0 = l.length := by
    show (sS (l ++ List.replicate k c)).length - (((sS (l ++ List.replicate k c)).cps.toList.drop 0).reverse.takeWhile (sS [c]).cps.contains).length = _
    rw [sS_len, sS_list, List.drop_zero, List.reverse_append, List.reverse_replicate, funext hg, take_rep c k l.reverse (fun y hy => h y (by rw [List.head?_reverse] at hy; exact hy)), List.length_append, List.length_replicate]
    omega
  rw [e1, e2]
  show (⟨(l ++ List.replicate k c).toArray.extract 0 l.length⟩ : Str) = _
  unfold sS
  congr 1
  simp
end Mi
end part_Bs
section part_Bt
set_option maxRecDepth 100000
set_option maxHeartbeats 2000000
/-! Bt: the mirrors' equations in one bundle, for simp. -/
namespace Mi
open PySem PySem.Spec PyProof.Rows L2
theorem mi :
    (∀ (N : Nat) (mb : MS) (ts : List T) (h : MH), mDef N mb ts h = (match mb (ts.map some ++ List.replicate (N - ts.length) none) h with
      | .nx _ h1 => R.ok .non h1
      | .rt t h1 => .ok t h1
      | .ex x _ h1 => .ex x h1
      | _ => .stuck)) ∧
    (∀ (m m' : MS) (s : SM) (h : MH), mSq m m' s h = (match m s h with
      | .nx s1 h1 => m' s1 h1
      | r => r)) ∧
    (∀ (s : SM) (h : MH), mNx s h = .nx s h) ∧ (∀ (s : SM) (h : MH), mPass s h = .nx s h) ∧ (∀ (s : SM) (h : MH), mBk s h = .bk s h) ∧ (∀ (s : SM) (h : MH), mCt s h = .ct s h) ∧
    (∀ (me : ME) (s : SM) (h : MH), mEx me s h = (me s h).toS s fun _ h1 => .nx s h1) ∧
    (∀ (me : ME) (s : SM) (h : MH), mRet me s h = (me s h).toS s fun t h1 => .rt t h1) ∧
    (∀ (me : ME) (s : SM) (h : MH), mRetF me s h = (me s h).toS s fun t h1 => .rt (fzT t h1).1 (fzT t h1).2) ∧
    (∀ (s : SM) (h : MH), mRetN s h = .rt .non h) ∧
    (∀ (mc : ME) (m m' : MS) (s : SM) (h : MH), mIfS mc m m' s h = (mc s h).toS s (fIfS m m' s)) ∧
    (∀ (m m' : MS) (s : SM) (h : MH), fIfS m m' s (.bl true) h = m s h) ∧ (∀ (m m' : MS) (s : SM) (h : MH), fIfS m m' s (.bl false) h = m' s h) ∧
    (∀ (i : Nat) (me : ME) (s : SM) (h : MH), mSet i me s h = (me s h).toS s fun t h1 => .nx (s.set i (some t)) h1) ∧
    (∀ (t : T) (h : MH) (s : SM) (f : T → MH → SR), (R.ok t h).toS s f = f t h) ∧ (∀ (x : Exc) (h : MH) (s : SM) (f : T → MH → SR), (R.ex x h).toS s f = .ex x s h) ∧
    (∀ (t : T) (h : MH) (f : T → MH → R), (R.ok t h).bind f = f t h) ∧ (∀ (x : Exc) (h : MH) (f : T → MH → R), (R.ex x h).bind f = .ex x h) ∧
    (∀ (ts : List T) (h : MH) (f : List T → MH → R), (RL.ok ts h).bind f = f ts h) ∧
    (∀ (i : Nat) (s : SM) (h : MH), mVar i s h = (match s[i]? with
      | some (some t) => R.ok t h
      | _ => .stuck)) ∧ (∀ (t : T) (s : SM) (h : MH), mC t s h = .ok t h) ∧
    (∀ (f : T → T → MH → R) (ma mb : ME) (s : SM) (h : MH), m2 f ma mb s h = (ma s h).bind fun t h1 => (mb s h1).bind fun u h2 => f t u h2) ∧
    (∀ (f : T → MH → R) (ma : ME) (s : SM) (h : MH), m1 f ma s h = (ma s h).bind f) ∧
    (∀ (s : SM) (h : MH), aNil s h = .ok [] h) ∧ (∀ (ma : ME) (mr : MA) (s : SM) (h : MH), aCons ma mr s h = (match ma s h with
      | .ok t h1 => match mr s h1 with
        | .ok ts h2 => RL.ok (t :: ts) h2
        | .ex x h2 => .ex x h2
        | .stuck => .stuck
      | .ex x h1 => .ex x h1
      | .stuck => .stuck)) ∧
    (∀ (f : List T → MH → R) (mr : MA) (s : SM) (h : MH), mA f mr s h = (mr s h).bind f) ∧
    (∀ (ma mb : ME) (s : SM) (h : MH), mAnd ma mb s h = (ma s h).bind (fAnd mb s)) ∧ (∀ (mb : ME) (s : SM) (h : MH), fAnd mb s (.bl true) h = mb s h) ∧ (∀ (mb : ME) (s : SM) (h : MH), fAnd mb s (.bl false) h = .ok (.bl false) h) ∧
    (∀ (ma mb : ME) (s : SM) (h : MH), mOr ma mb s h = (ma s h).bind (fOr mb s)) ∧ (∀ (mb : ME) (s : SM) (h : MH), fOr mb s (.bl true) h = .ok (.bl true) h) ∧ (∀ (mb : ME) (s : SM) (h : MH), fOr mb s (.bl false) h = mb s h) ∧
    (∀ (ma : ME) (s : SM) (h : MH), mNot ma s h = (ma s h).bind fNot) ∧ (∀ (b : Bool) (h : MH), fNot (.bl b) h = .ok (.bl (!b)) h) ∧
    (∀ (mc ma mb : ME) (s : SM) (h : MH), mIf mc ma mb s h = (mc s h).bind (fIf ma mb s)) ∧ (∀ (ma mb : ME) (s : SM) (h : MH), fIf ma mb s (.bl true) h = ma s h) ∧ (∀ (ma mb : ME) (s : SM) (h : MH), fIf ma mb s (.bl false) h = mb s h) ∧
    (∀ (ma mb : ME) (s : SM) (h : MH), mOrV ma mb s h = (ma s h).bind (fOrV mb s)) ∧ (∀ (ma mb : ME) (s : SM) (h : MH), mAndV ma mb s h = (ma s h).bind (fAndV mb s)) ∧ (∀ (ma : ME) (s : SM) (h : MH), mNotV ma s h = (ma s h).bind fNotV) ∧
    (∀ (mb : ME) (s : SM) (h : MH), fAndV mb s (.bl true) h = mb s h) ∧ (∀ (mb : ME) (s : SM) (h : MH), fAndV mb s (.bl false) h = .ok (.bl false) h) ∧
    (∀ (mb : ME) (s : SM) (h : MH), fOrV mb s (.bl true) h = .ok (.bl true) h) ∧ (∀ (mb : ME) (s : SM) (h : MH), fOrV mb s (.bl false) h = mb s h) ∧ (∀ (b : Bool) (h : MH), fNotV (.bl b) h = .ok (.bl (!b)) h) ∧
    (∀ (ma : ME) (s : SM) (h : MH), mTru ma s h = (ma s h).bind fTru) ∧ (∀ (b : Bool) (h : MH), fTru (.bl b) h = .ok (.bl b) h) ∧
    (∀ (mi : MI) (mgt : MG) (mb : MS) (s : SM) (h : MH), mFor mi mgt mb s h = (match mi s h with
      | .ok xs h1 => forFrom mgt mb xs s h1
      | .ex x h1 => .ex x s h1
      | .stuck => .stuck)) ∧
    (∀ (me : ME) (mgt : MG) (s : SM) (h : MH), mAs me mgt s h = (me s h).toS s fun t h1 => match mgt t s h1 with
      | .ok s1 h2 => .nx s1 h2
      | .stuck => .stuck) ∧
    (∀ (i : Nat) (t : T) (s : SM) (h : MH), gN i t s h = .ok (s.set i (some t)) h) ∧
    (∀ (f : List T → MH → RL) (mr : MA) (s : SM) (h : MH), mIA f mr s h = (mr s h).bindL f) ∧ (∀ (ts : List T) (h : MH) (f : List T → MH → RL), (RL.ok ts h).bindL f = f ts h) ∧
    (∀ (ma : ME) (s : SM) (h : MH), mSrc ma s h = (ma s h).bindL iS) ∧ (∀ (t : T) (h : MH) (f : T → MH → RL), (R.ok t h).bindL f = f t h) ∧
    (∀ (mt ml mu : ME) (s : SM) (h : MH), mSl mt ml mu s h = (mt s h).bind fun t h1 => (ml s h1).bind fun l h2 => (mu s h2).bind fun u h3 => fSl t l u h3) ∧
    (∀ (i : Int) (h : MH), fPart (.int i) h = .ok (.int i) h) ∧ (∀ (i : Int) (h : MH), fNeg (.int i) h = .ok (.int (-i)) h) ∧
    (∀ (T' : String) (f : T → List T → MH → R) (mo : ME) (mr : MA) (s : SM) (h : MH), mMe T' f mo mr s h = (mo s h).bind fun t h1 => if tyOK T' t h1 then (mr s h1).bind fun ts h2 => f t ts h2 else .stuck) ∧
    (∀ (n nk : Nat) (is : List Nat) (fm : List T → MH → R) (mr mk : MA) (s : SM) (h : MH), mKw n nk is fm mr mk s h = (mr s h).bind fun ts h1 => (mk s h1).bind fun us h2 => if ts.length = n ∧ us.length = nk then fm (pick is (ts ++ us)) h2 else .stuck) ∧
    (∀ (c : Ty5) (t : T) (h : MH), fIsi c t h = (match tyOfT t h with
      | some a => R.ok (.bl (isi5 a c)) h
      | none => .stuck)) ∧
    (∀ (i j : Nat) (mr : MA) (s : SM) (h : MH), mPar i j mr s h = (match mr s h with
      | .ok [t, u] h1 => SR.nx ((s.set i (some t)).set j (some u)) h1
      | .ok _ _ => .stuck
      | .ex x h1 => .ex x s h1
      | .stuck => .stuck)) := by
  repeat' apply And.intro
  all_goals (intros; rfl)
theorem mz : (∀ h : MH, fzT .non h = (.non, h)) ∧ (∀ (b : Bool) (h : MH), fzT (.bl b) h = (.bl b, h)) ∧ (∀ (b : Int) (h : MH), fzT (.int b) h = (.int b, h)) ∧ (∀ (b : Str) (h : MH), fzT (.str b) h = (.str b, h)) ∧
    (∀ (b : List T) (h : MH), fzT (.tup b) h = (.tup b, h)) ∧ (∀ (b : List T) (h : MH), fzT (.lst b) h = (.lst b, h)) ∧ (∀ (b : List T) (h : MH), fzT (.frl b) h = (.frl b, h)) := by
  repeat' apply And.intro
  all_goals (intros; rfl)
theorem mty : (∀ h : MH, tyOfT .non h = some .non) ∧ (∀ (b : Bool) (h : MH), tyOfT (.bl b) h = some .bl) ∧ (∀ (b : Int) (h : MH), tyOfT (.int b) h = some .int) ∧ (∀ (b : Str) (h : MH), tyOfT (.str b) h = some .str) ∧
    (∀ (b : List T) (h : MH), tyOfT (.tup b) h = some .tup) ∧ (∀ (b : List T) (h : MH), tyOfT (.lst b) h = some .lst) ∧ (∀ (b : List T) (h : MH), tyOfT (.frl b) h = some .lst) ∧
    (isi5 .bl .bl = true ∧ isi5 .bl .int = true ∧ isi5 .int .int = true ∧ isi5 .int .bl = false ∧ isi5 .str .str = true ∧ isi5 .tup .tup = true ∧ isi5 .lst .lst = true ∧ isi5 .str .bl = false ∧ isi5 .str .int = false ∧ isi5 .tup .lst = false ∧ isi5 .lst .tup = false) := by
  repeat' apply And.intro
  all_goals (intros; rfl)
/-- slots -/
theorem ms : (∀ (x : T) (xs : List T), (x :: xs).map some = some x :: xs.map some) ∧ (([] : List T).map some = []) ∧ (∀ (x : T) (xs : List T), (x :: xs).length = xs.length + 1) ∧ (([] : List T).length = 0) ∧
    (∀ (x : Option T) (xs ys : List (Option T)), (x :: xs) ++ ys = x :: (xs ++ ys)) ∧ (∀ ys : List (Option T), [] ++ ys = ys) ∧
    (∀ (x : Option T) (xs : List (Option T)), (x :: xs)[0]? = some x) ∧ (∀ (x : Option T) (xs : List (Option T)) (i : Nat), (x :: xs)[i + 1]? = xs[i]?) ∧
    (∀ (x y : Option T) (xs : List (Option T)), (x :: xs).set 0 y = y :: xs) ∧ (∀ (x y : Option T) (xs : List (Option T)) (i : Nat), (x :: xs).set (i + 1) y = x :: xs.set i y) ∧
    (∀ (n : Nat) (x : Option T), List.replicate (n + 1) x = x :: List.replicate n x) ∧ (∀ (x : Option T), List.replicate 0 x = []) := by
  repeat' apply And.intro
  all_goals (intros; rfl)
end Mi
end part_Bt
section part_W46
set_option maxRecDepth 100000
set_option maxHeartbeats 4000000
namespace L_k46
open PySem PySem.Spec PyProof.Rows L2 Mi
def top (i : Nat) : Stmt := PySem.Challenge.pw_hushaccord_k46_whole_texts_of_knowledge.main.body.getD i (.Pass ⟨0, 0, 0, 0⟩)
def t_FIGURES : T := .str "0123456789"
def t_HEARD : T := .tup [.str "bl", .str "br"]
def t_SIGNS : T := .str "blnr"
abbrev s__law_bag : Stmt := top 22
abbrev N__law_bag : List Str := ["_law_script", "_law_my_row", "_law_mark", "_law_cell"]
theorem sc__law_bag : FnScope N__law_bag ["_law_script"] (defScope s__law_bag) := ⟨rfl, rfl, rfl, by decide +kernel, rfl, by decide +kernel, by decide +kernel⟩
theorem b__law_bag : PosB s__law_bag "_law_bag" "_law_bag" ["_law_script"] := fun _ _ _ _ _ _ us hl => match us, hl with | [_], _ => rfl
def m_law_bag : MF := mDef 4 ((mSq (mSet 1 (mA fList (aCons (mSl (mVar 0) (mC .non) (m1 fPart (mC (.int 63)))) aNil)))
    (mSq (mSet 2 (m2 fAdd (mC (.int 5608)) (m2 fMul (mC (.int 31)) (mA fLen (aCons (mVar 1) aNil)))))
    (mSq (mFor (mSrc (mVar 1)) (gN 3) (mSq (mSet 2 (m2 fMod (mA fInt (aCons (m2 fAdd (m2 fAdd (m2 fMul (mVar 2) (mC (.int 47093))) (m2 fMod (mA fInt (aCons (mVar 3) aNil)) (mC (.int 2147483389)))) (mC (.int 17))) aNil)) (mC (.int 2147483549))))
    mNx))
    (mSq (mRet (mA fLstN (aCons (mVar 1) (aCons (mC (.int 0)) (aCons (mC (.int 0)) (aCons (mVar 2) aNil))))))
    mNx)))))
abbrev s__law_draw : Stmt := top 23
abbrev N__law_draw : List Str := ["_law_bag_here", "_law_many", "_law_cell", "_law_found", "_law_mixed"]
theorem sc__law_draw : FnScope N__law_draw ["_law_bag_here", "_law_many"] (defScope s__law_draw) := ⟨rfl, rfl, rfl, by decide +kernel, rfl, by decide +kernel, by decide +kernel⟩
theorem b__law_draw : PosB s__law_draw "_law_draw" "_law_draw" ["_law_bag_here", "_law_many"] := fun _ _ _ _ _ _ us hl => match us, hl with | [_, _], _ => rfl
def m_law_draw : MF := mDef 5 ((mSq (mIfS (mAnd (m2 fEq (m2 fIx (mVar 0) (mC (.int 2))) (mC (.int 0))) (m2 fLt (m2 fIx (mVar 0) (mC (.int 1))) (mA fLen (aCons (m2 fIx (mVar 0) (mC (.int 0))) aNil)))) (mSq (mSet 2 (m2 fIx (m2 fIx (mVar 0) (mC (.int 0))) (m2 fIx (mVar 0) (mC (.int 1)))))
    (mSq (mAs (m2 fAdd (m2 fIx (mVar 0) (mC (.int 1))) (mC (.int 1))) (gSt (mVar 0) (mC (.int 1))))
    (mSq (mIfS (m2 fGe (mVar 2) (m2 fPow (mC (.int 10)) (mC (.int 18)))) (mSq (mAs (mVar 2) (gSt (mVar 0) (mC (.int 2))))
    mNx) (mSq (mSet 4 (m2 fAdd (m2 fMul (m2 fIx (mVar 0) (mC (.int 3))) (mC (.int 41381))) (m2 fMod (mA fInt (aCons (mVar 2) aNil)) (mC (.int 2000000033)))))
    (mSq (mAs (m2 fMod (mA fInt (aCons (m2 fAdd (mVar 4) (m2 fIx (mVar 0) (mC (.int 1)))) aNil)) (mC (.int 2147483549))) (gSt (mVar 0) (mC (.int 3))))
    mNx)))
    mNx))) mNx)
    (mSq (mIfS (m2 fGt (m2 fIx (mVar 0) (mC (.int 2))) (mC (.int 0))) (mSq (mSet 3 (m2 fMod (mA fInt (aCons (m2 fIx (mVar 0) (mC (.int 2))) aNil)) (mVar 1)))
    (mSq (mAs (m2 fFdiv (m2 fIx (mVar 0) (mC (.int 2))) (mVar 1)) (gSt (mVar 0) (mC (.int 2))))
    (mSq (mRetF (mVar 3))
    mNx))) mNx)
    (mSq (mAs (m2 fMod (mA fInt (aCons (m2 fAdd (m2 fMul (m2 fIx (mVar 0) (mC (.int 3))) (mC (.int 45137))) (mC (.int 1019))) aNil)) (mC (.int 2147483549))) (gSt (mVar 0) (mC (.int 3))))
    (mSq (mRetF (m2 fMod (mA fInt (aCons (m2 fFdiv (m2 fMod (mA fInt (aCons (m2 fMul (m2 fIx (mVar 0) (mC (.int 3))) (m2 fIx (mVar 0) (mC (.int 3)))) aNil)) (mC (.int 999999929))) (mC (.int 37))) aNil)) (mVar 1)))
    mNx)))))
abbrev s__law_of : Stmt := top 24
abbrev N__law_of : List Str := ["_law_bag_here", "_law_things"]
theorem sc__law_of : FnScope N__law_of ["_law_bag_here", "_law_things"] (defScope s__law_of) := ⟨rfl, rfl, rfl, by decide +kernel, rfl, by decide +kernel, by decide +kernel⟩
theorem b__law_of : PosB s__law_of "_law_of" "_law_of" ["_law_bag_here", "_law_things"] := fun _ _ _ _ _ _ us hl => match us, hl with | [_, _], _ => rfl
def m_law_of : MF := mDef 2 ((mSq (mRetF (m2 fIx (mVar 1) (mA (fS 2 m_law_draw) (aCons (mVar 0) (aCons (mA fLen (aCons (mVar 1) aNil)) aNil)))))
    mNx))
abbrev s__law_all_rows : Stmt := top 25
abbrev N__law_all_rows : List Str := ["_law_count", "_law_found", "_law_place", "_law_longer", "_law_my_row", "_law_sign"]
theorem sc__law_all_rows : FnScope N__law_all_rows ["_law_count"] (defScope s__law_all_rows) := ⟨rfl, rfl, rfl, by decide +kernel, rfl, by decide +kernel, by decide +kernel⟩
theorem b__law_all_rows : PosB s__law_all_rows "_law_all_rows" "_law_all_rows" ["_law_count"] := fun _ _ _ _ _ _ us hl => match us, hl with | [_], _ => rfl
def m_law_all_rows : MF := mDef 6 ((mSq (mSet 1 (mA fLst (aCons (mC (.str "")) aNil)))
    (mSq (mFor (mIA iRg1 (aCons (mVar 0) aNil)) (gN 2) (mSq (mSet 3 (mA fLst aNil))
    (mSq (mFor (mSrc (mVar 1)) (gN 4) (mSq (mSet 3 (m2 fAdd (mVar 3) (mLc (mSrc (mC (.str "blnr"))) (gN 5) (mC (.bl true)) (m2 fAdd (mVar 4) (mVar 5)) [5])))
    mNx))
    (mSq (mSet 1 (mVar 3))
    mNx))))
    (mSq (mRetF (mVar 1))
    mNx))))
abbrev s_is_number : Stmt := top 2
abbrev N_is_number : List Str := ["value"]
theorem sc_is_number : FnScope N_is_number ["value"] (defScope s_is_number) := ⟨rfl, rfl, rfl, by decide +kernel, rfl, by decide +kernel, by decide +kernel⟩
theorem b_is_number : PosB s_is_number "is_number" "is_number" ["value"] := fun _ _ _ _ _ _ us hl => match us, hl with | [_], _ => rfl
def m_is_number : MF := mDef 1 ((mSq (mRetF (mAndV (m1 (fIsi .int) (mVar 0)) (mNotV (m1 (fIsi .bl) (mVar 0)))))
    mNx))
abbrev s_is_within : Stmt := top 3
abbrev N_is_within : List Str := ["value", "least", "most"]
theorem sc_is_within : FnScope N_is_within ["value", "least", "most"] (defScope s_is_within) := ⟨rfl, rfl, rfl, by decide +kernel, rfl, by decide +kernel, by decide +kernel⟩
theorem b_is_within : PosB s_is_within "is_within" "is_within" ["value", "least", "most"] := fun _ _ _ _ _ _ us hl => match us, hl with | [_, _, _], _ => rfl
def m_is_within : MF := mDef 3 ((mSq (mRetF (mAndV (mA (fP 1 m_is_number) (aCons (mVar 0) aNil)) (mChain fLe fLe (mVar 1) (mVar 0) (mVar 2))))
    mNx))
abbrev s_need_hand : Stmt := top 14
abbrev N_need_hand : List Str := ["hand"]
theorem sc_need_hand : FnScope N_need_hand ["hand"] (defScope s_need_hand) := ⟨rfl, rfl, rfl, by decide +kernel, rfl, by decide +kernel, by decide +kernel⟩
theorem b_need_hand : PosB s_need_hand "need_hand" "need_hand" ["hand"] := fun _ _ _ _ _ _ us hl => match us, hl with | [_], _ => rfl
def m_need_hand : MF := mDef 1 ((mSq (mIfS (mNot (mTru (mA (fP 3 m_is_within) (aCons (mVar 0) (aCons (mC (.int 0)) (aCons (mC (.int 1)) aNil)))))) (mSq mNever
    mNx) mNx)
    mNx))
abbrev s_is_row : Stmt := top 12
abbrev N_is_row : List Str := ["value", "sign"]
theorem sc_is_row : FnScope N_is_row ["value"] (defScope s_is_row) := ⟨rfl, rfl, rfl, by decide +kernel, rfl, by decide +kernel, by decide +kernel⟩
theorem b_is_row : PosB s_is_row "is_row" "is_row" ["value"] := fun _ _ _ _ _ _ us hl => match us, hl with | [_], _ => rfl
def m_is_row : MF := mDef 2 ((mSq (mRetF (mAndV (m1 (fIsi .str) (mVar 0)) (mA fAll (aCons (mLc (mSrc (mVar 0)) (gN 1) (mC (.bl true)) (m2 (fIn false) (mVar 1) (mC t_SIGNS)) [1]) aNil))))
    mNx))
abbrev s_need_row : Stmt := top 13
abbrev N_need_row : List Str := ["row"]
theorem sc_need_row : FnScope N_need_row ["row"] (defScope s_need_row) := ⟨rfl, rfl, rfl, by decide +kernel, rfl, by decide +kernel, by decide +kernel⟩
theorem b_need_row : PosB s_need_row "need_row" "need_row" ["row"] := fun _ _ _ _ _ _ us hl => match us, hl with | [_], _ => rfl
def m_need_row : MF := mDef 1 ((mSq (mIfS (mNot (mTru (mA (fP 1 m_is_row) (aCons (mVar 0) aNil)))) (mSq mNever
    mNx) mNx)
    mNx))
abbrev s_text_of : Stmt := top 17
abbrev N_text_of : List Str := ["hand", "digits", "row", "hearings", "at", "sign"]
theorem sc_text_of : FnScope N_text_of ["hand", "digits", "row"] (defScope s_text_of) := ⟨rfl, rfl, rfl, by decide +kernel, rfl, by decide +kernel, by decide +kernel⟩
theorem b_text_of : PosB s_text_of "text_of" "text_of" ["hand", "digits", "row"] := fun _ _ _ _ _ _ us hl => match us, hl with | [_, _, _], _ => rfl
def m_text_of : MF := mDef 6 ((mSq (mSet 3 (mLc (mIA iEn (aCons (mVar 2) aNil)) (gT 2 (gsCons (gN 4) (gsCons (gN 5) gsNil))) (m2 (fIn false) (mVar 5) (m2 fIx (mC t_HEARD) (mVar 0))) (mVar 4) [4, 5]))
    (mSq (mIfS (m2 fEq (mVar 3) (mA fLst aNil)) (mSq (mRetF (m2 fAdd (m2 fIx (mVar 1) (mVar 0)) (m2 fMul (mC (.str "-")) (mA fLen (aCons (mVar 2) aNil)))))
    mNx) mNx)
    (mSq (mRetF (m2 fAdd (m2 fAdd (m2 fAdd (mVar 1) (mSl (mVar 2) (mC .non) (m1 fPart (m2 fIx (mVar 3) (m1 fNeg (mC (.int 1))))))) (mC (.str "+"))) (m2 fMul (mC (.str "-")) (m2 fSub (m2 fSub (mA fLen (aCons (mVar 2) aNil)) (m2 fIx (mVar 3) (m1 fNeg (mC (.int 1))))) (mC (.int 1))))))
    mNx))))
abbrev s_are_digits : Stmt := top 16
abbrev N_are_digits : List Str := ["inputs", "number"]
theorem sc_are_digits : FnScope N_are_digits ["inputs"] (defScope s_are_digits) := ⟨rfl, rfl, rfl, by decide +kernel, rfl, by decide +kernel, by decide +kernel⟩
theorem b_are_digits : PosB s_are_digits "are_digits" "are_digits" ["inputs"] := fun _ _ _ _ _ _ us hl => match us, hl with | [_], _ => rfl
def m_are_digits : MF := mDef 2 ((mSq (mRetF (mAndV (m1 (fIsi .tup) (mVar 0)) (mAndV (m2 fEq (mA fLen (aCons (mVar 0) aNil)) (mC (.int 2))) (mA fAll (aCons (mLc (mSrc (mVar 0)) (gN 1) (mC (.bl true)) (mA (fP 3 m_is_within) (aCons (mVar 1) (aCons (mC (.int 0)) (aCons (mC (.int 9)) aNil)))) [1]) aNil)))))
    mNx))
abbrev s_knowledge : Stmt := top 18
abbrev N_knowledge : List Str := ["hand", "inputs", "row"]
theorem sc_knowledge : FnScope N_knowledge ["hand", "inputs", "row"] (defScope s_knowledge) := ⟨rfl, rfl, rfl, by decide +kernel, rfl, by decide +kernel, by decide +kernel⟩
theorem b_knowledge : PosB s_knowledge "knowledge" "knowledge" ["hand", "inputs", "row"] := fun _ _ _ _ _ _ us hl => match us, hl with | [_, _, _], _ => rfl
def m_knowledge : MF := mDef 3 ((mSq (mEx (mA (fP 1 m_need_hand) (aCons (mVar 0) aNil)))
    (mSq (mIfS (mNot (mTru (mA (fP 1 m_are_digits) (aCons (mVar 1) aNil)))) (mSq mNever
    mNx) mNx)
    (mSq (mEx (mA (fP 1 m_need_row) (aCons (mVar 2) aNil)))
    (mSq (mRetF (mA (fP 3 m_text_of) (aCons (mVar 0) (aCons (mJ [(m1 fFmt (m2 fIx (mVar 1) (mC (.int 0)))), (m1 fFmt (m2 fIx (mVar 1) (mC (.int 1))))] Str.empty) (aCons (mVar 2) aNil)))))
    mNx)))))
abbrev s__law_row : Stmt := top 30
abbrev N__law_row : List Str := ["_law_bag_here", "_law_most", "_law_signs", "_law_place"]
theorem sc__law_row : FnScope N__law_row ["_law_bag_here", "_law_most", "_law_signs"] (defScope s__law_row) := ⟨rfl, rfl, rfl, by decide +kernel, rfl, by decide +kernel, by decide +kernel⟩
theorem b__law_row : PosB s__law_row "_law_row" "_law_row" ["_law_bag_here", "_law_most", "_law_signs"] := fun _ _ _ _ _ _ us hl => match us, hl with | [_, _, _], _ => rfl
def m_law_row : MF := mDef 4 ((mSq (mRetF (mMe "str" fJoin (mC (.str "")) (aCons (mLc (mIA iRg1 (aCons (mA (fS 2 m_law_draw) (aCons (mVar 0) (aCons (m2 fAdd (mVar 1) (mC (.int 1))) aNil))) aNil)) (gN 3) (mC (.bl true)) (mA (fS 2 m_law_of) (aCons (mVar 0) (aCons (mVar 2) aNil))) [3]) aNil)))
    mNx))
abbrev s__law_alike : Stmt := top 26
abbrev N__law_alike : List Str := ["_law_found", "_law_due", "_law_sort", "_law_one", "_law_two"]
theorem sc__law_alike : FnScope N__law_alike ["_law_found", "_law_due"] (defScope s__law_alike) := ⟨rfl, rfl, rfl, by decide +kernel, rfl, by decide +kernel, by decide +kernel⟩
theorem b__law_alike : PosB s__law_alike "_law_alike" "_law_alike" ["_law_found", "_law_due"] := fun _ _ _ _ _ _ us hl => match us, hl with | [_, _], _ => rfl
def m_law_alike : Nat → MF
  | 0 => fun _ _ => .stuck
  | n + 1 => mDef 5 ((mSq (mIfS (mOr (m2 (fIs false) (mVar 1) (mC .non)) (m2 (fIs false) (mVar 0) (mC .non))) (mSq (mRetF (mAndV (m2 (fIs false) (mVar 1) (mC .non)) (m2 (fIs false) (mVar 0) (mC .non))))
    mNx) mNx)
    (mSq (mFor (mSrc (mA fTup (aCons (mC (.int 1)) (aCons (mC (.int 2)) (aCons (mC (.int 3)) aNil))))) (gN 2) (mSq (mIfS (mAnd (m2 fEq (mVar 2) (mC (.int 1))) (mOr (mTru (m1 (fIsi .bl) (mVar 1))) (mTru (m1 (fIsi .bl) (mVar 0))))) (mSq (mRetF (mAndV (m1 (fIsi .bl) (mVar 1)) (mAndV (m1 (fIsi .bl) (mVar 0)) (m2 fEq (mVar 0) (mVar 1)))))
    mNx) mNx)
    (mSq (mIfS (mAnd (m2 fEq (mVar 2) (mC (.int 2))) (mOr (mTru (m1 (fIsi .str) (mVar 1))) (mTru (m1 (fIsi .str) (mVar 0))))) (mSq (mRetF (mAndV (m1 (fIsi .str) (mVar 1)) (mAndV (m1 (fIsi .str) (mVar 0)) (m2 fEq (mVar 0) (mVar 1)))))
    mNx) mNx)
    (mSq (mIfS (mAnd (m2 fEq (mVar 2) (mC (.int 3))) (mOr (mTru (m1 (fIsi .int) (mVar 1))) (mTru (m1 (fIsi .int) (mVar 0))))) (mSq (mRetF (mAndV (m1 (fIsi .int) (mVar 1)) (mAndV (m1 (fIsi .int) (mVar 0)) (m2 fEq (mVar 0) (mVar 1)))))
    mNx) mNx)
    mNx))))
    (mSq (mIfS (mOr (m2 fNe (m1 (fIsi .tup) (mVar 1)) (m1 (fIsi .tup) (mVar 0))) (m2 fNe (m1 (fIsi .lst) (mVar 1)) (m1 (fIsi .lst) (mVar 0)))) (mSq (mRetF (mC (.bl false)))
    mNx) mNx)
    (mSq (mRetF (mAndV (m2 fEq (mA fLen (aCons (mVar 0) aNil)) (mA fLen (aCons (mVar 1) aNil))) (mA fAll (aCons (mLc (mIA iZp (aCons (mVar 0) (aCons (mVar 1) aNil))) (gT 2 (gsCons (gN 3) (gsCons (gN 4) gsNil))) (mC (.bl true)) (mA (fP 2 (m_law_alike n)) (aCons (mVar 3) (aCons (mVar 4) aNil))) [3, 4]) aNil))))
    mNx)))))
abbrev s_parts_of : Stmt := top 19
abbrev N_parts_of : List Str := ["text", "bare", "since"]
theorem sc_parts_of : FnScope N_parts_of ["text"] (defScope s_parts_of) := ⟨rfl, rfl, rfl, by decide +kernel, rfl, by decide +kernel, by decide +kernel⟩
theorem b_parts_of : PosB s_parts_of "parts_of" "parts_of" ["text"] := fun _ _ _ _ _ _ us hl => match us, hl with | [_], _ => rfl
def m_parts_of : MF := mDef 3 ((mSq (mIfS (mNot (mTru (m1 (fIsi .str) (mVar 0)))) (mSq (mRetF (mC .non))
    mNx) mNx)
    (mSq (mSet 1 (mMe "str" fRstrip (mVar 0) (aCons (mC (.str "-")) aNil)))
    (mSq (mSet 2 (m2 fSub (mA fLen (aCons (mVar 0) aNil)) (mA fLen (aCons (mVar 1) aNil))))
    (mSq (mIfS (mAnd (m2 fEq (mA fLen (aCons (mVar 1) aNil)) (mC (.int 1))) (m2 (fIn false) (mVar 1) (mC t_FIGURES))) (mSq (mRetF (mA fTup (aCons (mVar 1) (aCons (mC .non) (aCons (mVar 2) aNil)))))
    mNx) mNx)
    (mSq (mIfS (mOr (m2 fLt (mA fLen (aCons (mVar 1) aNil)) (mC (.int 3))) (mOr (m2 fNe (m2 fIx (mVar 1) (m1 fNeg (mC (.int 1)))) (mC (.str "+"))) (mOr (m2 (fIn true) (m2 fIx (mVar 1) (mC (.int 0))) (mC t_FIGURES)) (m2 (fIn true) (m2 fIx (mVar 1) (mC (.int 1))) (mC t_FIGURES))))) (mSq (mRetF (mC .non))
    mNx) mNx)
    (mSq (mRetF (mIf (mTru (mA (fP 1 m_is_row) (aCons (mSl (mVar 1) (m1 fPart (mC (.int 2))) (m1 fPart (m1 fNeg (mC (.int 1))))) aNil))) (mA fTup (aCons (mSl (mVar 1) (mC .non) (m1 fPart (mC (.int 2)))) (aCons (mSl (mVar 1) (m1 fPart (mC (.int 2))) (m1 fPart (m1 fNeg (mC (.int 1))))) (aCons (mVar 2) aNil)))) (mC .non)))
    mNx)))))))
abbrev s_is_knowledge : Stmt := top 20
abbrev N_is_knowledge : List Str := ["hand", "text"]
theorem sc_is_knowledge : FnScope N_is_knowledge ["hand", "text"] (defScope s_is_knowledge) := ⟨rfl, rfl, rfl, by decide +kernel, rfl, by decide +kernel, by decide +kernel⟩
theorem b_is_knowledge : PosB s_is_knowledge "is_knowledge" "is_knowledge" ["hand", "text"] := fun _ _ _ _ _ _ us hl => match us, hl with | [_, _], _ => rfl
def m_is_knowledge : MF := mDef 2 ((mSq (mEx (mA (fP 1 m_need_hand) (aCons (mVar 0) aNil)))
    (mSq (mRetF (m2 (fIs true) (mA (fP 1 m_parts_of) (aCons (mVar 1) aNil)) (mC .non)))
    mNx)))
abbrev s__law_hears : Stmt := top 27
abbrev N__law_hears : List Str := ["_law_my_hand", "_law_sign"]
theorem sc__law_hears : FnScope N__law_hears ["_law_my_hand", "_law_sign"] (defScope s__law_hears) := ⟨rfl, rfl, rfl, by decide +kernel, rfl, by decide +kernel, by decide +kernel⟩
theorem b__law_hears : PosB s__law_hears "_law_hears" "_law_hears" ["_law_my_hand", "_law_sign"] := fun _ _ _ _ _ _ us hl => match us, hl with | [_, _], _ => rfl
def m_law_hears : MF := mDef 2 ((mSq (mRetF (m2 (fIn false) (mVar 1) (m2 fIx (mA fLst (aCons (mC (.str "bl")) (aCons (mC (.str "br")) aNil))) (mVar 0))))
    mNx))
abbrev s__law_whole_view : Stmt := top 29
abbrev N__law_whole_view : List Str := ["_law_my_hand", "_law_my_inputs", "_law_my_row", "_law_earlier"]
theorem sc__law_whole_view : FnScope N__law_whole_view ["_law_my_hand", "_law_my_inputs", "_law_my_row"] (defScope s__law_whole_view) := ⟨rfl, rfl, rfl, by decide +kernel, rfl, by decide +kernel, by decide +kernel⟩
theorem b__law_whole_view : PosB s__law_whole_view "_law_whole_view" "_law_whole_view" ["_law_my_hand", "_law_my_inputs", "_law_my_row"] := fun _ _ _ _ _ _ us hl => match us, hl with | [_, _, _], _ => rfl
def m_law_whole_view : Nat → MF
  | 0 => fun _ _ => .stuck
  | n + 1 => mDef 4 ((mSq (mIfS (m2 fEq (mVar 2) (mC (.str ""))) (mSq (mRetF (mA fTup (aCons (m2 fIx (mVar 1) (mVar 0)) aNil)))
    mNx) mNx)
    (mSq (mSet 3 (mA (fP 3 (m_law_whole_view n)) (aCons (mVar 0) (aCons (mVar 1) (aCons (mSl (mVar 2) (mC .non) (m1 fPart (m1 fNeg (mC (.int 1))))) aNil)))))
    (mSq (mIfS (mNot (mTru (mA (fP 2 m_law_hears) (aCons (mVar 0) (aCons (m2 fIx (mVar 2) (m1 fNeg (mC (.int 1)))) aNil))))) (mSq (mRetF (mA fTup (aCons (mVar 3) aNil)))
    mNx) mNx)
    (mSq (mRetF (mA fTup (aCons (mVar 3) (aCons (mA (fP 3 (m_law_whole_view n)) (aCons (m2 fSub (mC (.int 1)) (mVar 0)) (aCons (mVar 1) (aCons (mSl (mVar 2) (mC .non) (m1 fPart (m1 fNeg (mC (.int 1))))) aNil)))) aNil))))
    mNx)))))
abbrev s__law_text : Stmt := top 28
abbrev N__law_text : List Str := ["_law_my_hand", "_law_my_inputs", "_law_my_row", "_law_last", "_law_at", "_law_head"]
theorem sc__law_text : FnScope N__law_text ["_law_my_hand", "_law_my_inputs", "_law_my_row"] (defScope s__law_text) := ⟨rfl, rfl, rfl, by decide +kernel, rfl, by decide +kernel, by decide +kernel⟩
theorem b__law_text : PosB s__law_text "_law_text" "_law_text" ["_law_my_hand", "_law_my_inputs", "_law_my_row"] := fun _ _ _ _ _ _ us hl => match us, hl with | [_, _, _], _ => rfl
def m_law_text : MF := mDef 6 ((mSq (mSet 3 (m1 fNeg (mC (.int 1))))
    (mSq (mFor (mIA iRg1 (aCons (mA fLen (aCons (mVar 2) aNil)) aNil)) (gN 4) (mSq (mSet 3 (mIf (mTru (mA (fP 2 m_law_hears) (aCons (mVar 0) (aCons (m2 fIx (mVar 2) (mVar 4)) aNil)))) (mVar 4) (mVar 3)))
    mNx))
    (mSq (mIfS (m2 fLt (mVar 3) (mC (.int 0))) (mSq (mRetF (m2 fAdd (mA fStrI (aCons (m2 fIx (mVar 1) (mVar 0)) aNil)) (m2 fMul (mC (.str "-")) (mA fLen (aCons (mVar 2) aNil)))))
    mNx) mNx)
    (mSq (mSet 5 (m2 fAdd (mA fStrI (aCons (m2 fIx (mVar 1) (mC (.int 0))) aNil)) (mA fStrI (aCons (m2 fIx (mVar 1) (mC (.int 1))) aNil))))
    (mSq (mRetF (m2 fAdd (m2 fAdd (m2 fAdd (mVar 5) (mSl (mVar 2) (mC .non) (m1 fPart (mVar 3)))) (mC (.str "+"))) (m2 fMul (mC (.str "-")) (m2 fSub (m2 fSub (mA fLen (aCons (mVar 2) aNil)) (mVar 3)) (mC (.int 1))))))
    mNx))))))
abbrev s_law : Stmt := top 31
abbrev N_law : List Str := ["_law_script", "_law_bag_here", "_law_pairs", "_law_my_inputs", "_law_spots", "_law_step", "_law_my_hand", "_law_count", "_law_texts", "_law_views", "_law_my_row", "_law_found", "_law_text_here", "_law_view"]
theorem sc_law : FnScope N_law ["_law_script"] (defScope s_law) := ⟨rfl, rfl, rfl, by decide +kernel, rfl, by decide +kernel, by decide +kernel⟩
theorem b_law : PosB s_law "law" "law" ["_law_script"] := fun _ _ _ _ _ _ us hl => match us, hl with | [_], _ => rfl
def m_law : MF := mDef 14 ((mSq (mSet 1 (mA (fS 1 m_law_bag) (aCons (mVar 0) aNil)))
    (mSq (mPar 6 7 (aCons (mA (fS 2 m_law_draw) (aCons (mVar 1) (aCons (mC (.int 2)) aNil))) (aCons (mA (fS 2 m_law_of) (aCons (mVar 1) (aCons (mA fLst (aCons (mC (.int 1)) (aCons (mC (.int 2)) (aCons (mC (.int 3)) (aCons (mC (.int 3)) aNil))))) aNil))) aNil)))
    (mSq (mSet 2 (mA fLst (aCons (mA fTup (aCons (mA (fS 2 m_law_draw) (aCons (mVar 1) (aCons (mC (.int 3)) aNil))) (aCons (mA (fS 2 m_law_draw) (aCons (mVar 1) (aCons (mC (.int 10)) aNil))) aNil))) (aCons (mA fTup (aCons (mA (fS 2 m_law_draw) (aCons (mVar 1) (aCons (mC (.int 3)) aNil))) (aCons (mA (fS 2 m_law_draw) (aCons (mVar 1) (aCons (mC (.int 10)) aNil))) aNil))) aNil))))
    (mSq (mAs (mA fTup (aCons (mA fLstN aNil) (aCons (mA fLstN aNil) aNil))) (gT 2 (gsCons (gN 8) (gsCons (gN 9) gsNil))))
    (mSq (mFor (mSrc (mVar 2)) (gN 3) (mSq (mFor (mSrc (mA (fP 1 m_law_all_rows) (aCons (mVar 7) aNil))) (gN 10) (mSq (mSet 11 (mA (fP 3 m_knowledge) (aCons (mVar 6) (aCons (mVar 3) (aCons (mVar 10) aNil)))))
    (mSq (mIfS (mNot (mTru (mA (fP 2 (m_law_alike 8)) (aCons (mA fLst (aCons (mVar 11) (aCons (mKw 0 3 [2, 1, 0] (fP 3 m_knowledge) aNil (aCons (mVar 10) (aCons (mVar 3) (aCons (mVar 6) aNil)))) aNil))) (aCons (m2 fMul (mA fLst (aCons (mA (fP 3 m_law_text) (aCons (mVar 6) (aCons (mVar 3) (aCons (mVar 10) aNil)))) aNil)) (mC (.int 2))) aNil))))) (mSq (mRetF (mC (.bl false)))
    mNx) mNx)
    (mSq (mIfS (m2 (fIs true) (mA (fP 2 m_is_knowledge) (aCons (mVar 6) (aCons (mVar 11) aNil))) (mC (.bl true))) (mSq (mRetF (mC (.bl false)))
    mNx) mNx)
    (mSq (mEx (mMe "list" fAppend (mVar 8) (aCons (mVar 11) aNil)))
    (mSq (mEx (mMe "list" fAppend (mVar 9) (aCons (mA (fP 3 (m_law_whole_view 6)) (aCons (mVar 6) (aCons (mVar 3) (aCons (mVar 10) aNil)))) aNil)))
    mNx))))))
    mNx))
    (mFz 8 (mFz 9 (mSq (mSet 4 (mLc (mSrc (mVar 8)) (gN 12) (mC (.bl true)) (mMe "list" fIndex (mVar 8) (aCons (mVar 12) aNil)) [12]))
    (mSq (mIfS (m2 fNe (mVar 4) (mLc (mSrc (mVar 9)) (gN 13) (mC (.bl true)) (mMe "list" fIndex (mVar 9) (aCons (mVar 13) aNil)) [13])) (mSq (mRetF (mC (.bl false)))
    mNx) mNx)
    (mSq (mFor (mIA iRg1 (aCons (mC (.int 6)) aNil)) (gN 5) (mSq (mPar 3 10 (aCons (mA fTup (aCons (mA (fS 2 m_law_draw) (aCons (mVar 1) (aCons (mC (.int 10)) aNil))) (aCons (mA (fS 2 m_law_draw) (aCons (mVar 1) (aCons (mC (.int 10)) aNil))) aNil))) (aCons (mA (fS 3 m_law_row) (aCons (mVar 1) (aCons (mC (.int 12)) (aCons (mC (.str "blnr")) aNil)))) aNil)))
    (mSq (mIfS (mOr (m2 fNe (mA (fP 3 m_knowledge) (aCons (mVar 6) (aCons (mVar 3) (aCons (mVar 10) aNil)))) (mA (fP 3 m_law_text) (aCons (mVar 6) (aCons (mVar 3) (aCons (mVar 10) aNil))))) (mNot (mTru (mA (fP 2 m_is_knowledge) (aCons (mVar 6) (aCons (mA (fP 3 m_law_text) (aCons (mVar 6) (aCons (mVar 3) (aCons (mVar 10) aNil)))) aNil)))))) (mSq (mRetF (mC (.bl false)))
    mNx) mNx)
    mNx)))
    (mFz 1 (mSq (mRetF (m2 fEq (mA fLst (aCons (mA (fP 3 m_knowledge) (aCons (mC (.int 0)) (aCons (mA fTup (aCons (mC (.int 1)) (aCons (mC (.int 2)) aNil))) (aCons (mC (.str "nr")) aNil)))) (aCons (mA (fP 3 m_knowledge) (aCons (mC (.int 1)) (aCons (mA fTup (aCons (mC (.int 0)) (aCons (mC (.int 1)) aNil))) (aCons (mC (.str "blrnl")) aNil)))) (aCons (mA (fP 3 m_knowledge) (aCons (mC (.int 0)) (aCons (mA fTup (aCons (mC (.int 3)) (aCons (mC (.int 4)) aNil))) (aCons (mC (.str "b")) aNil)))) aNil)))) (mA fLst (aCons (mC (.str "1--")) (aCons (mC (.str "01bl+--")) (aCons (mC (.str "34+")) aNil))))))
    mNx)))))))))))))
abbrev FunAt (K : PySem.W.Frag) (mg : Str → Option Value) (x : Str) (st : Stmt) : Prop := ∃ (f : Addr) (fd : FuncData), FunD K x x (defArgs st) (defBody st) (defScope st) [] [] f fd ∧ mg x = some (.ref f)
structure Env (K : PySem.W.Frag) (mg : Str → Option Value) : Prop where
  f_all : mg "all" = none
  f_bool : mg "bool" = none
  f_enumerate : mg "enumerate" = none
  f_int : mg "int" = none
  f_isinstance : mg "isinstance" = none
  f_len : mg "len" = none
  f_list : mg "list" = none
  f_range : mg "range" = none
  f_str : mg "str" = none
  f_tuple : mg "tuple" = none
  f_zip : mg "zip" = none
  d__law_bag : FunAt K mg "_law_bag" s__law_bag
  d__law_draw : FunAt K mg "_law_draw" s__law_draw
  d__law_of : FunAt K mg "_law_of" s__law_of
  d__law_all_rows : FunAt K mg "_law_all_rows" s__law_all_rows
  d_is_number : FunAt K mg "is_number" s_is_number
  d_is_within : FunAt K mg "is_within" s_is_within
  d_need_hand : FunAt K mg "need_hand" s_need_hand
  d_is_row : FunAt K mg "is_row" s_is_row
  d_need_row : FunAt K mg "need_row" s_need_row
  d_text_of : FunAt K mg "text_of" s_text_of
  d_are_digits : FunAt K mg "are_digits" s_are_digits
  d_knowledge : FunAt K mg "knowledge" s_knowledge
  d__law_row : FunAt K mg "_law_row" s__law_row
  d__law_alike : FunAt K mg "_law_alike" s__law_alike
  d_parts_of : FunAt K mg "parts_of" s_parts_of
  d_is_knowledge : FunAt K mg "is_knowledge" s_is_knowledge
  d__law_hears : FunAt K mg "_law_hears" s__law_hears
  d__law_whole_view : FunAt K mg "_law_whole_view" s__law_whole_view
  d__law_text : FunAt K mg "_law_text" s__law_text
  d_law : FunAt K mg "law" s_law
  g_FIGURES : ∃ (v : V) (u : Value), mg "FIGURES" = some u ∧ RelV v u ∧ ∀ g, Rep K mg g t_FIGURES v
  g_HEARD : ∃ (v : V) (u : Value), mg "HEARD" = some u ∧ RelV v u ∧ ∀ g, Rep K mg g t_HEARD v
  g_SIGNS : ∃ (v : V) (u : Value), mg "SIGNS" = some u ∧ RelV v u ∧ ∀ g, Rep K mg g t_SIGNS v
section
variable {P : Program} {w : World} {K : PySem.W.Frag} {mg : Str → Option Value} {base : Heap}
theorem ok__law_bag (Y : Env K mg) : Has P w K mg base 1 "_law_bag" "_law_bag" s__law_bag ["_law_script"] m_law_bag := by
  obtain ⟨f, fd, F, hm⟩ := Y.d__law_bag
  refine ⟨f, fd, F, hm, def_ok2 (k := 0) F sc__law_bag rfl fun cdv A outer s H E hr tk po => ?_⟩
  have nd := sc__law_bag.nd
  exact (sss_cons (ss_set (i := 1) nd (se_callTy call_list_of mList Y.f_list (sa_cons (se_slice (se_var (i := 0)) so_none (so_some se_int) part_none part_some) sa_nil)))
    (sss_cons (ss_set (i := 2) nd (se_op op_addV mAddV se_int (se_op op_mulV mMulV se_int (se_callB call_lenAll mLen Y.f_len (sa_cons (se_var (i := 1)) sa_nil)))))
    (sss_cons (ss_for po rfl (si_src (se_var (i := 1))) (sg_name (i := 3) nd) (sss_cons (ss_set (i := 2) nd (se_op op_mod mModV (se_callTy call_intAll mInt Y.f_int (sa_cons (se_op op_addV mAddV (se_op op_addV mAddV (se_op op_mulV mMulV (se_var (i := 2)) se_int) (se_op op_mod mModV (se_callTy call_intAll mInt Y.f_int (sa_cons (se_var (i := 3)) sa_nil)) se_int)) se_int) sa_nil)) se_int))
    sss_nil))
    (sss_cons (ss_ret (se_lstN (sa_cons (se_var (i := 1)) (sa_cons se_int (sa_cons se_int (sa_cons (se_var (i := 2)) sa_nil))))))
    sss_nil))))
theorem ok__law_draw (Y : Env K mg) : Has P w K mg base 1 "_law_draw" "_law_draw" s__law_draw ["_law_bag_here", "_law_many"] m_law_draw := by
  obtain ⟨f, fd, F, hm⟩ := Y.d__law_draw
  refine ⟨f, fd, F, hm, def_ok2 (k := 0) F sc__law_draw rfl fun cdv A outer s H E hr tk po => ?_⟩
  have nd := sc__law_draw.nd
  exact (sss_cons (ss_if (sw_st (sw_and (st_cmp (op_eqA hr.units) mEqV blEq (se_ix (se_var (i := 0)) se_int) se_int (nomark _)) (sw_and1 (st_cmp op_ltV mLtV blLt (se_ix (se_var (i := 0)) se_int) (se_callB call_lenAll mLen Y.f_len (sa_cons (se_ix (se_var (i := 0)) se_int) sa_nil)) (nomark _))))) (sss_cons (ss_set (i := 2) nd (se_ix (se_ix (se_var (i := 0)) se_int) (se_ix (se_var (i := 0)) se_int)))
    (sss_cons (ss_asg (se_op op_addV mAddV (se_ix (se_var (i := 0)) se_int) se_int) (sg_sub (se_var (i := 0)) se_int))
    (sss_cons (ss_if (st_cmp op_geV mGeV blGe (se_var (i := 2)) (se_op op_pow mPowV se_int se_int) (nomark _)) (sss_cons (ss_asg (se_var (i := 2)) (sg_sub (se_var (i := 0)) se_int))
    sss_nil) (sss_cons (ss_set (i := 4) nd (se_op op_addV mAddV (se_op op_mulV mMulV (se_ix (se_var (i := 0)) se_int) se_int) (se_op op_mod mModV (se_callTy call_intAll mInt Y.f_int (sa_cons (se_var (i := 2)) sa_nil)) se_int)))
    (sss_cons (ss_asg (se_op op_mod mModV (se_callTy call_intAll mInt Y.f_int (sa_cons (se_op op_addV mAddV (se_var (i := 4)) (se_ix (se_var (i := 0)) se_int)) sa_nil)) se_int) (sg_sub (se_var (i := 0)) se_int))
    sss_nil)))
    sss_nil))) sss_nil)
    (sss_cons (ss_if (st_cmp op_gtV mGtV blGt (se_ix (se_var (i := 0)) se_int) se_int (nomark _)) (sss_cons (ss_set (i := 3) nd (se_op op_mod mModV (se_callTy call_intAll mInt Y.f_int (sa_cons (se_ix (se_var (i := 0)) se_int) sa_nil)) (se_var (i := 1))))
    (sss_cons (ss_asg (se_op op_fdiv mFdivV (se_ix (se_var (i := 0)) se_int) (se_var (i := 1))) (sg_sub (se_var (i := 0)) se_int))
    (sss_cons (ss_retF (se_var (i := 3)))
    sss_nil))) sss_nil)
    (sss_cons (ss_asg (se_op op_mod mModV (se_callTy call_intAll mInt Y.f_int (sa_cons (se_op op_addV mAddV (se_op op_mulV mMulV (se_ix (se_var (i := 0)) se_int) se_int) se_int) sa_nil)) se_int) (sg_sub (se_var (i := 0)) se_int))
    (sss_cons (ss_retF (se_op op_mod mModV (se_callTy call_intAll mInt Y.f_int (sa_cons (se_op op_fdiv mFdivV (se_op op_mod mModV (se_callTy call_intAll mInt Y.f_int (sa_cons (se_op op_mulV mMulV (se_ix (se_var (i := 0)) se_int) (se_ix (se_var (i := 0)) se_int)) sa_nil)) se_int) se_int) sa_nil)) (se_var (i := 1))))
    sss_nil))))
theorem ok__law_of (Y : Env K mg) : Has P w K mg base 2 "_law_of" "_law_of" s__law_of ["_law_bag_here", "_law_things"] m_law_of := by
  have H__law_draw := (ok__law_draw (P := P) (w := w) (base := base) Y).up (k := 1) (by omega)
  obtain ⟨f, fd, F, hm⟩ := Y.d__law_of
  refine ⟨f, fd, F, hm, def_ok2 (k := 1) F sc__law_of rfl fun cdv A outer s H E hr tk po => ?_⟩
  have nd := sc__law_of.nd
  exact (sss_cons (ss_retF (se_ix (se_var (i := 1)) (se_hcall H__law_draw hr tk calls_st b__law_draw (sa_cons (se_var (i := 0)) (sa_cons (se_callB call_lenAll mLen Y.f_len (sa_cons (se_var (i := 1)) sa_nil)) sa_nil)))))
    sss_nil)
theorem ok__law_all_rows (Y : Env K mg) : Has P w K mg base 1 "_law_all_rows" "_law_all_rows" s__law_all_rows ["_law_count"] m_law_all_rows := by
  obtain ⟨f, fd, F, hm⟩ := Y.d__law_all_rows
  refine ⟨f, fd, F, hm, def_ok2 (k := 0) F sc__law_all_rows rfl fun cdv A outer s H E hr tk po => ?_⟩
  have nd := sc__law_all_rows.nd
  exact (sss_cons (ss_set (i := 1) nd (se_lst (sa_cons se_str sa_nil)))
    (sss_cons (ss_for po rfl (si_range1 Y.f_range (sa_cons (se_var (i := 0)) sa_nil)) (sg_name (i := 2) nd) (sss_cons (ss_set (i := 3) nd (se_lst sa_nil))
    (sss_cons (ss_for po rfl (si_src (se_var (i := 1))) (sg_name (i := 4) nd) (sss_cons (ss_set (i := 3) nd (se_op op_addV mAddV (se_var (i := 3)) (se_lc (own := [("_law_sign", 5)]) rfl nd (si_src se_str) (blkOk_at (N := N__law_all_rows) (sc := defScope s__law_all_rows) rfl rfl (by decide +kernel)) rfl (fun _ _ _ _ _ => (sg_name (i := 5) nd)) (fun _ _ _ _ _ => sts_nil) (fun _ _ _ _ _ => (se_op op_addV mAddV (se_var (i := 4)) (se_var (i := 5)))))))
    sss_nil))
    (sss_cons (ss_set (i := 1) nd (se_var (i := 3)))
    sss_nil))))
    (sss_cons (ss_retF (se_var (i := 1)))
    sss_nil)))
theorem ok_is_number (Y : Env K mg) : Has P w K mg base 1 "is_number" "is_number" s_is_number ["value"] m_is_number := by
  obtain ⟨f, fd, F, hm⟩ := Y.d_is_number
  refine ⟨f, fd, F, hm, def_ok2 (k := 0) F sc_is_number rfl fun cdv A outer s H E hr tk po => ?_⟩
  have nd := sc_is_number.nd
  exact (sss_cons (ss_retF (se_and (se_isi .int Y.f_isinstance Y.f_int (se_var (i := 0))) (se_one (se_not (se_isi .bl Y.f_isinstance Y.f_bool (se_var (i := 0)))))))
    sss_nil)
theorem ok_is_within (Y : Env K mg) : Has P w K mg base 2 "is_within" "is_within" s_is_within ["value", "least", "most"] m_is_within := by
  have H_is_number := (ok_is_number (P := P) (w := w) (base := base) Y).up (k := 1) (by omega)
  obtain ⟨f, fd, F, hm⟩ := Y.d_is_within
  refine ⟨f, fd, F, hm, def_ok2 (k := 1) F sc_is_within rfl fun cdv A outer s H E hr tk po => ?_⟩
  have nd := sc_is_within.nd
  exact (sss_cons (ss_retF (se_and (se_hcall H_is_number hr tk calls_pu b_is_number (sa_cons (se_var (i := 0)) sa_nil)) (se_one (se_chain op_leV mLeV blLe op_leV mLeV (se_var (i := 1)) (se_var (i := 0)) (se_var (i := 2))))))
    sss_nil)
theorem ok_need_hand (Y : Env K mg) : Has P w K mg base 3 "need_hand" "need_hand" s_need_hand ["hand"] m_need_hand := by
  have H_is_within := (ok_is_within (P := P) (w := w) (base := base) Y).up (k := 2) (by omega)
  obtain ⟨f, fd, F, hm⟩ := Y.d_need_hand
  refine ⟨f, fd, F, hm, def_ok2 (k := 2) F sc_need_hand rfl fun cdv A outer s H E hr tk po => ?_⟩
  have nd := sc_need_hand.nd
  exact (sss_cons (ss_if (st_not (st_val (se_hcall H_is_within hr tk calls_pu b_is_within (sa_cons (se_var (i := 0)) (sa_cons se_int (sa_cons se_int sa_nil)))))) (sss_cons ss_never
    sss_nil) sss_nil)
    sss_nil)
theorem ok_is_row (Y : Env K mg) : Has P w K mg base 1 "is_row" "is_row" s_is_row ["value"] m_is_row := by
  obtain ⟨v_SIGNS, u_SIGNS, h_SIGNS⟩ := Y.g_SIGNS
  obtain ⟨f, fd, F, hm⟩ := Y.d_is_row
  refine ⟨f, fd, F, hm, def_ok2 (k := 0) F sc_is_row rfl fun cdv A outer s H E hr tk po => ?_⟩
  have nd := sc_is_row.nd
  exact (sss_cons (ss_retF (se_and (se_isi .str Y.f_isinstance Y.f_str (se_var (i := 0))) (se_one (se_callB (cr_all rfl) mAll Y.f_all (sa_cons (se_lc (own := [("sign", 1)]) rfl nd (si_src (se_var (i := 0))) (blkOk_at (N := N_is_row) (sc := defScope s_is_row) rfl rfl (by decide +kernel)) rfl (fun _ _ _ _ _ => (sg_name (i := 1) nd)) (fun _ _ _ _ _ => sts_nil) (fun _ _ _ _ _ => (se_cmp (op_inV (hu65 hr)) mInV (se_var (i := 1)) (se_glob h_SIGNS.1 h_SIGNS.2.1 h_SIGNS.2.2) (by with_unfolding_all rfl)))) sa_nil)))))
    sss_nil)
theorem ok_need_row (Y : Env K mg) : Has P w K mg base 2 "need_row" "need_row" s_need_row ["row"] m_need_row := by
  have H_is_row := (ok_is_row (P := P) (w := w) (base := base) Y).up (k := 1) (by omega)
  obtain ⟨f, fd, F, hm⟩ := Y.d_need_row
  refine ⟨f, fd, F, hm, def_ok2 (k := 1) F sc_need_row rfl fun cdv A outer s H E hr tk po => ?_⟩
  have nd := sc_need_row.nd
  exact (sss_cons (ss_if (st_not (st_val (se_hcall H_is_row hr tk calls_pu b_is_row (sa_cons (se_var (i := 0)) sa_nil)))) (sss_cons ss_never
    sss_nil) sss_nil)
    sss_nil)
theorem ok_text_of (Y : Env K mg) : Has P w K mg base 1 "text_of" "text_of" s_text_of ["hand", "digits", "row"] m_text_of := by
  obtain ⟨v_HEARD, u_HEARD, h_HEARD⟩ := Y.g_HEARD
  obtain ⟨f, fd, F, hm⟩ := Y.d_text_of
  refine ⟨f, fd, F, hm, def_ok2 (k := 0) F sc_text_of rfl fun cdv A outer s H E hr tk po => ?_⟩
  have nd := sc_text_of.nd
  exact (sss_cons (ss_setLc (own := [("at", 4), ("sign", 5)]) (i := 3) rfl nd (si_enum Y.f_enumerate (sa_cons (se_var (i := 2)) sa_nil)) (blkOk_at (N := N_text_of) (sc := defScope s_text_of) rfl rfl (by decide +kernel)) rfl (fun _ _ _ _ _ => (sg_tup rfl (sgs_cons (sg_name (i := 4) nd) (sgs_cons (sg_name (i := 5) nd) sgs_nil)))) (fun _ _ _ _ _ => (sts_one (st_cmp (op_inV (hu65 hr)) mInV blIn (se_var (i := 5)) (se_ix (se_glob h_HEARD.1 h_HEARD.2.1 h_HEARD.2.2) (se_var (i := 0))) (by with_unfolding_all rfl)))) (fun _ _ _ _ _ => (se_var (i := 4))) (by rfl))
    (sss_cons (ss_if (st_cmp (op_eqA hr.units) mEqV blEq (se_var (i := 3)) (se_lst sa_nil) (nomark _)) (sss_cons (ss_retF (se_op op_addV mAddV (se_ix (se_var (i := 1)) (se_var (i := 0))) (se_op op_mulV mMulV se_str (se_callB call_lenAll mLen Y.f_len (sa_cons (se_var (i := 2)) sa_nil)))))
    sss_nil) sss_nil)
    (sss_cons (ss_retF (se_op op_addV mAddV (se_op op_addV mAddV (se_op op_addV mAddV (se_var (i := 1)) (se_slice (se_var (i := 2)) so_none (so_some (se_ix (se_var (i := 3)) (se_neg se_int))) part_none part_some)) se_str) (se_op op_mulV mMulV se_str (se_op op_sub mSubV (se_op op_sub mSubV (se_callB call_lenAll mLen Y.f_len (sa_cons (se_var (i := 2)) sa_nil)) (se_ix (se_var (i := 3)) (se_neg se_int))) se_int))))
    sss_nil)))
theorem ok_are_digits (Y : Env K mg) : Has P w K mg base 3 "are_digits" "are_digits" s_are_digits ["inputs"] m_are_digits := by
  have H_is_within := (ok_is_within (P := P) (w := w) (base := base) Y).up (k := 2) (by omega)
  obtain ⟨f, fd, F, hm⟩ := Y.d_are_digits
  refine ⟨f, fd, F, hm, def_ok2 (k := 2) F sc_are_digits rfl fun cdv A outer s H E hr tk po => ?_⟩
  have nd := sc_are_digits.nd
  exact (sss_cons (ss_retF (se_and (se_isi .tup Y.f_isinstance Y.f_tuple (se_var (i := 0))) (se_and (se_cmp (op_eqA hr.units) mEqV (se_callB call_lenAll mLen Y.f_len (sa_cons (se_var (i := 0)) sa_nil)) se_int (nomark _)) (se_one (se_callB (cr_all rfl) mAll Y.f_all (sa_cons (se_lc (own := [("number", 1)]) rfl nd (si_src (se_var (i := 0))) (blkOk_at (N := N_are_digits) (sc := defScope s_are_digits) rfl rfl (by decide +kernel)) rfl (fun _ _ _ _ _ => (sg_name (i := 1) nd)) (fun _ _ _ _ _ => sts_nil) (fun _ _ _ _ _ => (se_hcall H_is_within hr takes0 calls_pu b_is_within (sa_cons (se_var (i := 1)) (sa_cons se_int (sa_cons se_int sa_nil)))))) sa_nil))))))
    sss_nil)
theorem ok_knowledge (Y : Env K mg) : Has P w K mg base 4 "knowledge" "knowledge" s_knowledge ["hand", "inputs", "row"] m_knowledge := by
  have H_are_digits := (ok_are_digits (P := P) (w := w) (base := base) Y).up (k := 3) (by omega)
  have H_need_hand := (ok_need_hand (P := P) (w := w) (base := base) Y).up (k := 3) (by omega)
  have H_need_row := (ok_need_row (P := P) (w := w) (base := base) Y).up (k := 3) (by omega)
  have H_text_of := (ok_text_of (P := P) (w := w) (base := base) Y).up (k := 3) (by omega)
  obtain ⟨f, fd, F, hm⟩ := Y.d_knowledge
  refine ⟨f, fd, F, hm, def_ok2 (k := 3) F sc_knowledge rfl fun cdv A outer s H E hr tk po => ?_⟩
  have nd := sc_knowledge.nd
  exact (sss_cons (ss_expr (se_hcall H_need_hand hr tk calls_pu b_need_hand (sa_cons (se_var (i := 0)) sa_nil)))
    (sss_cons (ss_if (st_not (st_val (se_hcall H_are_digits hr tk calls_pu b_are_digits (sa_cons (se_var (i := 1)) sa_nil)))) (sss_cons ss_never
    sss_nil) sss_nil)
    (sss_cons (ss_expr (se_hcall H_need_row hr tk calls_pu b_need_row (sa_cons (se_var (i := 2)) sa_nil)))
    (sss_cons (ss_retF (se_hcall H_text_of hr tk calls_pu b_text_of (sa_cons (se_var (i := 0)) (sa_cons (se_fstr (sj_cons (se_fmt (se_ix (se_var (i := 1)) se_int)) (sj_cons (se_fmt (se_ix (se_var (i := 1)) se_int)) sj_nil))) (sa_cons (se_var (i := 2)) sa_nil)))))
    sss_nil))))
theorem ok__law_row (Y : Env K mg) : Has P w K mg base 3 "_law_row" "_law_row" s__law_row ["_law_bag_here", "_law_most", "_law_signs"] m_law_row := by
  have H__law_draw := (ok__law_draw (P := P) (w := w) (base := base) Y).up (k := 2) (by omega)
  have H__law_of := (ok__law_of (P := P) (w := w) (base := base) Y).up (k := 2) (by omega)
  obtain ⟨f, fd, F, hm⟩ := Y.d__law_row
  refine ⟨f, fd, F, hm, def_ok2 (k := 2) F sc__law_row rfl fun cdv A outer s H E hr tk po => ?_⟩
  have nd := sc__law_row.nd
  exact (sss_cons (ss_retF (se_bm PySem.F.plainAttrs_str PySem.F.slot_str_join PySem.F.type_str_join mt_join meJoin se_str (sa_cons (se_lc (own := [("_law_place", 3)]) rfl nd (si_range1 Y.f_range (sa_cons (se_hcall H__law_draw hr tk calls_st b__law_draw (sa_cons (se_var (i := 0)) (sa_cons (se_op op_addV mAddV (se_var (i := 1)) se_int) sa_nil))) sa_nil)) (blkOk_at (N := N__law_row) (sc := defScope s__law_row) rfl rfl (by decide +kernel)) rfl (fun _ _ _ _ _ => (sg_name (i := 3) nd)) (fun _ _ _ _ _ => sts_nil) (fun _ _ _ _ _ => (se_hcall H__law_of hr takes0 calls_st b__law_of (sa_cons (se_var (i := 0)) (sa_cons (se_var (i := 2)) sa_nil))))) sa_nil)))
    sss_nil)
theorem ok__law_alike (Y : Env K mg) (n : Nat) : Has P w K mg base (1 + n) "_law_alike" "_law_alike" s__law_alike ["_law_found", "_law_due"] (m_law_alike n) := by
  induction n with
  | zero =>
    obtain ⟨f, fd, F, hm⟩ := Y.d__law_alike
    exact ⟨f, fd, F, hm, fnOk_stuck F sc__law_alike⟩
  | succ n ih =>
    obtain ⟨f, fd, F, hm⟩ := Y.d__law_alike
    refine ⟨f, fd, F, hm, def_ok2 F sc__law_alike rfl fun cdv A outer s H E hr tk po => ?_⟩
    have nd := sc__law_alike.nd
    exact (sss_cons (ss_if (sw_st (sw_or (st_cmp op_isV mIsV blIs (se_var (i := 1)) se_non (nomark _)) (sw_or1 (st_cmp op_isV mIsV blIs (se_var (i := 0)) se_non (nomark _))))) (sss_cons (ss_retF (se_and (se_cmp op_isV mIsV (se_var (i := 1)) se_non (nomark _)) (se_one (se_cmp op_isV mIsV (se_var (i := 0)) se_non (nomark _)))))
      sss_nil) sss_nil)
      (sss_cons (ss_for po rfl (si_src (se_tup (sa_cons se_int (sa_cons se_int (sa_cons se_int sa_nil))))) (sg_name (i := 2) nd) (sss_cons (ss_if (sw_st (sw_and (st_cmp (op_eqA hr.units) mEqV blEq (se_var (i := 2)) se_int (nomark _)) (sw_and1 (sw_st (sw_or (st_val (se_isi .bl Y.f_isinstance Y.f_bool (se_var (i := 1)))) (sw_or1 (st_val (se_isi .bl Y.f_isinstance Y.f_bool (se_var (i := 0)))))))))) (sss_cons (ss_retF (se_and (se_isi .bl Y.f_isinstance Y.f_bool (se_var (i := 1))) (se_and (se_isi .bl Y.f_isinstance Y.f_bool (se_var (i := 0))) (se_one (se_cmp (op_eqA hr.units) mEqV (se_var (i := 0)) (se_var (i := 1)) (nomark _))))))
      sss_nil) sss_nil)
      (sss_cons (ss_if (sw_st (sw_and (st_cmp (op_eqA hr.units) mEqV blEq (se_var (i := 2)) se_int (nomark _)) (sw_and1 (sw_st (sw_or (st_val (se_isi .str Y.f_isinstance Y.f_str (se_var (i := 1)))) (sw_or1 (st_val (se_isi .str Y.f_isinstance Y.f_str (se_var (i := 0)))))))))) (sss_cons (ss_retF (se_and (se_isi .str Y.f_isinstance Y.f_str (se_var (i := 1))) (se_and (se_isi .str Y.f_isinstance Y.f_str (se_var (i := 0))) (se_one (se_cmp (op_eqA hr.units) mEqV (se_var (i := 0)) (se_var (i := 1)) (nomark _))))))
      sss_nil) sss_nil)
      (sss_cons (ss_if (sw_st (sw_and (st_cmp (op_eqA hr.units) mEqV blEq (se_var (i := 2)) se_int (nomark _)) (sw_and1 (sw_st (sw_or (st_val (se_isi .int Y.f_isinstance Y.f_int (se_var (i := 1)))) (sw_or1 (st_val (se_isi .int Y.f_isinstance Y.f_int (se_var (i := 0)))))))))) (sss_cons (ss_retF (se_and (se_isi .int Y.f_isinstance Y.f_int (se_var (i := 1))) (se_and (se_isi .int Y.f_isinstance Y.f_int (se_var (i := 0))) (se_one (se_cmp (op_eqA hr.units) mEqV (se_var (i := 0)) (se_var (i := 1)) (nomark _))))))
      sss_nil) sss_nil)
      sss_nil))))
      (sss_cons (ss_if (sw_st (sw_or (st_cmp (op_neA hr.units) mNeV blNe (se_isi .tup Y.f_isinstance Y.f_tuple (se_var (i := 1))) (se_isi .tup Y.f_isinstance Y.f_tuple (se_var (i := 0))) (nomark _)) (sw_or1 (st_cmp (op_neA hr.units) mNeV blNe (se_isi .lst Y.f_isinstance Y.f_list (se_var (i := 1))) (se_isi .lst Y.f_isinstance Y.f_list (se_var (i := 0))) (nomark _))))) (sss_cons (ss_retF se_bl)
      sss_nil) sss_nil)
      (sss_cons (ss_retF (se_and (se_cmp (op_eqA hr.units) mEqV (se_callB call_lenAll mLen Y.f_len (sa_cons (se_var (i := 0)) sa_nil)) (se_callB call_lenAll mLen Y.f_len (sa_cons (se_var (i := 1)) sa_nil)) (nomark _)) (se_one (se_callB (cr_all rfl) mAll Y.f_all (sa_cons (se_lc (own := [("_law_one", 3), ("_law_two", 4)]) rfl nd (si_zip Y.f_zip (sa_cons (se_var (i := 0)) (sa_cons (se_var (i := 1)) sa_nil))) (blkOk_at (N := N__law_alike) (sc := defScope s__law_alike) rfl rfl (by decide +kernel)) rfl (fun _ _ _ _ _ => (sg_tup rfl (sgs_cons (sg_name (i := 3) nd) (sgs_cons (sg_name (i := 4) nd) sgs_nil)))) (fun _ _ _ _ _ => sts_nil) (fun _ _ _ _ _ => (se_hcall ih hr takes0 calls_pu b__law_alike (sa_cons (se_var (i := 3)) (sa_cons (se_var (i := 4)) sa_nil))))) sa_nil)))))
      sss_nil))))
theorem ok_parts_of (Y : Env K mg) : Has P w K mg base 2 "parts_of" "parts_of" s_parts_of ["text"] m_parts_of := by
  obtain ⟨v_FIGURES, u_FIGURES, h_FIGURES⟩ := Y.g_FIGURES
  have H_is_row := (ok_is_row (P := P) (w := w) (base := base) Y).up (k := 1) (by omega)
  obtain ⟨f, fd, F, hm⟩ := Y.d_parts_of
  refine ⟨f, fd, F, hm, def_ok2 (k := 1) F sc_parts_of rfl fun cdv A outer s H E hr tk po => ?_⟩
  have nd := sc_parts_of.nd
  exact (sss_cons (ss_if (st_not (st_val (se_isi .str Y.f_isinstance Y.f_str (se_var (i := 0))))) (sss_cons (ss_retF se_non)
    sss_nil) sss_nil)
    (sss_cons (ss_set (i := 1) nd (se_bm PySem.F.plainAttrs_str PySem.F.slot_str_rstrip PySem.F.type_str_rstrip mt_rstripChars meRstrip (se_var (i := 0)) (sa_cons se_str sa_nil)))
    (sss_cons (ss_set (i := 2) nd (se_op op_sub mSubV (se_callB call_lenAll mLen Y.f_len (sa_cons (se_var (i := 0)) sa_nil)) (se_callB call_lenAll mLen Y.f_len (sa_cons (se_var (i := 1)) sa_nil))))
    (sss_cons (ss_if (sw_st (sw_and (st_cmp (op_eqA hr.units) mEqV blEq (se_callB call_lenAll mLen Y.f_len (sa_cons (se_var (i := 1)) sa_nil)) se_int (nomark _)) (sw_and1 (st_cmp (op_inV (hu65 hr)) mInV blIn (se_var (i := 1)) (se_glob h_FIGURES.1 h_FIGURES.2.1 h_FIGURES.2.2) (by with_unfolding_all rfl))))) (sss_cons (ss_retF (se_tup (sa_cons (se_var (i := 1)) (sa_cons se_non (sa_cons (se_var (i := 2)) sa_nil)))))
    sss_nil) sss_nil)
    (sss_cons (ss_if (sw_st (sw_or (st_cmp op_ltV mLtV blLt (se_callB call_lenAll mLen Y.f_len (sa_cons (se_var (i := 1)) sa_nil)) se_int (nomark _)) (sw_or (st_cmp (op_neA hr.units) mNeV blNe (se_ix (se_var (i := 1)) (se_neg se_int)) se_str (nomark _)) (sw_or (st_cmp (op_notinV (hu65 hr)) mInV blIn (se_ix (se_var (i := 1)) se_int) (se_glob h_FIGURES.1 h_FIGURES.2.1 h_FIGURES.2.2) (by with_unfolding_all rfl)) (sw_or1 (st_cmp (op_notinV (hu65 hr)) mInV blIn (se_ix (se_var (i := 1)) se_int) (se_glob h_FIGURES.1 h_FIGURES.2.1 h_FIGURES.2.2) (by with_unfolding_all rfl))))))) (sss_cons (ss_retF se_non)
    sss_nil) sss_nil)
    (sss_cons (ss_retF (se_if (st_val (se_hcall H_is_row hr tk calls_pu b_is_row (sa_cons (se_slice (se_var (i := 1)) (so_some se_int) (so_some (se_neg se_int)) part_some part_some) sa_nil))) (se_tup (sa_cons (se_slice (se_var (i := 1)) so_none (so_some se_int) part_none part_some) (sa_cons (se_slice (se_var (i := 1)) (so_some se_int) (so_some (se_neg se_int)) part_some part_some) (sa_cons (se_var (i := 2)) sa_nil)))) se_non))
    sss_nil))))))
theorem ok_is_knowledge (Y : Env K mg) : Has P w K mg base 4 "is_knowledge" "is_knowledge" s_is_knowledge ["hand", "text"] m_is_knowledge := by
  have H_need_hand := (ok_need_hand (P := P) (w := w) (base := base) Y).up (k := 3) (by omega)
  have H_parts_of := (ok_parts_of (P := P) (w := w) (base := base) Y).up (k := 3) (by omega)
  obtain ⟨f, fd, F, hm⟩ := Y.d_is_knowledge
  refine ⟨f, fd, F, hm, def_ok2 (k := 3) F sc_is_knowledge rfl fun cdv A outer s H E hr tk po => ?_⟩
  have nd := sc_is_knowledge.nd
  exact (sss_cons (ss_expr (se_hcall H_need_hand hr tk calls_pu b_need_hand (sa_cons (se_var (i := 0)) sa_nil)))
    (sss_cons (ss_retF (se_cmp op_isnotV mIsV (se_hcall H_parts_of hr tk calls_pu b_parts_of (sa_cons (se_var (i := 1)) sa_nil)) se_non (nomark _)))
    sss_nil))
theorem ok__law_hears (Y : Env K mg) : Has P w K mg base 1 "_law_hears" "_law_hears" s__law_hears ["_law_my_hand", "_law_sign"] m_law_hears := by
  obtain ⟨f, fd, F, hm⟩ := Y.d__law_hears
  refine ⟨f, fd, F, hm, def_ok2 (k := 0) F sc__law_hears rfl fun cdv A outer s H E hr tk po => ?_⟩
  have nd := sc__law_hears.nd
  exact (sss_cons (ss_retF (se_cmp (op_inV (hu65 hr)) mInV (se_var (i := 1)) (se_ix (se_lst (sa_cons se_str (sa_cons se_str sa_nil))) (se_var (i := 0))) (by with_unfolding_all rfl)))
    sss_nil)
theorem ok__law_whole_view (Y : Env K mg) (n : Nat) : Has P w K mg base (2 + n) "_law_whole_view" "_law_whole_view" s__law_whole_view ["_law_my_hand", "_law_my_inputs", "_law_my_row"] (m_law_whole_view n) := by
  induction n with
  | zero =>
    obtain ⟨f, fd, F, hm⟩ := Y.d__law_whole_view
    exact ⟨f, fd, F, hm, fnOk_stuck F sc__law_whole_view⟩
  | succ n ih =>
    have H__law_hears := (ok__law_hears (P := P) (w := w) (base := base) Y).up (k := 2 + n) (by omega)
    obtain ⟨f, fd, F, hm⟩ := Y.d__law_whole_view
    refine ⟨f, fd, F, hm, def_ok2 F sc__law_whole_view rfl fun cdv A outer s H E hr tk po => ?_⟩
    have nd := sc__law_whole_view.nd
    exact (sss_cons (ss_if (st_cmp (op_eqA hr.units) mEqV blEq (se_var (i := 2)) se_str (nomark _)) (sss_cons (ss_retF (se_tup (sa_cons (se_ix (se_var (i := 1)) (se_var (i := 0))) sa_nil)))
      sss_nil) sss_nil)
      (sss_cons (ss_set (i := 3) nd (se_hcall ih hr tk calls_pu b__law_whole_view (sa_cons (se_var (i := 0)) (sa_cons (se_var (i := 1)) (sa_cons (se_slice (se_var (i := 2)) so_none (so_some (se_neg se_int)) part_none part_some) sa_nil)))))
      (sss_cons (ss_if (st_not (st_val (se_hcall H__law_hears hr tk calls_pu b__law_hears (sa_cons (se_var (i := 0)) (sa_cons (se_ix (se_var (i := 2)) (se_neg se_int)) sa_nil))))) (sss_cons (ss_retF (se_tup (sa_cons (se_var (i := 3)) sa_nil)))
      sss_nil) sss_nil)
      (sss_cons (ss_retF (se_tup (sa_cons (se_var (i := 3)) (sa_cons (se_hcall ih hr tk calls_pu b__law_whole_view (sa_cons (se_op op_sub mSubV se_int (se_var (i := 0))) (sa_cons (se_var (i := 1)) (sa_cons (se_slice (se_var (i := 2)) so_none (so_some (se_neg se_int)) part_none part_some) sa_nil)))) sa_nil))))
      sss_nil))))
theorem ok__law_text (Y : Env K mg) : Has P w K mg base 2 "_law_text" "_law_text" s__law_text ["_law_my_hand", "_law_my_inputs", "_law_my_row"] m_law_text := by
  have H__law_hears := (ok__law_hears (P := P) (w := w) (base := base) Y).up (k := 1) (by omega)
  obtain ⟨f, fd, F, hm⟩ := Y.d__law_text
  refine ⟨f, fd, F, hm, def_ok2 (k := 1) F sc__law_text rfl fun cdv A outer s H E hr tk po => ?_⟩
  have nd := sc__law_text.nd
  exact (sss_cons (ss_set (i := 3) nd (se_neg se_int))
    (sss_cons (ss_for po rfl (si_range1 Y.f_range (sa_cons (se_callB call_lenAll mLen Y.f_len (sa_cons (se_var (i := 2)) sa_nil)) sa_nil)) (sg_name (i := 4) nd) (sss_cons (ss_set (i := 3) nd (se_if (st_val (se_hcall H__law_hears hr tk calls_pu b__law_hears (sa_cons (se_var (i := 0)) (sa_cons (se_ix (se_var (i := 2)) (se_var (i := 4))) sa_nil)))) (se_var (i := 4)) (se_var (i := 3))))
    sss_nil))
    (sss_cons (ss_if (st_cmp op_ltV mLtV blLt (se_var (i := 3)) se_int (nomark _)) (sss_cons (ss_retF (se_op op_addV mAddV (se_callTy call_str_int mStrI Y.f_str (sa_cons (se_ix (se_var (i := 1)) (se_var (i := 0))) sa_nil)) (se_op op_mulV mMulV se_str (se_callB call_lenAll mLen Y.f_len (sa_cons (se_var (i := 2)) sa_nil)))))
    sss_nil) sss_nil)
    (sss_cons (ss_set (i := 5) nd (se_op op_addV mAddV (se_callTy call_str_int mStrI Y.f_str (sa_cons (se_ix (se_var (i := 1)) se_int) sa_nil)) (se_callTy call_str_int mStrI Y.f_str (sa_cons (se_ix (se_var (i := 1)) se_int) sa_nil))))
    (sss_cons (ss_retF (se_op op_addV mAddV (se_op op_addV mAddV (se_op op_addV mAddV (se_var (i := 5)) (se_slice (se_var (i := 2)) so_none (so_some (se_var (i := 3))) part_none part_some)) se_str) (se_op op_mulV mMulV se_str (se_op op_sub mSubV (se_op op_sub mSubV (se_callB call_lenAll mLen Y.f_len (sa_cons (se_var (i := 2)) sa_nil)) (se_var (i := 3))) se_int))))
    sss_nil)))))
theorem ok_law (Y : Env K mg) : Has P w K mg base 10 "law" "law" s_law ["_law_script"] m_law := by
  have H__law_alike := (ok__law_alike (P := P) (w := w) (base := base) Y 8).up (k := 9) (by omega)
  have H__law_all_rows := (ok__law_all_rows (P := P) (w := w) (base := base) Y).up (k := 9) (by omega)
  have H__law_bag := (ok__law_bag (P := P) (w := w) (base := base) Y).up (k := 9) (by omega)
  have H__law_draw := (ok__law_draw (P := P) (w := w) (base := base) Y).up (k := 9) (by omega)
  have H__law_of := (ok__law_of (P := P) (w := w) (base := base) Y).up (k := 9) (by omega)
  have H__law_row := (ok__law_row (P := P) (w := w) (base := base) Y).up (k := 9) (by omega)
  have H__law_text := (ok__law_text (P := P) (w := w) (base := base) Y).up (k := 9) (by omega)
  have H__law_whole_view := (ok__law_whole_view (P := P) (w := w) (base := base) Y 6).up (k := 9) (by omega)
  have H_is_knowledge := (ok_is_knowledge (P := P) (w := w) (base := base) Y).up (k := 9) (by omega)
  have H_knowledge := (ok_knowledge (P := P) (w := w) (base := base) Y).up (k := 9) (by omega)
  obtain ⟨f, fd, F, hm⟩ := Y.d_law
  refine ⟨f, fd, F, hm, def_ok2 (k := 9) F sc_law rfl fun cdv A outer s H E hr tk po => ?_⟩
  have nd := sc_law.nd
  exact (sss_cons (ss_set (i := 1) nd (se_hcall H__law_bag hr tk calls_st b__law_bag (sa_cons (se_var (i := 0)) sa_nil)))
    (sss_cons (ss_par (i := 6) (j := 7) rfl nd (sa_cons (se_hcall H__law_draw hr tk calls_st b__law_draw (sa_cons (se_var (i := 1)) (sa_cons se_int sa_nil))) (sa_cons (se_hcall H__law_of hr tk calls_st b__law_of (sa_cons (se_var (i := 1)) (sa_cons (se_lst (sa_cons se_int (sa_cons se_int (sa_cons se_int (sa_cons se_int sa_nil))))) sa_nil))) sa_nil)))
    (sss_cons (ss_set (i := 2) nd (se_lst (sa_cons (se_tup (sa_cons (se_hcall H__law_draw hr tk calls_st b__law_draw (sa_cons (se_var (i := 1)) (sa_cons se_int sa_nil))) (sa_cons (se_hcall H__law_draw hr tk calls_st b__law_draw (sa_cons (se_var (i := 1)) (sa_cons se_int sa_nil))) sa_nil))) (sa_cons (se_tup (sa_cons (se_hcall H__law_draw hr tk calls_st b__law_draw (sa_cons (se_var (i := 1)) (sa_cons se_int sa_nil))) (sa_cons (se_hcall H__law_draw hr tk calls_st b__law_draw (sa_cons (se_var (i := 1)) (sa_cons se_int sa_nil))) sa_nil))) sa_nil))))
    (sss_cons (ss_asg (se_tup (sa_cons (se_lstN sa_nil) (sa_cons (se_lstN sa_nil) sa_nil))) (sg_tup rfl (sgs_cons (sg_name (i := 8) nd) (sgs_cons (sg_name (i := 9) nd) sgs_nil))))
    (sss_cons (ss_for po rfl (si_src (se_var (i := 2))) (sg_name (i := 3) nd) (sss_cons (ss_for po rfl (si_src (se_hcall H__law_all_rows hr tk calls_pu b__law_all_rows (sa_cons (se_var (i := 7)) sa_nil))) (sg_name (i := 10) nd) (sss_cons (ss_set (i := 11) nd (se_hcall H_knowledge hr tk calls_pu b_knowledge (sa_cons (se_var (i := 6)) (sa_cons (se_var (i := 3)) (sa_cons (se_var (i := 10)) sa_nil)))))
    (sss_cons (ss_if (st_not (st_val (se_hcall H__law_alike hr tk calls_pu b__law_alike (sa_cons (se_lst (sa_cons (se_var (i := 11)) (sa_cons (se_hkw0 (ks := ["row", "inputs", "hand"]) (is := [2, 1, 0]) H_knowledge hr tk calls_pu (fun _ _ _ _ _ _ us ws h1 h2 => match us, ws, h1, h2 with | [], [_, _, _], _, _ => rfl) (sk_cons (se_var (i := 10)) (sk_cons (se_var (i := 3)) (sk_cons (se_var (i := 6)) sk_nil)))) sa_nil))) (sa_cons (se_op op_mulV mMulV (se_lst (sa_cons (se_hcall H__law_text hr tk calls_pu b__law_text (sa_cons (se_var (i := 6)) (sa_cons (se_var (i := 3)) (sa_cons (se_var (i := 10)) sa_nil)))) sa_nil)) se_int) sa_nil))))) (sss_cons (ss_retF se_bl)
    sss_nil) sss_nil)
    (sss_cons (ss_if (st_cmp op_isnotV mIsV blIs (se_hcall H_is_knowledge hr tk calls_pu b_is_knowledge (sa_cons (se_var (i := 6)) (sa_cons (se_var (i := 11)) sa_nil))) se_bl (nomark _)) (sss_cons (ss_retF se_bl)
    sss_nil) sss_nil)
    (sss_cons (ss_expr (se_bm PySem.F.plainAttrs_list PySem.F.slot_list_append PySem.F.type_list_append mt_append meAppend (se_var (i := 8)) (sa_cons (se_var (i := 11)) sa_nil)))
    (sss_cons (ss_expr (se_bm PySem.F.plainAttrs_list PySem.F.slot_list_append PySem.F.type_list_append mt_append meAppend (se_var (i := 9)) (sa_cons (se_hcall H__law_whole_view hr tk calls_pu b__law_whole_view (sa_cons (se_var (i := 6)) (sa_cons (se_var (i := 3)) (sa_cons (se_var (i := 10)) sa_nil)))) sa_nil)))
    sss_nil))))))
    sss_nil))
    (sss_fz 8 (sss_fz 9 (sss_cons (ss_setLc (own := [("_law_text_here", 12)]) (i := 4) rfl nd (si_src (se_var (i := 8))) (blkOk_at (N := N_law) (sc := defScope s_law) rfl rfl (by decide +kernel)) rfl (fun _ _ _ _ _ => (sg_name (i := 12) nd)) (fun _ _ _ _ _ => sts_nil) (fun _ _ _ _ _ => (se_bm PySem.F.plainAttrs_list PySem.F.slot_list_index PySem.F.type_list_index (mt_indexD (hu65 hr)) meIndex (se_var (i := 8)) (sa_cons (se_var (i := 12)) sa_nil))) (by rfl))
    (sss_cons (ss_if (st_cmp (op_neA hr.units) mNeV blNe (se_var (i := 4)) (se_lc (own := [("_law_view", 13)]) rfl nd (si_src (se_var (i := 9))) (blkOk_at (N := N_law) (sc := defScope s_law) rfl rfl (by decide +kernel)) rfl (fun _ _ _ _ _ => (sg_name (i := 13) nd)) (fun _ _ _ _ _ => sts_nil) (fun _ _ _ _ _ => (se_bm PySem.F.plainAttrs_list PySem.F.slot_list_index PySem.F.type_list_index (mt_indexD (hu65 hr)) meIndex (se_var (i := 9)) (sa_cons (se_var (i := 13)) sa_nil)))) (nomark _)) (sss_cons (ss_retF se_bl)
    sss_nil) sss_nil)
    (sss_cons (ss_for po rfl (si_range1 Y.f_range (sa_cons se_int sa_nil)) (sg_name (i := 5) nd) (sss_cons (ss_par (i := 3) (j := 10) rfl nd (sa_cons (se_tup (sa_cons (se_hcall H__law_draw hr tk calls_st b__law_draw (sa_cons (se_var (i := 1)) (sa_cons se_int sa_nil))) (sa_cons (se_hcall H__law_draw hr tk calls_st b__law_draw (sa_cons (se_var (i := 1)) (sa_cons se_int sa_nil))) sa_nil))) (sa_cons (se_hcall H__law_row hr tk calls_st b__law_row (sa_cons (se_var (i := 1)) (sa_cons se_int (sa_cons se_str sa_nil)))) sa_nil)))
    (sss_cons (ss_if (sw_st (sw_or (st_cmp (op_neA hr.units) mNeV blNe (se_hcall H_knowledge hr tk calls_pu b_knowledge (sa_cons (se_var (i := 6)) (sa_cons (se_var (i := 3)) (sa_cons (se_var (i := 10)) sa_nil)))) (se_hcall H__law_text hr tk calls_pu b__law_text (sa_cons (se_var (i := 6)) (sa_cons (se_var (i := 3)) (sa_cons (se_var (i := 10)) sa_nil)))) (nomark _)) (sw_or1 (st_not (st_val (se_hcall H_is_knowledge hr tk calls_pu b_is_knowledge (sa_cons (se_var (i := 6)) (sa_cons (se_hcall H__law_text hr tk calls_pu b__law_text (sa_cons (se_var (i := 6)) (sa_cons (se_var (i := 3)) (sa_cons (se_var (i := 10)) sa_nil)))) sa_nil)))))))) (sss_cons (ss_retF se_bl)
    sss_nil) sss_nil)
    sss_nil)))
    (sss_fz 1 (sss_cons (ss_retF (se_cmp (op_eqA hr.units) mEqV (se_lst (sa_cons (se_hcall H_knowledge hr tk calls_pu b_knowledge (sa_cons se_int (sa_cons (se_tup (sa_cons se_int (sa_cons se_int sa_nil))) (sa_cons se_str sa_nil)))) (sa_cons (se_hcall H_knowledge hr tk calls_pu b_knowledge (sa_cons se_int (sa_cons (se_tup (sa_cons se_int (sa_cons se_int sa_nil))) (sa_cons se_str sa_nil)))) (sa_cons (se_hcall H_knowledge hr tk calls_pu b_knowledge (sa_cons se_int (sa_cons (se_tup (sa_cons se_int (sa_cons se_int sa_nil))) (sa_cons se_str sa_nil)))) sa_nil)))) (se_lst (sa_cons se_str (sa_cons se_str (sa_cons se_str sa_nil)))) (nomark _)))
    sss_nil))))))))))))
end
end L_k46
end part_W46
section part_P46
set_option maxRecDepth 100000
set_option maxHeartbeats 2000000
/-! the plain law of k46 -/
namespace L_k46
open PySem PySem.Spec PyProof.Rows L2 Mi
def hI (h : Bool) : Int := if h then 1 else 0
def hb (h : Bool) (c : Nat) : Bool := if h then decide (c = 98 ∨ c = 114) else decide (c = 98 ∨ c = 108)
def OkR (l : List Nat) : Prop := ∀ c ∈ l, c ∈ [98, 108, 110, 114]
theorem e_bl : ("bl" : Str) = sS [98, 108] := by decide +kernel
theorem e_br : ("br" : Str) = sS [98, 114] := by decide +kernel
theorem e_signs : ("blnr" : Str) = sS [98, 108, 110, 114] := by decide +kernel
theorem e_dash : ("-" : Str) = sS [45] := by decide +kernel
theorem e_plus : ("+" : Str) = sS [43] := by decide +kernel
theorem e_figs : ("0123456789" : Str) = sS [48, 49, 50, 51, 52, 53, 54, 55, 56, 57] := by decide +kernel
theorem e_none : ("" : Str) = sS [] := by decide +kernel
theorem strIn_c (c : Nat) (l : List Nat) : strIn (sS [c]) (sS l) = decide (c ∈ l) := by
  show decide (c ∈ (sS l).cps.toList) = _
  rw [sS_list]
theorem in_heard (h : Bool) (c : Nat) : (h = true → decide (c ∈ [98, 114]) = hb h c) ∧ (h = false → decide (c ∈ [98, 108]) = hb h c) := by
  unfold hb
  constructor <;> (intro e; subst e; simp)
theorem hears_ok (h : Bool) (c : Nat) (m : MH) : m_law_hears [.int (hI h), .str (sS [c])] m = .ok (.bl (hb h c)) m := by
  cases h with
  | false =>
    have e : m_law_hears [.int (hI false), .str (sS [c])] m = .ok (.bl (strIn (sS [c]) ("bl" : Str))) m := rfl
    rw [e, e_bl, strIn_c, (in_heard false c).2 rfl]
  | true =>
    have e : m_law_hears [.int (hI true), .str (sS [c])] m = .ok (.bl (strIn (sS [c]) ("br" : Str))) m := rfl
    rw [e, e_br, strIn_c, (in_heard true c).1 rfl]
theorem chr_sS (l : List Nat) : chrT (sS l) = l.map fun c => .str (sS [c]) := by
  unfold chrT
  rw [sS_list]
  rfl
theorem bls_map {α : Type} (xs : List α) : blsOf (xs.map fun _ => T.bl true) = some (xs.map fun _ => true) := by
  induction xs with
  | nil => rfl
  | cons x xs ih => simp only [List.map_cons, blsOf, ih, Option.map_some]
theorem all_map {α : Type} (xs : List α) : ((xs.map fun _ => true).all id) = true := by
  induction xs with
  | nil => rfl
  | cons x xs ih => simpa using ih
theorem fAll_map {α : Type} (xs : List α) (h : MH) : fAll [.lst (xs.map fun _ => T.bl true)] h = .ok (.bl true) h := by
  simp only [fAll, fBls, lstOf, bls_map, all_map]
theorem is_row_ok {l : List Nat} (hl : OkR l) (hn : l.length ≤ big) (m : MH) : m_is_row [.str (sS l)] m = .ok (.bl true) m := by
  have e1 : mLc (mSrc (mVar 0)) (gN 1) (mC (.bl true)) (m2 (fIn false) (mVar 1) (mC t_SIGNS)) [1] [some (.str (sS l)), none] m = .ok (.lst (l.map fun _ => .bl true)) m := by
    show lcFrom _ _ _ [some (.str (sS l)), none] (chrT (sS l)) [] m = _
    rw [chr_sS, lc_map (f := fun _ => .bl true) _ (fun x hx => ?_) (by simpa using hn), List.map_map]
    · rfl
    · obtain ⟨c, hc, rfl⟩ := List.mem_map.mp hx
      refine ⟨_, rfl, rfl, ?_⟩
      show R.ok (.bl (strIn (sS [c]) ("blnr" : Str))) m = _
      rw [e_signs, strIn_c, decide_eq_true (hl c hc)]
  simp only [m_is_row, mi, ms, mz, mty, e1, fAll_map, Nat.reduceAdd, Nat.reduceSub]
theorem need_row_ok {l : List Nat} (hl : OkR l) (hn : l.length ≤ big) (m : MH) : m_need_row [.str (sS l)] m = .ok .non m := by
  have e : (fP 1 m_is_row) [.str (sS l)] m = .ok (.bl true) m := by
    show (if [T.str (sS l)].length = 1 ∧ closedL [T.str (sS l)] = true then pureR (m_is_row [.str (sS l)] []) m else .stuck) = _
    rw [if_pos ⟨rfl, rfl⟩, is_row_ok hl hn]
    rfl
  simp only [m_need_row, mi, ms, mz, mty, e, Nat.reduceAdd, Nat.reduceSub, Bool.not_true]
theorem within_ok {d lo hi : Int} (h1 : lo ≤ d) (h2 : d ≤ hi) (m : MH) : m_is_within [.int d, .int lo, .int hi] m = .ok (.bl true) m := by
  have e : (fP 1 m_is_number) [.int d] m = .ok (.bl true) m := rfl
  have e2 : ∀ a b : Int, a ≤ b → fLe (.int a) (.int b) m = .ok (.bl true) m := fun a b q => by
    show R.ok (T.bl (decide (a ≤ b))) m = _
    rw [decide_eq_true q]
  simp only [m_is_within, mi, ms, mz, mty, e, mChain, e2 _ _ h1, e2 _ _ h2, Nat.reduceAdd, Nat.reduceSub]
theorem fP_ok {n : Nat} {f : MF} {ts : List T} {t : T} {h h' : MH} (e : f ts [] = .ok t h') (hn : ts.length = n) (hc : closedL ts = true) (ht : closed t = true) : fP n f ts h = .ok t h := by
  unfold fP
  rw [if_pos ⟨hn, hc⟩, e]
  show (if closed t = true then R.ok t h else .stuck) = _
  rw [if_pos ht]
theorem need_hand_ok (h : Bool) (m : MH) : m_need_hand [.int (hI h)] m = .ok .non m := by
  have e : (fP 3 m_is_within) [.int (hI h), .int 0, .int 1] m = .ok (.bl true) m := fP_ok (within_ok (by cases h <;> decide) (by cases h <;> decide) []) rfl rfl rfl
  simp only [m_need_hand, mi, ms, mz, mty, e, Nat.reduceAdd, Nat.reduceSub, Bool.not_true]
theorem are_digits_ok {a b : Nat} (ha : a ≤ 9) (hb : b ≤ 9) (m : MH) : m_are_digits [.tup [.int a, .int b]] m = .ok (.bl true) m := by
  have e1 : ∀ d : Nat, d ≤ 9 → (fP 3 m_is_within) [.int d, .int 0, .int 9] m = .ok (.bl true) m := fun d hd => fP_ok (within_ok (by omega) (by omega) []) rfl rfl rfl
  have e2 : mLc (mSrc (mVar 0)) (gN 1) (mC (.bl true)) (mA (fP 3 m_is_within) (aCons (mVar 1) (aCons (mC (.int 0)) (aCons (mC (.int 9)) aNil)))) [1] [some (.tup [.int a, .int b]), none] m = .ok (.lst ([T.int a, .int b].map fun _ => .bl true)) m := by
    have q : mLc (mSrc (mVar 0)) (gN 1) (mC (.bl true)) (mA (fP 3 m_is_within) (aCons (mVar 1) (aCons (mC (.int 0)) (aCons (mC (.int 9)) aNil)))) [1] [some (.tup [.int a, .int b]), none] m = lcFrom (gN 1) (mC (.bl true)) (mA (fP 3 m_is_within) (aCons (mVar 1) (aCons (mC (.int 0)) (aCons (mC (.int 9)) aNil)))) [some (.tup [.int a, .int b]), none] [.int a, .int b] [] m := rfl
    rw [q]
    refine lc_map (f := fun _ => .bl true) _ (fun x hx => ?_) (by show 2 ≤ big; decide)
    rcases List.mem_cons.mp hx with rfl | hx
    · exact ⟨_, rfl, rfl, by simp only [mi, ms, e1 a ha]⟩
    · rcases List.mem_cons.mp hx with rfl | hx
      · exact ⟨_, rfl, rfl, by simp only [mi, ms, e1 b hb]⟩
      · cases hx
  have e3 : fLen [.tup [.int a, .int b]] m = .ok (.int 2) m := rfl
  simp only [m_are_digits, mi, ms, mz, mty, e2, e3, fEq_i, decide_true, fAll_map, Nat.reduceAdd, Nat.reduceSub]
/-! ### the text of a knowledge -/
def idx (h : Bool) : Nat → List Nat → List Nat
  | _, [] => []
  | n, c :: l => if hb h c then n :: idx h (n + 1) l else idx h (n + 1) l
def pE (h : Bool) : T → Bool := fun t => match t with
  | .tup [_, .str z] => match z.cps.toList with
    | [c] => hb h c
    | _ => false
  | _ => false
def fE : T → T := fun t => match t with
  | .tup [i, _] => i
  | _ => .non
def chs (l : List Nat) : List T := l.map fun c => .str (sS [c])
theorem en_idx (h : Bool) : ∀ (l : List Nat) (n : Nat), ((enumT n (chs l)).filter (pE h)).map fE = (idx h n l).map fun k => T.int (k : Nat)
  | [], n => rfl
  | c :: l, n => by
    have ih := en_idx h l (n + 1)
    show (((T.tup [.int (n : Nat), .str (sS [c])]) :: enumT (n + 1) (chs l)).filter (pE h)).map fE = _
    have e : pE h (.tup [.int (n : Nat), .str (sS [c])]) = hb h c := rfl
    rw [List.filter_cons, e]
    unfold idx
    cases hb h c with
    | true => simp only [if_true, List.map_cons, ih]; rfl
    | false => simpa using ih
theorem mem_en : ∀ {l : List Nat} {n : Nat} {x : T}, x ∈ enumT n (chs l) → ∃ (k : Nat) (c : Nat), x = .tup [.int (k : Nat), .str (sS [c])]
  | [], _, x, h => by cases h
  | c :: l, n, x, h => by
    rcases List.mem_cons.mp (show x ∈ (T.tup [.int (n : Nat), .str (sS [c])]) :: enumT (n + 1) (chs l) from h) with e | e
    · exact ⟨n, c, e⟩
    · exact mem_en e
theorem heard_ix (h : Bool) (m : MH) : fIx t_HEARD (.int (hI h)) m = .ok (.str (if h then ("br" : Str) else ("bl" : Str))) m := by cases h <;> rfl
theorem in_hd (h : Bool) (c : Nat) (m : MH) : fIn false (.str (sS [c])) (.str (if h then ("br" : Str) else ("bl" : Str))) m = .ok (.bl (hb h c)) m := by
  cases h with
  | false =>
    show R.ok (.bl (strIn (sS [c]) ("bl" : Str))) m = _
    rw [e_bl, strIn_c, (in_heard false c).2 rfl]
  | true =>
    show R.ok (.bl (strIn (sS [c]) ("br" : Str))) m = _
    rw [e_br, strIn_c, (in_heard true c).1 rfl]
theorem hear_lc (h : Bool) (dg : T) (l : List Nat) (hn : l.length ≤ 1000) (m : MH) :
    mLc (mIA iEn (aCons (mVar 2) aNil)) (gT 2 (gsCons (gN 4) (gsCons (gN 5) gsNil))) (m2 (fIn false) (mVar 5) (m2 fIx (mC t_HEARD) (mVar 0))) (mVar 4) [4, 5] [some (.int (hI h)), some dg, some (.str (sS l)), none, none, none] m
      = .ok (.lst ((idx h 0 l).map fun k => T.int (k : Nat))) m := by
  have q : mLc (mIA iEn (aCons (mVar 2) aNil)) (gT 2 (gsCons (gN 4) (gsCons (gN 5) gsNil))) (m2 (fIn false) (mVar 5) (m2 fIx (mC t_HEARD) (mVar 0))) (mVar 4) [4, 5] [some (.int (hI h)), some dg, some (.str (sS l)), none, none, none] m
    = lcFrom (gT 2 (gsCons (gN 4) (gsCons (gN 5) gsNil))) (m2 (fIn false) (mVar 5) (m2 fIx (mC t_HEARD) (mVar 0))) (mVar 4) [some (.int (hI h)), some dg, some (.str (sS l)), none, none, none] (enumT 0 (chrT (sS l))) [] m := rfl
  rw [q, chr_sS]
  have z := lc_fm (mgt := gT 2 (gsCons (gN 4) (gsCons (gN 5) gsNil))) (mt := m2 (fIn false) (mVar 5) (m2 fIx (mC t_HEARD) (mVar 0))) (me := mVar 4) (s0 := [some (.int (hI h)), some dg, some (.str (sS l)), none, none, none]) (h := m) (p := pE h) (f := fE) (enumT 0 (chs l)) [] (fun x hx => ?_) (by rw [enumT_len]; simp [chs, big]; omega)
  · rw [List.nil_append, en_idx] at z
    exact z
  · obtain ⟨k, c, rfl⟩ := mem_en hx
    refine ⟨_, rfl, ?_, fun _ => rfl⟩
    simp only [mi, ms, heard_ix, in_hd]
    rfl
theorem toDs_ints (xs : List Nat) : toDs (xs.map fun k => T.int (k : Nat)) = some (xs.map fun k => PyData.int (k : Nat)) := by
  induction xs with
  | nil => rfl
  | cons x xs ih => simp only [List.map_cons, toDs, toD, ih]
theorem lay_ints (xs : List Nat) : PyData.canLayAll0 (xs.map fun k => PyData.int (k : Nat)) = true ∧ PyData.depthAll (xs.map fun k => PyData.int (k : Nat)) = 0 := by
  induction xs with
  | nil => exact ⟨rfl, rfl⟩
  | cons x xs ih => simp only [List.map_cons, PyData.canLayAll0, PyData.canLay0, PyData.depthAll, PyData.depth, ih, Bool.true_and, Nat.max_self, and_self]
theorem shaped_ints (xs : List Nat) : SeqAt.shaped (.list (xs.map fun k => PyData.int (k : Nat))) = true := by
  unfold SeqAt.shaped
  simp only [PyData.canLay0, PyData.depth, lay_ints, Bool.true_and]
  decide
theorem eqv_ints : ∀ xs ys : List Nat, PyData.eqvAll (xs.map fun k => PyData.int (k : Nat)) (ys.map fun k => PyData.int (k : Nat)) = decide (xs = ys)
  | [], [] => rfl
  | [], y :: ys => by simp [PyData.eqvAll]
  | x :: xs, [] => by simp [PyData.eqvAll]
  | x :: xs, y :: ys => by
    simp only [List.map_cons, PyData.eqvAll, PyData.eqv, eqv_ints xs ys]
    by_cases h : x = y
    · subst h; simp
    · have : ((x : Nat) : Int) ≠ (y : Nat) := by omega
      simp [h, this]
theorem fEq_ints (xs ys : List Nat) (h : MH) : fEq (.lst (xs.map fun k => T.int (k : Nat))) (.lst (ys.map fun k => T.int (k : Nat))) h = .ok (.bl (decide (xs = ys))) h := by
  show with2 _ _ _ = _
  simp only [with2, toD, toDs_ints, Option.map_some, shaped_ints, Bool.and_self, if_true, PyData.eqv, eqv_ints]
theorem fNe_ints (xs ys : List Nat) (h : MH) : fNe (.lst (xs.map fun k => T.int (k : Nat))) (.lst (ys.map fun k => T.int (k : Nat))) h = .ok (.bl (!decide (xs = ys))) h := by
  show with2 _ _ _ = _
  simp only [with2, toD, toDs_ints, Option.map_some, shaped_ints, Bool.and_self, if_true, PyData.eqv, eqv_ints]
theorem idx_lt (h : Bool) : ∀ (l : List Nat) (n k : Nat), k ∈ idx h n l → n ≤ k ∧ k < n + l.length
  | [], n, k, q => by cases q
  | c :: l, n, k, q => by
    unfold idx at q
    have ih := idx_lt h l (n + 1) k
    simp only [List.length_cons]
    cases e : hb h c with
    | true =>
      rw [e, if_pos rfl] at q
      rcases List.mem_cons.mp q with q | q
      · omega
      · have := ih q; omega
    | false =>
      rw [e, if_neg (by simp)] at q
      have := ih q; omega
def TX (h : Bool) (a b : Nat) (l : List Nat) : List Nat := match (idx h 0 l).getLast? with
  | none => (48 + if h then b else a) :: List.replicate l.length 45
  | some k => (48 + a) :: (48 + b) :: (l.take k ++ 43 :: List.replicate (l.length - k - 1) 45)
theorem sel_ix (h : Bool) (a b : Nat) (m : MH) : fIx (.str (sS [48 + a, 48 + b])) (.int (hI h)) m = .ok (.str (sS [48 + if h then b else a])) m := by cases h <;> rfl
theorem fSl_to {l : List Nat} {k : Nat} {m : MH} (hn : l.length ≤ big) : fSl (.str (sS l)) .non (.int (k : Nat)) m = .ok (.str (sS (l.take k))) m := by
  show (if (sS l).length ≤ big then R.ok (T.str (cutS (sS l) none (some (k : Int)))) m else .stuck) = _
  rw [sS_len, if_pos hn, cutS_to]
theorem fIx_lastI {xs : List Nat} {k : Nat} {m : MH} : fIx (.lst ((xs ++ [k]).map fun k => T.int (k : Nat))) (.int (-1)) m = .ok (.int (k : Nat)) m := by
  show (match atI ((xs ++ [k]).map fun k => T.int (k : Nat)) (-1) with
    | some z => R.ok z m
    | none => .stuck) = _
  rw [List.map_append, List.map_singleton, Mi.atI_last]
theorem big_of {n : Nat} (h : n ≤ 2000) : n ≤ big := by unfold big; omega
theorem text_of_ok (h : Bool) (a b : Nat) (l : List Nat) (hn : l.length ≤ 500) (m : MH) : m_text_of [.int (hI h), .str (sS [48 + a, 48 + b]), .str (sS l)] m = .ok (.str (sS (TX h a b l))) m := by
  have e1 := hear_lc h (.str (sS [48 + a, 48 + b])) l (by omega) m
  have e2 : ∀ xs : List Nat, fEq (.lst (xs.map fun k => T.int (k : Nat))) (.lst []) m = .ok (.bl (decide (xs = []))) m := fun xs => fEq_ints xs [] m
  have e3 : fLst [] m = .ok (.lst []) m := rfl
  have e20 : fEq (.lst []) (.lst []) m = .ok (.bl true) m := rfl
  unfold TX
  rcases List.eq_nil_or_concat (idx h 0 l) with q | ⟨xs, k, q⟩
  · rw [q] at e1 ⊢
    have e4 : fAdd (.str (sS [48 + if h then b else a])) (.str (sS (List.replicate l.length 45))) m = .ok (.str (sS ([48 + if h then b else a] ++ List.replicate l.length 45))) m := fAdd_s (big_of (by simp; omega))
    simp only [m_text_of, mi, ms, mz, mty, e1, e20, e3, decide_true, sel_ix, e_dash, fLen_s (big_of (show l.length ≤ 2000 by omega)), fMul_s (show l.length ≤ 1000 by omega), e4, Nat.reduceAdd, Nat.reduceSub, List.map_nil, List.getLast?_nil]
    rfl
  · rw [List.concat_eq_append] at q
    have hk := idx_lt h l 0 k (by rw [q]; simp)
    rw [q] at e1 ⊢
    have ne : (xs ++ [k]) ≠ [] := by simp
    have e5 : fSub (.int (l.length : Nat)) (.int (k : Nat)) m = .ok (.int ((l.length : Int) - (k : Int))) m := rfl
    have e6 : fSub (.int ((l.length : Int) - (k : Int))) (.int 1) m = .ok (.int ((l.length - k - 1 : Nat) : Int)) m := by
      show R.ok (T.int ((l.length : Int) - (k : Int) - 1)) m = _
      congr 2; omega
    have e7 : fAdd (.str (sS [48 + a, 48 + b])) (.str (sS (l.take k))) m = .ok (.str (sS ([48 + a, 48 + b] ++ l.take k))) m := fAdd_s (big_of (by simp; omega))
    have e8 : fAdd (.str (sS ([48 + a, 48 + b] ++ l.take k))) (.str (sS [43])) m = .ok (.str (sS ([48 + a, 48 + b] ++ l.take k ++ [43]))) m := fAdd_s (big_of (by simp; omega))
    have e9 : fAdd (.str (sS ([48 + a, 48 + b] ++ l.take k ++ [43]))) (.str (sS (List.replicate (l.length - k - 1) 45))) m = .ok (.str (sS ([48 + a, 48 + b] ++ l.take k ++ [43] ++ List.replicate (l.length - k - 1) 45))) m := fAdd_s (big_of (by simp; omega))
    simp only [m_text_of, mi, ms, mz, mty, e1, e2, e3, decide_eq_false ne, e_dash, e_plus, fLen_s (big_of (show l.length ≤ 2000 by omega)), fMul_s (show l.length - k - 1 ≤ 1000 by omega), fIx_lastI, fSl_to (big_of (show l.length ≤ 2000 by omega)), e5, e6, e7, e8, e9, Nat.reduceAdd, Nat.reduceSub, List.getLast?_concat]
    congr 3
    simp
/-! ### knowledge -/
theorem dig_str {a : Nat} (ha : a ≤ 9) : ((toString ((a : Nat) : Int) : String) : Str) = sS [48 + a] ∧ ((a : Nat) : Int).natAbs.log2 < 1920 := by
  have q : a = 0 ∨ a = 1 ∨ a = 2 ∨ a = 3 ∨ a = 4 ∨ a = 5 ∨ a = 6 ∨ a = 7 ∨ a = 8 ∨ a = 9 := by omega
  rcases q with rfl | rfl | rfl | rfl | rfl | rfl | rfl | rfl | rfl | rfl <;> exact ⟨by decide +kernel, by decide +kernel⟩
theorem fFmt_dig {a : Nat} (ha : a ≤ 9) (m : MH) : fFmt (.int (a : Nat)) m = .ok (.str (sS [48 + a])) m := by
  show (if ((a : Nat) : Int).natAbs.log2 < 1920 then R.ok (T.str ((toString ((a : Nat) : Int) : String) : Str)) m else .stuck) = _
  rw [if_pos (dig_str ha).2, (dig_str ha).1]
theorem fStrI_dig {a : Nat} (ha : a ≤ 9) (m : MH) : fStrI [.int (a : Nat)] m = .ok (.str (sS [48 + a])) m := by
  show (if ((a : Nat) : Int).natAbs.log2 < 1920 then R.ok (T.str ((toString ((a : Nat) : Int) : String) : Str)) m else .stuck) = _
  rw [if_pos (dig_str ha).2, (dig_str ha).1]
theorem knowledge_ok (h : Bool) {a b : Nat} (ha : a ≤ 9) (hb : b ≤ 9) {l : List Nat} (hl : OkR l) (hn : l.length ≤ 500) (m : MH) : m_knowledge [.int (hI h), .tup [.int (a : Nat), .int (b : Nat)], .str (sS l)] m = .ok (.str (sS (TX h a b l))) m := by
  have e1 : (fP 1 m_need_hand) [.int (hI h)] m = .ok .non m := fP_ok (need_hand_ok h []) rfl rfl rfl
  have e2 : (fP 1 m_are_digits) [.tup [.int (a : Nat), .int (b : Nat)]] m = .ok (.bl true) m := fP_ok (are_digits_ok ha hb []) rfl rfl rfl
  have e3 : (fP 1 m_need_row) [.str (sS l)] m = .ok .non m := fP_ok (need_row_ok hl (big_of (by omega)) []) rfl rfl rfl
  have e4 : (fP 3 m_text_of) [.int (hI h), .str (sS [48 + a, 48 + b]), .str (sS l)] m = .ok (.str (sS (TX h a b l))) m := fP_ok (text_of_ok h a b l hn []) rfl rfl rfl
  have x0 : fIx (.tup [.int (a : Nat), .int (b : Nat)]) (.int 0) m = .ok (.int (a : Nat)) m := rfl
  have x1 : fIx (.tup [.int (a : Nat), .int (b : Nat)]) (.int 1) m = .ok (.int (b : Nat)) m := rfl
  have j1 : Str.empty ++ sS [48 + a] = sS [48 + a] := sS_app [] [48 + a]
  have j2 : sS [48 + a] ++ sS [48 + b] = sS [48 + a, 48 + b] := sS_app _ _
  have b1 : (sS [48 + a]).length ≤ big := by rw [sS_len]; exact big_of (by simp)
  have b2 : (sS [48 + a, 48 + b]).length ≤ big := by rw [sS_len]; exact big_of (by simp)
  simp only [m_knowledge, mi, ms, mz, mty, e1, e2, e3, e4, mJ, fJ, x0, x1, fFmt_dig ha, fFmt_dig hb, j1, j2, if_pos b1, if_pos b2, Bool.not_true, Nat.reduceAdd, Nat.reduceSub]
/-! ### the law's text -/
theorem for_inv2 {mgt : MG} {mb : MS} {I : List T → SM → MH → Prop} {all : List T} : ∀ (xs pre : List T) (s : SM) (h : MH), all = pre ++ xs → I pre s h →
    (∀ pre x post s h, all = pre ++ x :: post → I pre s h → ∃ s1 h1 s2 h2, mgt x s h = .ok s1 h1 ∧ (mb s1 h1 = .nx s2 h2 ∨ mb s1 h1 = .ct s2 h2) ∧ I (pre ++ [x]) s2 h2) →
    ∃ s' h', forFrom mgt mb xs s h = .nx s' h' ∧ I all s' h'
  | [], pre, s, h, ha, hI, _ => ⟨s, h, rfl, by rw [ha, List.append_nil]; exact hI⟩
  | x :: xs, pre, s, h, ha, hI, st => by
    obtain ⟨s1, h1, s2, h2, e1, e2, hI2⟩ := st pre x xs s h ha hI
    obtain ⟨s', h', e3, hI3⟩ := for_inv2 (all := all) xs (pre ++ [x]) s2 h2 (by rw [ha]; simp) hI2 st
    refine ⟨s', h', ?_, hI3⟩
    unfold forFrom
    rw [e1]
    dsimp only
    rcases e2 with e2 | e2 <;> (rw [e2]; dsimp only; exact e3)
theorem idx_snoc (h : Bool) (c : Nat) : ∀ (l : List Nat) (n : Nat), idx h n (l ++ [c]) = idx h n l ++ (if hb h c then [n + l.length] else [])
  | [], n => by
    show (if hb h c then n :: [] else []) = _
    cases hb h c <;> simp [idx]
  | d :: l, n => by
    have ih := idx_snoc h c l (n + 1)
    simp only [List.cons_append, idx, ih, List.length_cons]
    cases hb h d <;> cases hb h c <;> simp <;> omega
def lstI (h : Bool) (l : List Nat) : Int := match (idx h 0 l).getLast? with
  | none => -1
  | some k => k
theorem lstI_snoc (h : Bool) (l : List Nat) (c : Nat) : lstI h (l ++ [c]) = if hb h c then (l.length : Int) else lstI h l := by
  unfold lstI
  rw [idx_snoc]
  cases hb h c with
  | true => simp
  | false => simp
theorem intsT_at {n : Nat} {pre post : List T} {x : T} (e : intsT 0 n = pre ++ x :: post) : x = .int (pre.length : Nat) ∧ pre.length < n := by
  have hl : pre.length < n := by
    have := congrArg List.length e
    rw [intsT_len, List.length_append, List.length_cons] at this
    omega
  have := intsT_get n 0 pre.length hl
  rw [e] at this
  simp at this
  exact ⟨this, hl⟩
theorem law_text_ok (h : Bool) {a b : Nat} (ha : a ≤ 9) (hb' : b ≤ 9) {l : List Nat} (hn : l.length ≤ 500) (m : MH) : m_law_text [.int (hI h), .tup [.int (a : Nat), .int (b : Nat)], .str (sS l)] m = .ok (.str (sS (TX h a b l))) m := by
  have e0 : iRg1 [.int (l.length : Nat)] m = .ok (intsT 0 l.length) m := by
    have : rgOk (l.length : Nat) = true := by unfold rgOk; simp only [Bool.and_eq_true, decide_eq_true_eq]; omega
    simp only [iRg1, this, if_true]
    rfl
  obtain ⟨s', h', e1, z, rfl, rfl⟩ := for_inv2 (mgt := gN 4) (mb := mSq (mSet 3 (mIf (mTru (mA (fP 2 m_law_hears) (aCons (mVar 0) (aCons (m2 fIx (mVar 2) (mVar 4)) aNil)))) (mVar 4) (mVar 3))) mNx)
    (I := fun pre s h' => ∃ z, h' = m ∧ s = [some (.int (hI h)), some (.tup [.int (a : Nat), .int (b : Nat)]), some (.str (sS l)), some (.int (lstI h (l.take pre.length))), z, none]) (all := intsT 0 l.length) (intsT 0 l.length) []
    [some (.int (hI h)), some (.tup [.int (a : Nat), .int (b : Nat)]), some (.str (sS l)), some (.int (-1)), none, none] m rfl ⟨none, rfl, rfl⟩ (by
      rintro pre x post s h' e ⟨z, rfl, rfl⟩
      obtain ⟨rfl, hp⟩ := intsT_at e
      refine ⟨_, h', [some (.int (hI h)), some (.tup [.int (a : Nat), .int (b : Nat)]), some (.str (sS l)), some (.int (lstI h (l.take (pre.length + 1)))), some (.int (pre.length : Nat)), none], h', rfl, .inl ?_, some (.int (pre.length : Nat)), rfl, by rw [List.length_append]; rfl⟩
      have q1 : fIx (.str (sS l)) (.int (pre.length : Nat)) h' = .ok (.str (sS [l[pre.length]])) h' := fIx_s (big_of (by omega)) (atI_nat hp)
      have q2 : (fP 2 m_law_hears) [.int (hI h), .str (sS [l[pre.length]])] h' = .ok (.bl (hb h l[pre.length])) h' := fP_ok (hears_ok h _ []) rfl rfl rfl
      have q3 : l.take (pre.length + 1) = l.take pre.length ++ [l[pre.length]] := by rw [List.take_succ, List.getElem?_eq_getElem hp]; rfl
      rw [q3, lstI_snoc]
      have q4 : (l.take pre.length).length = pre.length := by simp; omega
      rw [q4]
      cases q5 : hb h l[pre.length] with
      | true =>
        rw [q5] at q2
        simp only [mi, ms, q1, q2, if_true]
      | false =>
        rw [q5] at q2
        simp only [mi, ms, q1, q2, if_false, Bool.false_eq_true])
  rw [intsT_len, List.take_length] at e1
  have x0 : fIx (.tup [.int (a : Nat), .int (b : Nat)]) (.int 0) h' = .ok (.int (a : Nat)) h' := rfl
  have x1 : fIx (.tup [.int (a : Nat), .int (b : Nat)]) (.int 1) h' = .ok (.int (b : Nat)) h' := rfl
  have xh : fIx (.tup [.int (a : Nat), .int (b : Nat)]) (.int (hI h)) h' = .ok (.int ((if h then b else a : Nat) : Nat)) h' := by cases h <;> rfl
  have hs : (if h then b else a) ≤ 9 := by cases h <;> simpa
  unfold TX
  unfold lstI at e1
  rcases List.eq_nil_or_concat (idx h 0 l) with q | ⟨xs, k, q⟩
  · rw [q] at e1 ⊢
    have e4 : fAdd (.str (sS [48 + if h then b else a])) (.str (sS (List.replicate l.length 45))) h' = .ok (.str (sS ([48 + if h then b else a] ++ List.replicate l.length 45))) h' := fAdd_s (big_of (by simp; omega))
    have e5 : fLt (.int (-1)) (.int 0) h' = .ok (.bl true) h' := rfl
    simp only [List.getLast?_nil] at e1
    simp only [m_law_text, mi, ms, mz, mty, e0, e1, e5, xh, fStrI_dig hs, e_dash, fLen_s (big_of (show l.length ≤ 2000 by omega)), fMul_s (show l.length ≤ 1000 by omega), e4, Nat.reduceAdd, Nat.reduceSub, List.getLast?_nil]
    rfl
  · rw [List.concat_eq_append] at q
    have hk := idx_lt h l 0 k (by rw [q]; simp)
    rw [q] at e1 ⊢
    simp only [List.getLast?_concat] at e1
    have e2 : fLt (.int (k : Nat)) (.int 0) h' = .ok (.bl false) h' := by
      show R.ok (T.bl (decide (((k : Nat) : Int) < 0))) h' = _
      rw [decide_eq_false (by omega)]
    have e5 : fSub (.int (l.length : Nat)) (.int (k : Nat)) h' = .ok (.int ((l.length : Int) - (k : Int))) h' := rfl
    have e6 : fSub (.int ((l.length : Int) - (k : Int))) (.int 1) h' = .ok (.int ((l.length - k - 1 : Nat) : Int)) h' := by
      show R.ok (T.int ((l.length : Int) - (k : Int) - 1)) h' = _
      congr 2; omega
    have ea : fAdd (.str (sS [48 + a])) (.str (sS [48 + b])) h' = .ok (.str (sS ([48 + a, 48 + b]))) h' := fAdd_s (big_of (by simp))
    have e7 : fAdd (.str (sS [48 + a, 48 + b])) (.str (sS (l.take k))) h' = .ok (.str (sS ([48 + a, 48 + b] ++ l.take k))) h' := fAdd_s (big_of (by simp; omega))
    have e8 : fAdd (.str (sS ([48 + a, 48 + b] ++ l.take k))) (.str (sS [43])) h' = .ok (.str (sS ([48 + a, 48 + b] ++ l.take k ++ [43]))) h' := fAdd_s (big_of (by simp; omega))
    have e9 : fAdd (.str (sS ([48 + a, 48 + b] ++ l.take k ++ [43]))) (.str (sS (List.replicate (l.length - k - 1) 45))) h' = .ok (.str (sS ([48 + a, 48 + b] ++ l.take k ++ [43] ++ List.replicate (l.length - k - 1) 45))) h' := fAdd_s (big_of (by simp; omega))
    simp only [m_law_text, mi, ms, mz, mty, e0, e1, e2, x0, x1, fStrI_dig ha, fStrI_dig hb', ea, e_dash, e_plus, fLen_s (big_of (show l.length ≤ 2000 by omega)), fMul_s (show l.length - k - 1 ≤ 1000 by omega), fSl_to (big_of (show l.length ≤ 2000 by omega)), e5, e6, e7, e8, e9, Nat.reduceAdd, Nat.reduceSub, List.getLast?_concat]
    congr 3
    simp
/-! ### views -/
def vwR (h : Bool) (a b : Nat) : List Nat → T
  | [] => .tup [.int ((if h then b else a : Nat) : Nat)]
  | c :: r => if hb h c then .tup [vwR h a b r, vwR (!h) a b r] else .tup [vwR h a b r]
theorem vwR_closed (a b : Nat) : ∀ (r : List Nat) (h : Bool), closed (vwR h a b r) = true
  | [], h => rfl
  | c :: r, h => by
    unfold vwR
    cases hb h c with
    | true => simp [closed, closedL, vwR_closed a b r]
    | false => simp [closed, closedL, vwR_closed a b r]
theorem sub_hand (h : Bool) (m : MH) : fSub (.int 1) (.int (hI h)) m = .ok (.int (hI (!h))) m := by cases h <;> rfl
theorem fSl_but {l : List Nat} {m : MH} (hn : l.length ≤ big) : fSl (.str (sS l)) .non (.int (-1)) m = .ok (.str (sS l.dropLast)) m := by
  show (if (sS l).length ≤ big then R.ok (T.str (cutS (sS l) none (some (-1)))) m else .stuck) = _
  rw [sS_len, if_pos hn, cutS_butlast]
theorem fEq_s (l k : List Nat) (m : MH) : fEq (.str (sS l)) (.str (sS k)) m = .ok (.bl (decide (l = k))) m := by
  show R.ok (T.bl (decide (sS l = sS k))) m = _
  congr 2
  exact decide_eq_decide.mpr sS_inj
theorem fNe_s (l k : List Nat) (m : MH) : fNe (.str (sS l)) (.str (sS k)) m = .ok (.bl (!decide (l = k))) m := by
  show R.ok (T.bl (!decide (sS l = sS k))) m = _
  congr 3
  exact decide_eq_decide.mpr sS_inj
theorem view_ok (a b : Nat) : ∀ (n : Nat) (h : Bool) (l : List Nat) (m : MH), l.length < n → l.length ≤ 500 → m_law_whole_view n [.int (hI h), .tup [.int (a : Nat), .int (b : Nat)], .str (sS l)] m = .ok (vwR h a b l.reverse) m
  | 0, h, l, m, hn, _ => absurd hn (Nat.not_lt_zero _)
  | n + 1, h, l, m, hn, h5 => by
    have xh : fIx (.tup [.int (a : Nat), .int (b : Nat)]) (.int (hI h)) m = .ok (.int ((if h then b else a : Nat) : Nat)) m := by cases h <;> rfl
    rcases List.eq_nil_or_concat l with q | ⟨k, c, q⟩
    · subst q
      have e1 : fTup [T.int ((if h then b else a : Nat) : Nat)] m = .ok (.tup [.int ((if h then b else a : Nat) : Nat)]) m := rfl
      simp only [m_law_whole_view, mi, ms, mz, mty, e_none, fEq_s, decide_true, xh, e1, Nat.reduceAdd, Nat.reduceSub, List.reverse_nil, vwR]
    · rw [List.concat_eq_append] at q
      subst q
      rw [List.length_append, List.length_singleton] at hn h5
      have ne : (k ++ [c]) ≠ [] := by simp
      have e1 : ∀ h', (fP 3 (m_law_whole_view n)) [T.int (hI h'), T.tup [T.int (a : Nat), T.int (b : Nat)], T.str (sS k)] m = .ok (vwR h' a b k.reverse) m := fun h' => fP_ok (h := m) (view_ok a b n h' k [] (by omega) (by omega)) rfl rfl (vwR_closed a b k.reverse h')
      have e2 : fIx (.str (sS (k ++ [c]))) (.int (-1)) m = .ok (.str (sS [c])) m := fIx_s (big_of (by simp; omega)) Mi.atI_last
      have e3 : (fP 2 m_law_hears) [.int (hI h), .str (sS [c])] m = .ok (.bl (hb h c)) m := fP_ok (hears_ok h _ []) rfl rfl rfl
      have e4 : ∀ t, fTup [t] m = .ok (.tup [t]) m := fun t => rfl
      have e5 : ∀ t u, fTup [t, u] m = .ok (.tup [t, u]) m := fun t u => rfl
      have e6 := fSl_but (l := k ++ [c]) (m := m) (big_of (by simp; omega))
      rw [List.dropLast_concat] at e6
      rw [List.reverse_concat]
      unfold vwR
      cases q5 : hb h c with
      | true =>
        rw [q5] at e3
        simp only [m_law_whole_view, mi, ms, mz, mty, e_none, fEq_s, decide_eq_false ne, e6, e1, e2, e3, Bool.not_true, sub_hand, e5, Nat.reduceAdd, Nat.reduceSub, if_true]
      | false =>
        rw [q5] at e3
        simp only [m_law_whole_view, mi, ms, mz, mty, e_none, fEq_s, decide_eq_false ne, e6, e1, e2, e3, Bool.not_false, sub_hand, e4, Nat.reduceAdd, Nat.reduceSub, if_false, Bool.false_eq_true]
/-! ### the text, sign by sign from the end; equal texts for equal views -/
def TR (h : Bool) (a b : Nat) : List Nat → List Nat
  | [] => [48 + if h then b else a]
  | c :: r => if hb h c then (48 + a) :: (48 + b) :: (r.reverse ++ [43]) else TR h a b r ++ [45]
theorem TX_TR (h : Bool) (a b : Nat) : ∀ r : List Nat, TX h a b r.reverse = TR h a b r
  | [] => rfl
  | c :: r => by
    have ih := TX_TR h a b r
    rw [List.reverse_cons]
    unfold TX at ih ⊢
    rw [idx_snoc]
    unfold TR
    cases q : hb h c with
    | true => simp
    | false =>
      simp only [if_false, Bool.false_eq_true, List.append_nil]
      rw [← ih]
      rcases List.eq_nil_or_concat (idx h 0 r.reverse) with q1 | ⟨xs, k, q1⟩
      · rw [q1]
        simp [List.replicate_succ']
      · rw [List.concat_eq_append] at q1
        have hk := idx_lt h r.reverse 0 k (by rw [q1]; simp)
        rw [q1]
        simp only [List.getLast?_concat, List.length_append, List.length_singleton, List.cons_append, List.append_assoc]
        have e1 : (r.reverse ++ [c]).take k = r.reverse.take k := by rw [List.take_append_of_le_length (by omega)]
        have e2 : r.reverse.length + 1 - k - 1 = (r.reverse.length - k - 1) + 1 := by omega
        rw [e1, e2, List.replicate_succ']
/-- both hands' views tell the row -/
theorem both_views {a b a' b' : Nat} : ∀ {r r' : List Nat}, r.length = r'.length → OkR r → OkR r' → (∀ h, vwR h a b r = vwR h a' b' r') → r = r' ∧ a = a' ∧ b = b'
  | [], [], _, _, _, e => by
    have e0 := e false
    have e1 := e true
    simp [vwR] at e0 e1
    exact ⟨rfl, by omega, by omega⟩
  | c :: r, c' :: r', hl, o, o', e => by
    have key : ∀ h, hb h c = hb h c' ∧ vwR h a b r = vwR h a' b' r' := fun h => by
      have z := e h
      unfold vwR at z
      cases q : hb h c <;> cases q' : hb h c' <;> rw [q, q'] at z <;> simp at z
      · exact ⟨rfl, z⟩
      · exact ⟨rfl, z.1⟩
    obtain ⟨e1, e2, e3⟩ := both_views (r := r) (r' := r') (by simpa using hl) (fun x hx => o x (List.mem_cons_of_mem _ hx)) (fun x hx => o' x (List.mem_cons_of_mem _ hx)) fun h => (key h).2
    have k0 := (key false).1
    have k1 := (key true).1
    have oc := o c List.mem_cons_self
    have oc' := o' c' List.mem_cons_self
    have : c = c' := by
      unfold hb at k0 k1
      simp only [List.mem_cons, List.not_mem_nil, or_false] at oc oc'
      rcases oc with rfl | rfl | rfl | rfl <;> rcases oc' with rfl | rfl | rfl | rfl <;> first | rfl | (simp at k0 k1)
    subst this
    exact ⟨by rw [e1], e2, e3⟩
theorem text_view {a b a' b' : Nat} : ∀ {r r' : List Nat} (h : Bool), r.length = r'.length → OkR r → OkR r' → (TR h a b r = TR h a' b' r' ↔ vwR h a b r = vwR h a' b' r')
  | [], [], h, _, _, _ => by
    cases h <;> simp [TR, vwR] <;> omega
  | c :: r, c' :: r', h, hl, o, o' => by
    have hl' : r.length = r'.length := by simpa using hl
    have o1 : OkR r := fun x hx => o x (List.mem_cons_of_mem _ hx)
    have o1' : OkR r' := fun x hx => o' x (List.mem_cons_of_mem _ hx)
    have ih := text_view (a := a) (b := b) (a' := a') (b' := b') h hl' o1 o1'
    unfold TR vwR
    cases q : hb h c <;> cases q' : hb h c'
    · simp [ih]
    · simp only [if_true, if_false, Bool.false_eq_true]
      constructor
      · intro e
        have z := congrArg List.getLast? e
        rw [List.getLast?_concat] at z
        rw [show (48 + a') :: (48 + b') :: (r'.reverse ++ [43]) = ((48 + a') :: (48 + b') :: r'.reverse) ++ [43] from rfl, List.getLast?_concat] at z
        cases z
      · intro e; simp at e
    · simp only [if_true, if_false, Bool.false_eq_true]
      constructor
      · intro e
        have z := congrArg List.getLast? e
        rw [List.getLast?_concat] at z
        rw [show (48 + a) :: (48 + b) :: (r.reverse ++ [43]) = ((48 + a) :: (48 + b) :: r.reverse) ++ [43] from rfl, List.getLast?_concat] at z
        cases z
      · intro e; simp at e
    · simp only [if_true]
      constructor
      · intro e
        have e0 : a = a' ∧ b = b' ∧ r = r' := by simpa using e
        obtain ⟨rfl, rfl, rfl⟩ := e0
        rfl
      · intro e
        have e0 : vwR h a b r = vwR h a' b' r' ∧ vwR (!h) a b r = vwR (!h) a' b' r' := by simpa using e
        obtain ⟨e1, e2, e3⟩ := both_views hl' o1 o1' fun k => by
          cases h <;> cases k <;> first | exact e0.1 | exact e0.2
        subst e1 e2 e3
        rfl
/-! ### is_knowledge -/
theorem fRstrip_ok {l : List Nat} {k : Nat} (h : ∀ y, l.getLast? = some y → y ≠ 45) (hb : l.length + k ≤ big) (m : MH) : fRstrip (.str (sS (l ++ List.replicate k 45))) [.str (sS [45])] m = .ok (.str (sS l)) m := by
  show (if decide ((sS (l ++ List.replicate k 45)).length ≤ big) = true then R.ok (T.str (Txt.rstripChars (sS (l ++ List.replicate k 45)) (sS [45]))) m else .stuck) = _
  rw [rstrip_ok h, if_pos (by rw [sS_len]; simp; exact hb)]
theorem in_figs {a : Nat} (ha : a ≤ 9) (neg : Bool) (m : MH) : fIn neg (.str (sS [48 + a])) t_FIGURES m = .ok (.bl (if neg then false else true)) m := by
  have e : strIn (sS [48 + a]) ("0123456789" : Str) = true := by
    rw [e_figs, strIn_c]
    have q : a = 0 ∨ a = 1 ∨ a = 2 ∨ a = 3 ∨ a = 4 ∨ a = 5 ∨ a = 6 ∨ a = 7 ∨ a = 8 ∨ a = 9 := by omega
    rcases q with rfl | rfl | rfl | rfl | rfl | rfl | rfl | rfl | rfl | rfl <;> rfl
  show R.ok (.bl (if neg then !strIn (sS [48 + a]) ("0123456789" : Str) else strIn (sS [48 + a]) ("0123456789" : Str))) m = _
  rw [e]
  rfl
theorem parts_A {d n : Nat} (hd : d ≤ 9) (hn : n ≤ 500) (m : MH) : m_parts_of [.str (sS ((48 + d) :: List.replicate n 45))] m = .ok (.tup [.str (sS [48 + d]), .non, .int (n : Nat)]) m := by
  have e1 : fRstrip (.str (sS ((48 + d) :: List.replicate n 45))) [.str (sS [45])] m = .ok (.str (sS [48 + d])) m := fRstrip_ok (l := [48 + d]) (fun y hy => by simp at hy; omega) (big_of (by simp; omega)) m
  have e2 : fLen [.str (sS ((48 + d) :: List.replicate n 45))] m = .ok (.int ((n + 1 : Nat) : Int)) m := by
    rw [fLen_s (big_of (by simp; omega))]
    simp
  have e3 : fLen [.str (sS [48 + d])] m = .ok (.int 1) m := fLen_s (big_of (by simp))
  have e4 : fSub (.int ((n + 1 : Nat) : Int)) (.int 1) m = .ok (.int (n : Nat)) m := by
    show R.ok (T.int (((n + 1 : Nat) : Int) - 1)) m = _
    congr 2; omega
  have e5 := in_figs hd false m
  have e6 : ∀ t u v, fTup [t, u, v] m = .ok (.tup [t, u, v]) m := fun t u v => rfl
  have ty : tyOK "str" (.str (sS ((48 + d) :: List.replicate n 45))) m = true := rfl
  simp only [m_parts_of, mi, ms, mz, mty, ty, e_dash, e1, e2, e3, e4, e5, e6, fEq_i, decide_true, if_true, if_false, Bool.not_true, Bool.false_eq_true, Nat.reduceAdd, Nat.reduceSub]
theorem parts_B {a b n : Nat} {l : List Nat} (ha : a ≤ 9) (hb : b ≤ 9) (hl : OkR l) (hl5 : l.length ≤ 500) (hn : n ≤ 500) (m : MH) : ∃ t, m_parts_of [.str (sS ([48 + a, 48 + b] ++ l ++ [43] ++ List.replicate n 45))] m = .ok (.tup t) m ∧ closedL t = true := by
  have e1 : fRstrip (.str (sS ([48 + a, 48 + b] ++ l ++ [43] ++ List.replicate n 45))) [.str (sS [45])] m = .ok (.str (sS ([48 + a, 48 + b] ++ l ++ [43]))) m := fRstrip_ok (l := [48 + a, 48 + b] ++ l ++ [43]) (fun y hy => by rw [List.getLast?_concat] at hy; cases hy; decide) (big_of (by simp; omega)) m
  have e2 : fLen [.str (sS ([48 + a, 48 + b] ++ l ++ [43] ++ List.replicate n 45))] m = .ok (.int (([48 + a, 48 + b] ++ l ++ [43] ++ List.replicate n 45).length : Nat)) m := fLen_s (big_of (by simp; omega))
  have e3 : fLen [.str (sS ([48 + a, 48 + b] ++ l ++ [43]))] m = .ok (.int ((l.length + 3 : Nat) : Int)) m := by
    rw [fLen_s (big_of (by simp; omega))]
    congr 2
    rw [List.length_append, List.length_append]
    simp; omega
  have e4 : ∀ i j : Int, fSub (.int i) (.int j) m = .ok (.int (i - j)) m := fun i j => rfl
  have n1 : ¬ (((l.length + 3 : Nat) : Int) = 1) := by omega
  have n2 : ¬ (((l.length + 3 : Nat) : Int) < 3) := by omega
  have e5 : fIx (.str (sS ([48 + a, 48 + b] ++ l ++ [43]))) (.int (-1)) m = .ok (.str (sS [43])) m := fIx_s (big_of (by simp; omega)) Mi.atI_last
  have e6 : fIx (.str (sS ([48 + a, 48 + b] ++ l ++ [43]))) (.int 0) m = .ok (.str (sS [48 + a])) m := fIx_s (big_of (by simp; omega)) (atI_nat (k := 0) (by simp))
  have e7 : fIx (.str (sS ([48 + a, 48 + b] ++ l ++ [43]))) (.int 1) m = .ok (.str (sS [48 + b])) m := fIx_s (big_of (by simp; omega)) (atI_nat (k := 1) (by simp))
  have e8 : fSl (.str (sS ([48 + a, 48 + b] ++ l ++ [43]))) (.int 2) (.int (-1)) m = .ok (.str (sS l)) m := by
    show (if (sS ([48 + a, 48 + b] ++ l ++ [43])).length ≤ big then R.ok (T.str (cutS (sS ([48 + a, 48 + b] ++ l ++ [43])) (some ((2 : Nat) : Int)) (some (-1)))) m else .stuck) = _
    rw [sS_len, if_pos (big_of (by simp; omega)), cutS_mid (by simp)]
    congr 3
    simp
  have e9 : fSl (.str (sS ([48 + a, 48 + b] ++ l ++ [43]))) .non (.int 2) m = .ok (.str (sS (([48 + a, 48 + b] ++ l ++ [43]).take 2))) m := fSl_to (k := 2) (big_of (by simp; omega))
  have f1 := in_figs ha true m
  have f2 := in_figs hb true m
  have g1 : (fP 1 m_is_row) [.str (sS l)] m = .ok (.bl true) m := fP_ok (is_row_ok hl (big_of (by omega)) []) rfl rfl rfl
  have g2 : ∀ t u v, fTup [t, u, v] m = .ok (.tup [t, u, v]) m := fun t u v => rfl
  have g3 : ∀ i j : Int, fLt (.int i) (.int j) m = .ok (.bl (decide (i < j))) m := fun i j => rfl
  have ty : tyOK "str" (.str (sS ([48 + a, 48 + b] ++ l ++ [43] ++ List.replicate n 45))) m = true := rfl
  refine ⟨[.str (sS (([48 + a, 48 + b] ++ l ++ [43]).take 2)), .str (sS l), .int ((([48 + a, 48 + b] ++ l ++ [43] ++ List.replicate n 45).length : Nat) - ((l.length + 3 : Nat) : Int))], ?_, ?_⟩
  · simp only [m_parts_of, mi, ms, mz, mty, ty, e_dash, e_plus, e1, e2, e3, e4, e5, e6, e7, e8, e9, f1, f2, g1, g2, g3, fEq_i, fNe_s, decide_eq_false n1, decide_eq_false n2, decide_true, if_true, if_false, Bool.not_true, Bool.false_eq_true, Nat.reduceAdd, Nat.reduceSub]
  · rfl
theorem is_knowledge_ok (h : Bool) {a b : Nat} (ha : a ≤ 9) (hb : b ≤ 9) {l : List Nat} (hl : OkR l) (hn : l.length ≤ 500) (m : MH) : m_is_knowledge [.int (hI h), .str (sS (TX h a b l))] m = .ok (.bl true) m := by
  have e1 : (fP 1 m_need_hand) [.int (hI h)] m = .ok .non m := fP_ok (need_hand_ok h []) rfl rfl rfl
  have e2 : ∃ t, (fP 1 m_parts_of) [.str (sS (TX h a b l))] m = .ok (.tup t) m := by
    unfold TX
    rcases List.eq_nil_or_concat (idx h 0 l) with q | ⟨xs, k, q⟩
    · rw [q]
      exact ⟨_, fP_ok (parts_A (d := if h then b else a) (by cases h <;> simpa) hn []) rfl rfl rfl⟩
    · rw [List.concat_eq_append] at q
      have hk := idx_lt h l 0 k (by rw [q]; simp)
      rw [q]
      obtain ⟨t, e, c⟩ := parts_B (l := l.take k) (n := l.length - k - 1) ha hb (fun x hx => hl x (List.mem_of_mem_take hx)) (by simp; omega) (by omega) []
      refine ⟨t, fP_ok (h' := []) ?_ rfl rfl (by simpa [closed] using c)⟩
      rw [← e]
      congr 3
      simp
  obtain ⟨t, e2⟩ := e2
  have e3 : fIs true (.tup t) .non m = .ok (.bl true) m := rfl
  simp only [m_is_knowledge, mi, ms, mz, mty, e1, e2, e3, Nat.reduceAdd, Nat.reduceSub]
/-! ### a drawn row -/
theorem lc_hp {mgt : MG} {mt me : ME} {s0 : SM} {I : List T → MH → Prop} : ∀ (xs acc : List T) (h : MH), I acc h → (∀ x acc h, x ∈ xs → I acc h → ∃ s1 h1 y h3, mgt x s0 h = .ok s1 h1 ∧ mt s1 h1 = .ok (.bl true) h1 ∧ me s1 h1 = .ok y h3 ∧ I (acc ++ [y]) h3) → acc.length + xs.length ≤ big →
    ∃ acc' h', lcFrom mgt mt me s0 xs acc h = .ok (.lst acc') h' ∧ I acc' h' ∧ acc'.length = acc.length + xs.length
  | [], acc, h, hI, _, _ => ⟨acc, h, rfl, hI, rfl⟩
  | x :: xs, acc, h, hI, st, hl => by
    obtain ⟨s1, h1, y, h3, e1, e2, e3, hI3⟩ := st x acc h List.mem_cons_self hI
    rw [List.length_cons] at hl
    obtain ⟨acc', h', e4, hI4, e5⟩ := lc_hp xs (acc ++ [y]) h3 hI3 (fun z acc h hz => st z acc h (List.mem_cons_of_mem _ hz)) (by rw [List.length_append, List.length_singleton]; omega)
    refine ⟨acc', h', ?_, hI4, by rw [e5, List.length_append, List.length_singleton, List.length_cons]; omega⟩
    unfold lcFrom
    rw [e1]
    dsimp only
    rw [e2]
    dsimp only
    rw [e3]
    dsimp only
    rw [if_pos (by omega), e4]
theorem _root_.Mi.Keeps.trans {i : Nat} {a b c : MH} (x : Keeps i a b) (y : Keeps i b c) : Keeps i a c := ⟨y.len.trans x.len, fun j hj => (y.get j hj).trans (x.get j hj)⟩
theorem strsOf_chs (cs : List Nat) : strsOf (chs cs) = some (cs.map fun c => sS [c]) := by
  induction cs with
  | nil => rfl
  | cons c cs ih =>
    show (strsOf (T.str (sS [c]) :: chs cs)) = _
    simp only [strsOf, ih, Option.map_some, List.map_cons]
theorem glue_fold : ∀ (cs : List Nat) (acc : Array Nat), ((cs.map fun c => sS [c]).foldl (fun acc p => acc ++ (sS []).cps ++ p.cps) acc).toList = acc.toList ++ cs
  | [], acc => by simp
  | c :: cs, acc => by
    rw [List.map_cons, List.foldl_cons, glue_fold cs]
    simp [sS]
theorem glue_chs (cs : List Nat) : Builtin.Str.glued (sS []) (cs.map fun c => sS [c]) = sS cs := by
  cases cs with
  | nil => rfl
  | cons c cs =>
    have e := glue_fold cs (sS [c]).cps
    show (⟨(cs.map fun c => sS [c]).foldl (fun acc p => acc ++ (sS []).cps ++ p.cps) (sS [c]).cps⟩ : Str) = _
    unfold sS at e ⊢
    congr 1
    apply Array.toList_inj.mp
    rw [e]
    rfl
theorem join_chs (cs : List Nat) : Txt.join ("" : Str) (cs.map fun c => sS [c]) = sS cs := by
  rw [e_none]
  exact glue_chs cs
theorem row_ok {h : MH} (B : Bag h 0) : ∃ (l : List Nat) (h' : MH), m_law_row [.ref 0, .int 12, .str "blnr"] h = .ok (.str (sS l)) h' ∧ OkR l ∧ l.length ≤ 12 ∧ Bag h' 0 ∧ Keeps 0 h h' := by
  obtain ⟨r, h1, e1, r0, r1, B1, k1⟩ := draw_ok (many := 13) B (by omega) (by omega)
  have q1 : iRg1 [.int r] h1 = .ok (intsT 0 r.toNat) h1 := by
    have : rgOk r = true := by unfold rgOk; simp only [Bool.and_eq_true, decide_eq_true_eq]; omega
    simp only [iRg1, this, if_true]
  obtain ⟨acc, h', e2, ⟨B', k', cs, rfl, ok⟩, hl⟩ := lc_hp (mgt := gN 3) (mt := mC (.bl true)) (me := mA (fS 2 m_law_of) (aCons (mVar 0) (aCons (mVar 2) aNil))) (s0 := [some (.ref 0), some (.int 12), some (.str ("blnr" : Str)), none])
    (I := fun acc h' => Bag h' 0 ∧ Keeps 0 h1 h' ∧ ∃ cs : List Nat, acc = chs cs ∧ OkR cs) (intsT 0 r.toNat) [] h1 ⟨B1, ⟨rfl, fun _ _ => rfl⟩, [], rfl, fun _ hc => by cases hc⟩ (by
      rintro x acc h _ ⟨B, k, cs, rfl, ok⟩
      · obtain ⟨c, h3, e3, hc, B3, k3⟩ := of_str (z := ("blnr" : Str)) B (by rw [e_signs, sS_list]; decide) (by rw [e_signs, sS_list]; decide)
        refine ⟨_, h, .str (sS [c]), h3, rfl, rfl, ?_, B3, k.trans k3, cs ++ [c], by simp [chs], ?_⟩
        · have e4 : (fS 2 m_law_of) [.ref 0, .str ("blnr" : Str)] h = .ok (.str (sS [c])) h3 := e3
          simp only [mi, ms, e4]
        · rw [e_signs, sS_list] at hc
          intro d hd
          rcases List.mem_append.mp hd with hd | hd
          · exact ok d hd
          · rw [List.mem_singleton] at hd; subst hd; exact hc) (by rw [intsT_len]; exact big_of (by simp; omega))
  rw [intsT_len, List.length_nil, Nat.zero_add] at hl
  have hl2 : cs.length ≤ 12 := by simp [chs] at hl; omega
  refine ⟨cs, h', ?_, ok, hl2, B', k1.trans k'⟩
  have e5 : mLc (mIA iRg1 (aCons (mA (fS 2 m_law_draw) (aCons (mVar 0) (aCons (m2 fAdd (mVar 1) (mC (.int 1))) aNil))) aNil)) (gN 3) (mC (.bl true)) (mA (fS 2 m_law_of) (aCons (mVar 0) (aCons (mVar 2) aNil))) [3] [some (.ref 0), some (.int 12), some (.str ("blnr" : Str)), none] h = .ok (.lst (chs cs)) h' := by
    have e6 : (mIA iRg1 (aCons (mA (fS 2 m_law_draw) (aCons (mVar 0) (aCons (m2 fAdd (mVar 1) (mC (.int 1))) aNil))) aNil)) [some (.ref 0), some (.int 12), some (.str ("blnr" : Str)), none] h = .ok (intsT 0 r.toNat) h1 := by
      have e7 : (fS 2 m_law_draw) [.ref 0, .int 13] h = .ok (.int r) h1 := e1
      have e8 : fAdd (.int 12) (.int 1) h = .ok (.int 13) h := rfl
      simp only [mi, ms, e8, e7, q1]
    show ((mIA iRg1 (aCons (mA (fS 2 m_law_draw) (aCons (mVar 0) (aCons (m2 fAdd (mVar 1) (mC (.int 1))) aNil))) aNil)) [some (.ref 0), some (.int 12), some (.str ("blnr" : Str)), none] h).bind _ = _
    rw [e6]
    exact e2
  have e9 : fJoin (.str ("" : Str)) [.lst (chs cs)] h' = .ok (.str (sS cs)) h' := by
    have q3 : ((cs.map fun c => sS [c]).map fun z : Str => z.length).sum + (cs.map fun c => sS [c]).length * (("" : Str)).length ≤ big := by
      have : ∀ l : List Nat, ((l.map fun c => sS [c]).map fun z : Str => z.length).sum = l.length := fun l => by
        induction l with
        | nil => rfl
        | cons c l ih => simp only [List.map_cons, List.sum_cons, ih, sS_len, List.length_cons, List.length_nil]; omega
      rw [this, e_none, sS_len]
      simp
      exact big_of (by omega)
    show (match strsOf (chs cs) with
      | some ys => if (ys.map fun z : Str => z.length).sum + ys.length * (("" : Str)).length ≤ big then R.ok (T.str (Txt.join ("" : Str) ys)) h' else .stuck
      | none => .stuck) = _
    rw [strsOf_chs]
    dsimp only
    rw [if_pos q3, join_chs]
  have ty : tyOK "str" (.str ("" : Str)) h = true := rfl
  simp only [m_law_row, mi, ms, mz, ty, e5, e9, if_true, Nat.reduceAdd, Nat.reduceSub]
/-! ### all rows -/
def rowsL : Nat → List (List Nat)
  | 0 => [[]]
  | n + 1 => (rowsL n).flatMap fun r => [98, 108, 110, 114].map fun c => r ++ [c]
theorem all_rows_ok (n : Nat) (h1 : 1 ≤ n) (h2 : n ≤ 3) : m_law_all_rows [.int (n : Nat)] [] = .ok (.lst ((rowsL n).map fun l => .str (sS l))) [] := by
  have : n = 1 ∨ n = 2 ∨ n = 3 := by omega
  rcases this with rfl | rfl | rfl
  · kernel_rfl
  · kernel_rfl
  · kernel_rfl
end L_k46
end part_P46
section part_Q46
set_option maxRecDepth 100000
set_option maxHeartbeats 2000000
/-! the plain law of k46, joined -/
namespace L_k46
open PySem PySem.Spec PyProof.Rows L2 Mi
def finD : SR → R
  | .nx _ h1 => .ok .non h1
  | .rt t h1 => .ok t h1
  | .ex x _ h1 => .ex x h1
  | _ => .stuck
theorem seq_nx {m m' : MS} {s s1 : SM} {h h1 : MH} (e : m s h = .nx s1 h1) : mSq m m' s h = m' s1 h1 := by
  simp only [mi, e]
/-! ### indices -/
theorem idxD_congr {α : Type} (f g : α → PyData) (x : α) : ∀ L : List α, (∀ y ∈ L, PyData.eqv (f y) (f x) = PyData.eqv (g y) (g x)) → idxD (f x) (L.map f) = idxD (g x) (L.map g)
  | [], _ => rfl
  | y :: L, h => by
    simp only [List.map_cons, idxD, h y List.mem_cons_self, idxD_congr f g x L fun z hz => h z (List.mem_cons_of_mem _ hz)]
theorem idxD_some {d : PyData} : ∀ {ds : List PyData}, (∃ z ∈ ds, PyData.eqv z d = true) → ∃ j, idxD d ds = some j
  | [], h => by obtain ⟨z, hz, _⟩ := h; cases hz
  | y :: ds, h => by
    unfold idxD
    by_cases q : PyData.eqv y d = true
    · rw [if_pos q]; exact ⟨0, rfl⟩
    · rw [if_neg q]
      obtain ⟨z, hz, e⟩ := h
      rcases List.mem_cons.mp hz with rfl | hz
      · exact absurd e q
      · obtain ⟨j, e2⟩ := idxD_some ⟨z, hz, e⟩
        rw [e2]; exact ⟨j + 1, rfl⟩
theorem toDs_map {α : Type} {f : α → T} {d : α → PyData} : ∀ {L : List α}, (∀ x ∈ L, toD (f x) = some (d x)) → toDs (L.map f) = some (L.map d)
  | [], _ => rfl
  | x :: L, h => by simp only [List.map_cons, toDs, h x List.mem_cons_self, toDs_map fun y hy => h y (List.mem_cons_of_mem _ hy)]
theorem lc_map2 {α : Type} {mgt : MG} {mt me : ME} {s0 : SM} {h : MH} {f g : α → T} : ∀ (L : List α) (acc : List T), (∀ x ∈ L, ∃ s1, mgt (f x) s0 h = .ok s1 h ∧ mt s1 h = .ok (.bl true) h ∧ me s1 h = .ok (g x) h) → acc.length + L.length ≤ big →
    lcFrom mgt mt me s0 (L.map f) acc h = .ok (.lst (acc ++ L.map g)) h
  | [], acc, _, _ => by simp [lcFrom]
  | x :: L, acc, hx, hl => by
    obtain ⟨s1, e1, e2, e3⟩ := hx x List.mem_cons_self
    simp only [List.length_cons] at hl
    rw [List.map_cons]
    unfold lcFrom
    rw [e1]
    dsimp only
    rw [e2]
    dsimp only
    rw [e3]
    dsimp only
    rw [if_pos (by omega), lc_map2 L (acc ++ [g x]) (fun y hy => hx y (List.mem_cons_of_mem _ hy)) (by rw [List.length_append]; simp; omega)]
    simp
def jx {α : Type} (d : α → PyData) (L : List α) (x : α) : Nat := (idxD (d x) (L.map d)).getD 0
theorem spots_ok {α : Type} {f : α → T} {d : α → PyData} {L : List α} {i j : Nat} {s : SM} {h : MH} (hi : s[i]? = some (some (.lst (L.map f)))) (hij : i ≠ j) (hj : j < s.length) (hd : ∀ x ∈ L, toD (f x) = some (d x)) (hs : ∀ x ∈ L, SeqAt.shaped (d x) = true) (hsl : SeqAt.shaped (.list (L.map d)) = true)
    (self : ∀ x ∈ L, PyData.eqv (d x) (d x) = true) (hL : L.length ≤ 1000) :
    mLc (mSrc (mVar i)) (gN j) (mC (.bl true)) (mMe "list" fIndex (mVar i) (aCons (mVar j) aNil)) [j] s h = .ok (.lst (L.map fun x => .int (jx d L x : Nat))) h := by
  have e0 : (mSrc (mVar i)) s h = .ok (L.map f) h := by
    simp only [mi, hi]
    rfl
  show ((mSrc (mVar i)) s h).bind _ = _
  rw [e0]
  show lcFrom _ _ _ (s.set j none) (L.map f) [] h = _
  rw [lc_map2 (g := fun x => .int (jx d L x : Nat)) L [] (fun x hx => ?_) (by simp; exact big_of (by omega))]
  · rfl
  · refine ⟨s.set j (some (f x)), ?_, rfl, ?_⟩
    · show GR.ok ((s.set j none).set j (some (f x))) h = _
      rw [List.set_set]
    · have e1 : (s.set j (some (f x)))[i]? = some (some (.lst (L.map f))) := by rw [List.getElem?_set_ne (Ne.symm hij), hi]
      have e2 : (s.set j (some (f x)))[j]? = some (some (f x)) := List.getElem?_set_self hj
      have e3 : tyOK "list" (.lst (L.map f)) h = true := rfl
      obtain ⟨k, e4⟩ := idxD_some (d := d x) (ds := L.map d) ⟨d x, List.mem_map_of_mem hx, self x hx⟩
      have e5 : fIndex (.lst (L.map f)) [f x] h = .ok (.int (jx d L x : Nat)) h := by
        unfold jx
        simp only [fIndex, isTupT, hd x hx, seqOf, toDs_map hd, hs x hx, hsl, Bool.and_self, if_true, e4, Bool.false_eq_true, if_false, Option.getD_some]
      simp only [mi, e1, e2, e3, e5, if_true]
/-! ### the data of a knowledge's text, of a view -/
abbrev Kn : Type := Nat × Nat × List Nat
def txS (h : Bool) (x : Kn) : T := .str (sS (TX h x.1 x.2.1 x.2.2))
def vwS (h : Bool) (x : Kn) : T := vwR h x.1 x.2.1 x.2.2.reverse
def txD (h : Bool) (x : Kn) : PyData := .str (sS (TX h x.1 x.2.1 x.2.2))
def vwDR (h : Bool) (a b : Nat) : List Nat → PyData
  | [] => .tuple [.int ((if h then b else a : Nat) : Nat)]
  | c :: r => if hb h c then .tuple [vwDR h a b r, vwDR (!h) a b r] else .tuple [vwDR h a b r]
def vwD (h : Bool) (x : Kn) : PyData := vwDR h x.1 x.2.1 x.2.2.reverse
structure Good (n : Nat) (x : Kn) : Prop where
  a : x.1 ≤ 9
  b : x.2.1 ≤ 9
  o : OkR x.2.2
  l : x.2.2.length = n
theorem toD_vw (a b : Nat) : ∀ (r : List Nat) (h : Bool), toD (vwR h a b r) = some (vwDR h a b r)
  | [], h => rfl
  | c :: r, h => by
    unfold vwR vwDR
    cases hb h c with
    | true => simp only [if_true, toD, toDs, toD_vw a b r, Option.map_some]
    | false => simp only [if_false, Bool.false_eq_true, toD, toDs, toD_vw a b r, Option.map_some]
theorem vwDR_tup (h : Bool) (a b : Nat) (r : List Nat) : ∃ ds, vwDR h a b r = .tuple ds := by
  cases r with
  | nil => exact ⟨_, rfl⟩
  | cons c r =>
    unfold vwDR
    cases hb h c <;> exact ⟨_, rfl⟩
theorem vwR_tup (h : Bool) (a b : Nat) (r : List Nat) : ∃ ds, vwR h a b r = .tup ds := by
  cases r with
  | nil => exact ⟨_, rfl⟩
  | cons c r =>
    unfold vwR
    cases hb h c <;> exact ⟨_, rfl⟩
theorem lay_vw (a b : Nat) : ∀ (r : List Nat) (h : Bool), (vwDR h a b r).canLay0 = true ∧ (vwDR h a b r).depth ≤ r.length + 1
  | [], h => ⟨rfl, by simp [vwDR, PyData.depth, PyData.depthAll]⟩
  | c :: r, h => by
    obtain ⟨h1, h2⟩ := lay_vw a b r h
    obtain ⟨h3, h4⟩ := lay_vw a b r (!h)
    unfold vwDR
    cases hb h c with
    | true => simp only [if_true, PyData.canLay0, PyData.canLayAll0, h1, h3, Bool.and_self, PyData.depth, PyData.depthAll, List.length_cons, true_and]; omega
    | false => simp only [if_false, Bool.false_eq_true, PyData.canLay0, PyData.canLayAll0, h1, Bool.and_self, PyData.depth, PyData.depthAll, List.length_cons, true_and]; omega
theorem eqv_tup (xs ys : List PyData) : PyData.eqv (.tuple xs) (.tuple ys) = PyData.eqvAll xs ys := rfl
theorem eqvA1 (x y : PyData) : PyData.eqvAll [x] [y] = PyData.eqv x y := by show (PyData.eqv x y && true) = _; rw [Bool.and_true]
theorem eqvA2 (x y x' y' : PyData) : PyData.eqvAll [x, x'] [y, y'] = (PyData.eqv x y && PyData.eqv x' y') := by show (PyData.eqv x y && (PyData.eqv x' y' && true)) = _; rw [Bool.and_true]
theorem eqvA12 (x y y' : PyData) : PyData.eqvAll [x] [y, y'] = false := by show (PyData.eqv x y && false) = _; rw [Bool.and_false]
theorem eqvA21 (x y y' : PyData) : PyData.eqvAll [y, y'] [x] = false := by show (PyData.eqv y x && false) = _; rw [Bool.and_false]
theorem eqv_vw {a b a' b' : Nat} (r : List Nat) : ∀ (r' : List Nat) (h h' : Bool), PyData.eqv (vwDR h a b r) (vwDR h' a' b' r') = true ↔ vwR h a b r = vwR h' a' b' r' := by
  induction r with
  | nil =>
    intro r' h h'
    cases r' with
    | nil =>
      unfold vwDR vwR
      rw [eqv_tup, eqvA1]
      show ((((if h then b else a : Nat) : Nat) : Int) == (((if h' then b' else a' : Nat) : Nat) : Int)) = true ↔ _
      rw [beq_iff_eq]
      constructor
      · intro e; rw [e]
      · intro e; injection e with e; injection e with e _; injection e
    | cons c r' =>
      obtain ⟨ds, e⟩ := vwDR_tup h' a' b' r'
      obtain ⟨ts, e'⟩ := vwR_tup h' a' b' r'
      unfold vwDR vwR
      cases hb h' c with
      | true =>
        rw [if_pos rfl, if_pos rfl, eqv_tup, eqvA12]
        constructor
        · intro z; cases z
        · intro z; injection z with z; injection z with _ z; cases z
      | false =>
        simp only [Bool.false_eq_true, if_false]
        rw [eqv_tup, eqvA1, e, e']
        constructor
        · intro z; cases z
        · intro z; injection z with z; injection z with z _; cases z
  | cons c r ih =>
    intro r' h h'
    cases r' with
    | nil =>
      obtain ⟨ds, e⟩ := vwDR_tup h a b r
      obtain ⟨ts, e'⟩ := vwR_tup h a b r
      unfold vwDR vwR
      cases hb h c with
      | true =>
        rw [if_pos rfl, if_pos rfl, eqv_tup, eqvA21]
        constructor
        · intro z; cases z
        · intro z; injection z with z; injection z with _ z; cases z
      | false =>
        simp only [Bool.false_eq_true, if_false]
        rw [eqv_tup, eqvA1, e, e']
        constructor
        · intro z; cases z
        · intro z; injection z with z; injection z with z _; cases z
    | cons c' r' =>
      have i1 := ih r' h h'
      have i2 := ih r' (!h) (!h')
      unfold vwDR vwR
      cases hb h c <;> cases hb h' c'
      · rw [if_neg (by simp), if_neg (by simp), if_neg (by simp), if_neg (by simp), eqv_tup, eqvA1, i1]
        constructor
        · intro z; rw [z]
        · intro z; injection z with z; injection z
      · rw [if_neg (by simp), if_pos rfl, if_neg (by simp), if_pos rfl, eqv_tup, eqvA12]
        constructor
        · intro z; cases z
        · intro z; injection z with z; injection z with _ z; cases z
      · rw [if_pos rfl, if_neg (by simp), if_pos rfl, if_neg (by simp), eqv_tup, eqvA21]
        constructor
        · intro z; cases z
        · intro z; injection z with z; injection z with _ z; cases z
      · rw [if_pos rfl, if_pos rfl, if_pos rfl, if_pos rfl, eqv_tup, eqvA2, Bool.and_eq_true, i1, i2]
        constructor
        · rintro ⟨z, z'⟩; rw [z, z']
        · intro z; injection z with z; injection z with z z'; injection z' with z' _; exact ⟨z, z'⟩
theorem small_TR (h : Bool) {a b : Nat} (ha : a ≤ 9) (hb' : b ≤ 9) : ∀ (r : List Nat), OkR r → ∀ x ∈ TR h a b r, x < 0x110000
  | [], _, x, hx => by
    unfold TR at hx
    cases h <;> simp at hx <;> omega
  | c :: r, o, x, hx => by
    have o1 : OkR r := fun x hx => o x (List.mem_cons_of_mem _ hx)
    have ih := small_TR h ha hb' r o1 x
    unfold TR at hx
    cases q : hb h c with
    | true =>
      rw [q] at hx
      simp only [if_true, List.mem_cons, List.mem_append, List.mem_reverse, List.not_mem_nil, or_false] at hx
      rcases hx with e | e | e | e
      · omega
      · omega
      · have := o1 x e
        simp only [List.mem_cons, List.not_mem_nil, or_false] at this
        omega
      · omega
    | false =>
      rw [q] at hx
      simp only [if_false, Bool.false_eq_true, List.mem_append, List.mem_cons, List.not_mem_nil, or_false] at hx
      rcases hx with e | e
      · exact ih e
      · omega
theorem lay_tx {n : Nat} (h : Bool) {x : Kn} (g : Good n x) : (txD h x).canLay0 = true := by
  show (sS (TX h x.1 x.2.1 x.2.2)).cps.all (fun c => decide (c < 0x110000)) = true
  have e := TX_TR h x.1 x.2.1 x.2.2.reverse
  rw [List.reverse_reverse] at e
  have z := small_TR h g.a g.b x.2.2.reverse fun c hc => g.o c (List.mem_reverse.mp hc)
  rw [← e] at z
  unfold sS
  simp only [List.all_toArray, List.all_eq_true, decide_eq_true_eq]
  exact z
theorem shaped_list {α : Type} {d : α → PyData} : ∀ {L : List α}, (∀ x ∈ L, (d x).canLay0 = true ∧ (d x).depth ≤ 60) → PyData.canLayAll0 (L.map d) = true ∧ PyData.depthAll (L.map d) ≤ 60
  | [], _ => ⟨rfl, by simp [PyData.depthAll]⟩
  | x :: L, h => by
    obtain ⟨h1, h2⟩ := h x List.mem_cons_self
    obtain ⟨h3, h4⟩ := shaped_list (L := L) fun y hy => h y (List.mem_cons_of_mem _ hy)
    simp only [List.map_cons, PyData.canLayAll0, PyData.depthAll, h1, h3, Bool.and_self, true_and]
    omega
theorem shaped_of {d : PyData} (h1 : d.canLay0 = true) (h2 : d.depth ≤ 64) : SeqAt.shaped d = true := by
  unfold SeqAt.shaped
  rw [h1, decide_eq_true h2]
  rfl
theorem shapedL_of {ds : List PyData} (h1 : PyData.canLayAll0 ds = true) (h2 : PyData.depthAll ds ≤ 60) : SeqAt.shaped (.list ds) = true :=
  shaped_of (by show PyData.canLayAll0 ds = true; exact h1) (by show PyData.depthAll ds + 1 ≤ 64; omega)
/-- equal places -/
theorem same_jx {n : Nat} {h : Bool} {L : List Kn} (hL : ∀ x ∈ L, Good n x) {x : Kn} (hx : x ∈ L) : jx (txD h) L x = jx (vwD h) L x := by
  unfold jx
  rw [idxD_congr (txD h) (vwD h) x L fun y hy => ?_]
  have g := hL x hx
  have g' := hL y hy
  have e1 : PyData.eqv (txD h y) (txD h x) = true ↔ TX h y.1 y.2.1 y.2.2 = TX h x.1 x.2.1 x.2.2 := by
    show (sS _ == sS _) = true ↔ _
    rw [beq_iff_eq, sS_inj]
  have e2 := eqv_vw (a := y.1) (b := y.2.1) (a' := x.1) (b' := x.2.1) y.2.2.reverse x.2.2.reverse h h
  have t1 := TX_TR h y.1 y.2.1 y.2.2.reverse
  have t2 := TX_TR h x.1 x.2.1 x.2.2.reverse
  rw [List.reverse_reverse] at t1 t2
  have e3 := text_view (a := y.1) (b := y.2.1) (a' := x.1) (b' := x.2.1) (r := y.2.2.reverse) (r' := x.2.2.reverse) h (by rw [List.length_reverse, List.length_reverse, g.l, g'.l]) (fun c hc => g'.o c (List.mem_reverse.mp hc)) (fun c hc => g.o c (List.mem_reverse.mp hc))
  rw [Bool.eq_iff_iff, e1, t1, t2, e3]
  exact e2.symm
end L_k46
end part_Q46
section part_R46
set_option maxRecDepth 100000
set_option maxHeartbeats 2000000
/-! the plain law of k46: the loops, the law -/
namespace L_k46
open PySem PySem.Spec PyProof.Rows L2 Mi
structure Hp3 (hd : Bool) (h : MH) (L : List Kn) : Prop where
  bag : Bag h 0
  len : h.length = 3
  tx : h[1]? = some (.lst (L.map (txS hd)))
  vw : h[2]? = some (.lst (L.map (vwS hd)))
theorem bag_ne {h : MH} {j : Nat} {o : MO} (B : Bag h 0) (hj : j ≠ 0) : Bag (h.set j o) 0 := by
  obtain ⟨row, p, c, m, e, r⟩ := B.ex
  exact ⟨row, p, c, m, by rw [List.getElem?_set_ne hj]; exact e, r⟩
def mIn : MS := mSq (mSet 11 (mA (fP 3 m_knowledge) (aCons (mVar 6) (aCons (mVar 3) (aCons (mVar 10) aNil)))))
    (mSq (mIfS (mNot (mTru (mA (fP 2 (m_law_alike 8)) (aCons (mA fLst (aCons (mVar 11) (aCons (mKw 0 3 [2, 1, 0] (fP 3 m_knowledge) aNil (aCons (mVar 10) (aCons (mVar 3) (aCons (mVar 6) aNil)))) aNil))) (aCons (m2 fMul (mA fLst (aCons (mA (fP 3 m_law_text) (aCons (mVar 6) (aCons (mVar 3) (aCons (mVar 10) aNil)))) aNil)) (mC (.int 2))) aNil))))) (mSq (mRetF (mC (.bl false)))
    mNx) mNx)
    (mSq (mIfS (m2 (fIs true) (mA (fP 2 m_is_knowledge) (aCons (mVar 6) (aCons (mVar 11) aNil))) (mC (.bl true))) (mSq (mRetF (mC (.bl false)))
    mNx) mNx)
    (mSq (mEx (mMe "list" fAppend (mVar 8) (aCons (mVar 11) aNil)))
    (mSq (mEx (mMe "list" fAppend (mVar 9) (aCons (mA (fP 3 (m_law_whole_view 6)) (aCons (mVar 6) (aCons (mVar 3) (aCons (mVar 10) aNil)))) aNil)))
    mNx))))
theorem fApp_ok {h : MH} {i : Nat} {xs : List T} {t : T} (e : h[i]? = some (.lst xs)) (hl : xs.length < big) : fAppend (.ref i) [t] h = .ok .non (h.set i (.lst (xs ++ [t]))) := by
  have z : liveL (.ref i) h = some (i, xs) := by simp only [liveL, e]
  show (match liveL (.ref i) h with
    | some (i, xs) => if xs.length < big then R.ok T.non (h.set i (.lst (xs ++ [t]))) else .stuck
    | none => .stuck) = _
  rw [z]
  dsimp only
  rw [if_pos hl]
theorem ty_ref {h : MH} {i : Nat} {xs : List T} (e : h[i]? = some (.lst xs)) : tyOK "list" (.ref i) h = true := by
  simp only [tyOK, e]
  rfl
theorem in_step {hd : Bool} {h : MH} {L : List Kn} {n a b : Nat} {l : List Nat} {s0 s2 s4 s5 s7 s10 s11 s12 s13 : Option T} (H : Hp3 hd h L) (hL : L.length ≤ 500) (ha : a ≤ 9) (hb : b ≤ 9) (hl : OkR l) (hn : l.length ≤ 3) :
    ∃ h', mIn [s0, some (.ref 0), s2, some (.tup [.int (a : Nat), .int (b : Nat)]), s4, s5, some (.int (hI hd)), s7, some (.ref 1), some (.ref 2), some (.str (sS l)), s11, s12, s13] h
      = .nx [s0, some (.ref 0), s2, some (.tup [.int (a : Nat), .int (b : Nat)]), s4, s5, some (.int (hI hd)), s7, some (.ref 1), some (.ref 2), some (.str (sS l)), some (.str (sS (TX hd a b l))), s12, s13] h' ∧ Hp3 hd h' (L ++ [(a, b, l)]) := by
  have k1 : (fP 3 m_knowledge) [.int (hI hd), .tup [.int (a : Nat), .int (b : Nat)], .str (sS l)] h = .ok (.str (sS (TX hd a b l))) h := fP_ok (knowledge_ok hd ha hb hl (by omega) []) rfl rfl rfl
  have k2 : (fP 3 m_law_text) [.int (hI hd), .tup [.int (a : Nat), .int (b : Nat)], .str (sS l)] h = .ok (.str (sS (TX hd a b l))) h := fP_ok (law_text_ok hd ha hb (by omega) []) rfl rfl rfl
  have k3 : ∀ z : Str, (fP 2 (m_law_alike 8)) [.lst [.str z, .str z], .lst [.str z, .str z]] h = .ok (.bl true) h := fun z =>
    fP_ok (h' := []) (alike_refl (.lst (n := 7) (fun x hx => by
      rcases List.mem_cons.mp hx with rfl | hx
      · exact .str z
      · rcases List.mem_cons.mp hx with rfl | hx
        · exact .str z
        · cases hx) (by show 2 ≤ big; decide)) []) rfl rfl rfl
  have k4 : (fP 2 m_is_knowledge) [.int (hI hd), .str (sS (TX hd a b l))] h = .ok (.bl true) h := fP_ok (is_knowledge_ok hd ha hb hl (by omega) []) rfl rfl rfl
  have k5 : ∀ t u, fLst [t, u] h = .ok (.lst [t, u]) h := fun t u => rfl
  have k6 : ∀ t, fLst [t] h = .ok (.lst [t]) h := fun t => rfl
  have k7 : ∀ t, fMul (.lst [t]) (.int 2) h = .ok (.lst [t, t]) h := fun t => rfl
  have k8 : fIs true (.bl true) (.bl true) h = .ok (.bl false) h := rfl
  have k9 : ∀ x y z : T, pick [2, 1, 0] [x, y, z] = [z, y, x] := fun _ _ _ => rfl
  have b1 : (L.map (txS hd)).length < big := by rw [List.length_map]; have := big_of (n := 600) (by omega); omega
  have b2 : (L.map (vwS hd)).length < big := by rw [List.length_map]; have := big_of (n := 600) (by omega); omega
  have t1 := ty_ref H.tx
  have a1 := fApp_ok (t := .str (sS (TX hd a b l))) H.tx b1
  have v1 : (h.set 1 (.lst (L.map (txS hd) ++ [.str (sS (TX hd a b l))])))[2]? = some (.lst (L.map (vwS hd))) := by rw [List.getElem?_set_ne (by decide)]; exact H.vw
  have t2 := ty_ref v1
  have a2 := fApp_ok (t := vwR hd a b l.reverse) v1 b2
  have k10 : (fP 3 (m_law_whole_view 6)) [.int (hI hd), .tup [.int (a : Nat), .int (b : Nat)], .str (sS l)] (h.set 1 (.lst (L.map (txS hd) ++ [.str (sS (TX hd a b l))]))) = .ok (vwR hd a b l.reverse) (h.set 1 (.lst (L.map (txS hd) ++ [.str (sS (TX hd a b l))]))) := fP_ok (view_ok a b 6 hd l [] (by omega) (by omega)) rfl rfl (vwR_closed _ _ _ _)
  refine ⟨(h.set 1 (.lst (L.map (txS hd) ++ [.str (sS (TX hd a b l))]))).set 2 (.lst (L.map (vwS hd) ++ [vwR hd a b l.reverse])), ?_, ?_⟩
  · simp only [mIn, mi, ms, k1, k2, k5, k6, k7, k8, k9, k3, k4, t1, a1, t2, a2, k10, List.nil_append, List.length_cons, List.length_nil, Nat.zero_add, Nat.reduceAdd, and_self, if_true, Bool.not_true]
  · refine ⟨bag_ne (bag_ne H.bag (by decide)) (by decide), by rw [List.length_set, List.length_set]; exact H.len, ?_, ?_⟩
    · rw [List.getElem?_set_ne (by decide), List.getElem?_set_self (by have := H.len; omega), List.map_append]; rfl
    · rw [List.getElem?_set_self (by rw [List.length_set]; have := H.len; omega), List.map_append]; rfl
theorem in_loop {hd : Bool} {a b : Nat} {s0 s2 s4 s5 s7 s12 s13 : Option T} (ha : a ≤ 9) (hb : b ≤ 9) : ∀ (rs : List (List Nat)) (L : List Kn) (h : MH) (s10 s11 : Option T), Hp3 hd h L → (∀ l ∈ rs, OkR l ∧ l.length ≤ 3) → L.length + rs.length ≤ 500 →
    ∃ h' t10 t11, forFrom (gN 10) mIn (rs.map fun l => .str (sS l)) [s0, some (.ref 0), s2, some (.tup [.int (a : Nat), .int (b : Nat)]), s4, s5, some (.int (hI hd)), s7, some (.ref 1), some (.ref 2), s10, s11, s12, s13] h
      = .nx [s0, some (.ref 0), s2, some (.tup [.int (a : Nat), .int (b : Nat)]), s4, s5, some (.int (hI hd)), s7, some (.ref 1), some (.ref 2), t10, t11, s12, s13] h' ∧ Hp3 hd h' (L ++ rs.map fun l => (a, b, l))
  | [], L, h, s10, s11, H, _, _ => ⟨h, s10, s11, rfl, by rw [List.map_nil, List.append_nil]; exact H⟩
  | l :: rs, L, h, s10, s11, H, hr, hL => by
    rw [List.length_cons] at hL
    obtain ⟨o, hl⟩ := hr l List.mem_cons_self
    obtain ⟨h1, e1, H1⟩ := in_step (n := 0) (s0 := s0) (s2 := s2) (s4 := s4) (s5 := s5) (s7 := s7) (s10 := s10) (s11 := s11) (s12 := s12) (s13 := s13) H (by omega) ha hb o hl
    obtain ⟨h', t10, t11, e2, H2⟩ := in_loop ha hb rs (L ++ [(a, b, l)]) h1 (some (.str (sS l))) (some (.str (sS (TX hd a b l)))) H1 (fun k hk => hr k (List.mem_cons_of_mem _ hk)) (by rw [List.length_append, List.length_singleton]; omega)
    refine ⟨h', t10, t11, ?_, by rw [List.map_cons]; simpa using H2⟩
    rw [List.map_cons]
    unfold forFrom
    show (match mIn [s0, some (.ref 0), s2, some (.tup [.int (a : Nat), .int (b : Nat)]), s4, s5, some (.int (hI hd)), s7, some (.ref 1), some (.ref 2), some (.str (sS l)), s11, s12, s13] h with
      | .nx s2 h2 => forFrom (gN 10) mIn (rs.map fun l => .str (sS l)) s2 h2
      | .ct s2 h2 => forFrom (gN 10) mIn (rs.map fun l => .str (sS l)) s2 h2
      | .bk s2 h2 => SR.nx s2 h2
      | r => r) = _
    rw [e1]
    exact e2
theorem rows_good (n : Nat) (hn : n ≤ 3) : (∀ l ∈ rowsL n, OkR l ∧ l.length = n) ∧ (rowsL n).length ≤ 64 := by
  have : n = 0 ∨ n = 1 ∨ n = 2 ∨ n = 3 := by omega
  unfold OkR
  rcases this with rfl | rfl | rfl | rfl <;> exact ⟨by decide +kernel, by decide +kernel⟩
def mOut : MS := mSq (mFor (mSrc (mA (fP 1 m_law_all_rows) (aCons (mVar 7) aNil))) (gN 10) mIn) mNx
theorem out_loop {hd : Bool} {n : Nat} {s0 s2 s4 s5 s12 s13 : Option T} (h1 : 1 ≤ n) (h3 : n ≤ 3) : ∀ (ps : List (Nat × Nat)) (L : List Kn) (h : MH) (s3 s10 s11 : Option T), Hp3 hd h L → (∀ p ∈ ps, p.1 ≤ 9 ∧ p.2 ≤ 9) → (∀ x ∈ L, Good n x) → L.length + 64 * ps.length ≤ 500 →
    ∃ h' t3 t10 t11 L', forFrom (gN 3) mOut (ps.map fun p : Nat × Nat => T.tup [.int (p.1 : Nat), .int (p.2 : Nat)]) [s0, some (.ref 0), s2, s3, s4, s5, some (.int (hI hd)), some (.int (n : Nat)), some (.ref 1), some (.ref 2), s10, s11, s12, s13] h
      = .nx [s0, some (.ref 0), s2, t3, s4, s5, some (.int (hI hd)), some (.int (n : Nat)), some (.ref 1), some (.ref 2), t10, t11, s12, s13] h' ∧ Hp3 hd h' L' ∧ (∀ x ∈ L', Good n x) ∧ L'.length ≤ 500
  | [], L, h, s3, s10, s11, H, _, g, hL => ⟨h, s3, s10, s11, L, rfl, H, g, by omega⟩
  | p :: ps, L, h, s3, s10, s11, H, hp, g, hL => by
    rw [List.length_cons] at hL
    obtain ⟨ha, hb⟩ := hp p List.mem_cons_self
    obtain ⟨rg, rl⟩ := rows_good n h3
    obtain ⟨h1', t10, t11, e1, H1⟩ := in_loop (s0 := s0) (s2 := s2) (s4 := s4) (s5 := s5) (s7 := some (.int (n : Nat))) (s12 := s12) (s13 := s13) ha hb (rowsL n) L h s10 s11 H (fun l hl => ⟨(rg l hl).1, by rw [(rg l hl).2]; exact h3⟩) (by omega)
    have g1 : ∀ x ∈ L ++ (rowsL n).map fun l => (p.1, p.2, l), Good n x := fun x hx => by
      rcases List.mem_append.mp hx with hx | hx
      · exact g x hx
      · obtain ⟨l, hl, rfl⟩ := List.mem_map.mp hx
        exact ⟨ha, hb, (rg l hl).1, (rg l hl).2⟩
    obtain ⟨h', t3, u10, u11, L', e2, H2, g2, l2⟩ := out_loop h1 h3 ps (L ++ (rowsL n).map fun l => (p.1, p.2, l)) h1' (some (.tup [.int (p.1 : Nat), .int (p.2 : Nat)])) t10 t11 H1 (fun q hq => hp q (List.mem_cons_of_mem _ hq)) g1 (by rw [List.length_append, List.length_map]; omega)
    refine ⟨h', t3, u10, u11, L', ?_, H2, g2, l2⟩
    rw [List.map_cons]
    unfold forFrom
    have k1 : (fP 1 m_law_all_rows) [.int (n : Nat)] h = .ok (.lst ((rowsL n).map fun l => .str (sS l))) h := fP_ok (all_rows_ok n h1 h3) rfl rfl (by
      show closedL ((rowsL n).map fun l => T.str (sS l)) = true
      exact closedL_of fun x hx => by obtain ⟨l, _, rfl⟩ := List.mem_map.mp hx; rfl)
    have k2 : ∀ xs, iS (.lst xs) h = .ok xs h := fun xs => rfl
    have e0 : mOut [s0, some (.ref 0), s2, some (.tup [.int (p.1 : Nat), .int (p.2 : Nat)]), s4, s5, some (.int (hI hd)), some (.int (n : Nat)), some (.ref 1), some (.ref 2), s10, s11, s12, s13] h = .nx [s0, some (.ref 0), s2, some (.tup [.int (p.1 : Nat), .int (p.2 : Nat)]), s4, s5, some (.int (hI hd)), some (.int (n : Nat)), some (.ref 1), some (.ref 2), t10, t11, s12, s13] h1' := by
      simp only [mOut, mi, ms, k1, k2, e1]
    show (match mOut [s0, some (.ref 0), s2, some (.tup [.int (p.1 : Nat), .int (p.2 : Nat)]), s4, s5, some (.int (hI hd)), some (.int (n : Nat)), some (.ref 1), some (.ref 2), s10, s11, s12, s13] h with
      | .nx s2 h2 => forFrom (gN 3) mOut (ps.map fun p : Nat × Nat => T.tup [.int (p.1 : Nat), .int (p.2 : Nat)]) s2 h2
      | .ct s2 h2 => forFrom (gN 3) mOut (ps.map fun p : Nat × Nat => T.tup [.int (p.1 : Nat), .int (p.2 : Nat)]) s2 h2
      | .bk s2 h2 => SR.nx s2 h2
      | r => r) = _
    rw [e0]
    exact e2
/-! ### the six steps -/
theorem draw_n {h : MH} {many : Nat} (B : Bag h 0) (h1 : 1 ≤ many) (h2 : many ≤ 1000000) : ∃ (r : Nat) (h' : MH), (fS 2 m_law_draw) [.ref 0, .int (many : Nat)] h = .ok (.int (r : Nat)) h' ∧ r < many ∧ Bag h' 0 ∧ Keeps 0 h h' := by
  obtain ⟨r, h', e, r0, r1, B', k⟩ := draw_ok (many := (many : Int)) B (by omega) (by omega)
  refine ⟨r.toNat, h', ?_, by omega, B', k⟩
  rw [Int.toNat_of_nonneg r0]
  exact e
def mStep : MS := mSq (mPar 3 10 (aCons (mA fTup (aCons (mA (fS 2 m_law_draw) (aCons (mVar 1) (aCons (mC (.int 10)) aNil))) (aCons (mA (fS 2 m_law_draw) (aCons (mVar 1) (aCons (mC (.int 10)) aNil))) aNil))) (aCons (mA (fS 3 m_law_row) (aCons (mVar 1) (aCons (mC (.int 12)) (aCons (mC (.str "blnr")) aNil)))) aNil)))
    (mSq (mIfS (mOr (m2 fNe (mA (fP 3 m_knowledge) (aCons (mVar 6) (aCons (mVar 3) (aCons (mVar 10) aNil)))) (mA (fP 3 m_law_text) (aCons (mVar 6) (aCons (mVar 3) (aCons (mVar 10) aNil))))) (mNot (mTru (mA (fP 2 m_is_knowledge) (aCons (mVar 6) (aCons (mA (fP 3 m_law_text) (aCons (mVar 6) (aCons (mVar 3) (aCons (mVar 10) aNil)))) aNil)))))) (mSq (mRetF (mC (.bl false)))
    mNx) mNx)
    mNx)
theorem step_ok {hd : Bool} {h : MH} {s0 s2 s3 s4 s5 s7 s8 s9 s10 s11 s12 s13 : Option T} (B : Bag h 0) :
    ∃ t3 t10 h', mStep [s0, some (.ref 0), s2, s3, s4, s5, some (.int (hI hd)), s7, s8, s9, s10, s11, s12, s13] h = .nx [s0, some (.ref 0), s2, t3, s4, s5, some (.int (hI hd)), s7, s8, s9, t10, s11, s12, s13] h' ∧ Bag h' 0 := by
  obtain ⟨a, h1, e1, ha, B1, _⟩ := draw_n (many := 10) B (by omega) (by omega)
  obtain ⟨b, h2, e2, hb, B2, _⟩ := draw_n (many := 10) B1 (by omega) (by omega)
  obtain ⟨l, h3, e3, hl, hn, B3, _⟩ := row_ok B2
  have e3' : (fS 3 m_law_row) [.ref 0, .int 12, .str "blnr"] h2 = .ok (.str (sS l)) h3 := e3
  have e4 : ∀ t u, fTup [t, u] h2 = .ok (.tup [t, u]) h2 := fun t u => rfl
  have k1 : (fP 3 m_knowledge) [.int (hI hd), .tup [.int (a : Nat), .int (b : Nat)], .str (sS l)] h3 = .ok (.str (sS (TX hd a b l))) h3 := fP_ok (knowledge_ok hd (by omega) (by omega) hl (by omega) []) rfl rfl rfl
  have k2 : (fP 3 m_law_text) [.int (hI hd), .tup [.int (a : Nat), .int (b : Nat)], .str (sS l)] h3 = .ok (.str (sS (TX hd a b l))) h3 := fP_ok (law_text_ok hd (by omega) (by omega) (by omega) []) rfl rfl rfl
  have k4 : (fP 2 m_is_knowledge) [.int (hI hd), .str (sS (TX hd a b l))] h3 = .ok (.bl true) h3 := fP_ok (is_knowledge_ok hd (by omega) (by omega) hl (by omega) []) rfl rfl rfl
  have e1' : (fS 2 m_law_draw) [.ref 0, .int 10] h = .ok (.int (a : Nat)) h1 := e1
  have e2' : (fS 2 m_law_draw) [.ref 0, .int 10] h1 = .ok (.int (b : Nat)) h2 := e2
  refine ⟨some (.tup [.int (a : Nat), .int (b : Nat)]), some (.str (sS l)), h3, ?_, B3⟩
  simp only [mStep, mi, ms, e1', e2', e3', e4, k1, k2, k4, fNe_s, decide_true, Bool.not_true]
theorem steps_loop {hd : Bool} {s0 s2 s4 s7 s8 s9 s11 s12 s13 : Option T} : ∀ (xs : List T) (h : MH) (s3 s5 s10 : Option T), Bag h 0 →
    ∃ t3 t5 t10 h', forFrom (gN 5) mStep xs [s0, some (.ref 0), s2, s3, s4, s5, some (.int (hI hd)), s7, s8, s9, s10, s11, s12, s13] h = .nx [s0, some (.ref 0), s2, t3, s4, t5, some (.int (hI hd)), s7, s8, s9, t10, s11, s12, s13] h'
  | [], h, s3, s5, s10, _ => ⟨s3, s5, s10, h, rfl⟩
  | x :: xs, h, s3, s5, s10, B => by
    obtain ⟨t3, t10, h1, e1, B1⟩ := step_ok (hd := hd) (s0 := s0) (s2 := s2) (s3 := s3) (s4 := s4) (s5 := some x) (s7 := s7) (s8 := s8) (s9 := s9) (s10 := s10) (s11 := s11) (s12 := s12) (s13 := s13) B
    obtain ⟨u3, u5, u10, h', e2⟩ := steps_loop xs h1 t3 (some x) t10 B1
    refine ⟨u3, u5, u10, h', ?_⟩
    unfold forFrom
    show (match mStep [s0, some (.ref 0), s2, s3, s4, some x, some (.int (hI hd)), s7, s8, s9, s10, s11, s12, s13] h with
      | .nx s2 h2 => forFrom (gN 5) mStep xs s2 h2
      | .ct s2 h2 => forFrom (gN 5) mStep xs s2 h2
      | .bk s2 h2 => SR.nx s2 h2
      | r => r) = _
    rw [e1]
    exact e2
/-! ### the law -/
theorem mDef_fin (N : Nat) (mb : MS) (ts : List T) (h : MH) : mDef N mb ts h = finD (mb (ts.map some ++ List.replicate (N - ts.length) none) h) := rfl
theorem count_mem {x : T} (hx : x ∈ [T.int 1, .int 2, .int 3, .int 3]) : ∃ n : Nat, x = .int (n : Nat) ∧ 1 ≤ n ∧ n ≤ 3 := by
  simp only [List.mem_cons, List.not_mem_nil, or_false] at hx
  rcases hx with rfl | rfl | rfl | rfl
  · exact ⟨1, rfl, by omega, by omega⟩
  · exact ⟨2, rfl, by omega, by omega⟩
  · exact ⟨3, rfl, by omega, by omega⟩
  · exact ⟨3, rfl, by omega, by omega⟩
def fin3 : ME := m2 fEq (mA fLst (aCons (mA (fP 3 m_knowledge) (aCons (mC (.int 0)) (aCons (mA fTup (aCons (mC (.int 1)) (aCons (mC (.int 2)) aNil))) (aCons (mC (.str "nr")) aNil)))) (aCons (mA (fP 3 m_knowledge) (aCons (mC (.int 1)) (aCons (mA fTup (aCons (mC (.int 0)) (aCons (mC (.int 1)) aNil))) (aCons (mC (.str "blrnl")) aNil)))) (aCons (mA (fP 3 m_knowledge) (aCons (mC (.int 0)) (aCons (mA fTup (aCons (mC (.int 3)) (aCons (mC (.int 4)) aNil))) (aCons (mC (.str "b")) aNil)))) aNil)))) (mA fLst (aCons (mC (.str "1--")) (aCons (mC (.str "01bl+--")) (aCons (mC (.str "34+")) aNil))))
theorem fin3_ok (s : SM) (h : MH) : fin3 s h = .ok (.bl true) h := by kernel_rfl
theorem pure_law (ns : List Int) (h : ns.length ≤ 63) : ∃ h', m_law [.frl (ns.map T.int)] [] = .ok (.bl true) h' := by
  obtain ⟨o, b1, B1⟩ := bag_ok ns []
  have b1' : (fS 1 m_law_bag) [.frl (ns.map T.int)] [] = .ok (.ref 0) [o] := b1
  have B1' : Bag [o] 0 := B1
  obtain ⟨r, h2, d2, hr, B2, K2⟩ := draw_n (many := 2) B1' (by omega) (by omega)
  obtain ⟨x, h3, d3, hx, B3, K3⟩ := of_lst (xs := [T.int 1, .int 2, .int 3, .int 3]) B2 (by simp) (by simp) rfl
  obtain ⟨n, rfl, n1, n3⟩ := count_mem hx
  obtain ⟨a0, h4, d4, ha0, B4, K4⟩ := draw_n (many := 3) B3 (by omega) (by omega)
  obtain ⟨a1, h5, d5, ha1, B5, K5⟩ := draw_n (many := 10) B4 (by omega) (by omega)
  obtain ⟨c0, h6, d6, hc0, B6, K6⟩ := draw_n (many := 3) B5 (by omega) (by omega)
  obtain ⟨c1, h7, d7, hc1, B7, K7⟩ := draw_n (many := 10) B6 (by omega) (by omega)
  have len7 : h7.length = 1 := by rw [K7.len, K6.len, K5.len, K4.len, K3.len, K2.len]; rfl
  obtain ⟨hd, ehd⟩ : ∃ hd : Bool, ((r : Nat) : Int) = hI hd := by
    have : r = 0 ∨ r = 1 := by omega
    rcases this with rfl | rfl
    · exact ⟨false, rfl⟩
    · exact ⟨true, rfl⟩
  rw [ehd] at d2
  have d2' : (fS 2 m_law_draw) [.ref 0, .int 2] [o] = .ok (.int (hI hd)) h2 := d2
  have d3' : (fS 2 m_law_of) [.ref 0, .lst [T.int 1, .int 2, .int 3, .int 3]] h2 = .ok (.int (n : Nat)) h3 := d3
  have d4' : (fS 2 m_law_draw) [.ref 0, .int 3] h3 = .ok (.int (a0 : Nat)) h4 := d4
  have d5' : (fS 2 m_law_draw) [.ref 0, .int 10] h4 = .ok (.int (a1 : Nat)) h5 := d5
  have d6' : (fS 2 m_law_draw) [.ref 0, .int 3] h5 = .ok (.int (c0 : Nat)) h6 := d6
  have d7' : (fS 2 m_law_draw) [.ref 0, .int 10] h6 = .ok (.int (c1 : Nat)) h7 := d7
  have l4 : fLst [T.int 1, .int 2, .int 3, .int 3] h2 = .ok (.lst [T.int 1, .int 2, .int 3, .int 3]) h2 := rfl
  have t2 : ∀ t u h, fTup [t, u] h = .ok (.tup [t, u]) h := fun t u h => rfl
  have l2 : ∀ t u h, fLst [t, u] h = .ok (.lst [t, u]) h := fun t u h => rfl
  have lN : ∀ h : MH, fLstN [] h = .ok (.ref h.length) (h ++ [.lst []]) := fun h => rfl
  have H8 : Hp3 hd (h7 ++ [.lst []] ++ [.lst []]) [] := by
    refine ⟨?_, by simp [len7], ?_, ?_⟩
    · obtain ⟨row, p, c, m, e, z⟩ := B7.ex
      exact ⟨row, p, c, m, by rw [List.append_assoc, List.getElem?_append_left (by omega)]; exact e, z⟩
    · rw [List.append_assoc, List.getElem?_append_right (by omega), len7]; rfl
    · rw [List.append_assoc, List.getElem?_append_right (by omega), len7]; rfl
  obtain ⟨h9, t3, t10, t11, L, e9, H9, gL, lL⟩ := out_loop (hd := hd) (n := n) (s0 := some (.frl (ns.map T.int))) (s2 := some (.lst [.tup [.int (a0 : Nat), .int (a1 : Nat)], .tup [.int (c0 : Nat), .int (c1 : Nat)]])) (s4 := none) (s5 := none) (s12 := none) (s13 := none) n1 n3
    [(a0, a1), (c0, c1)] [] _ none none none H8 (fun p hp => by
      simp only [List.mem_cons, List.not_mem_nil, or_false] at hp
      rcases hp with rfl | rfl
      · exact ⟨by show a0 ≤ 9; omega, by show a1 ≤ 9; omega⟩
      · exact ⟨by show c0 ≤ 9; omega, by show c1 ≤ 9; omega⟩) (fun x hx => by cases hx) (by simp)
  have e9' : (mFor (mSrc (mVar 2)) (gN 3) mOut) [some (.frl (ns.map T.int)), some (.ref 0), some (.lst [.tup [.int (a0 : Nat), .int (a1 : Nat)], .tup [.int (c0 : Nat), .int (c1 : Nat)]]), none, none, none, some (.int (hI hd)), some (.int (n : Nat)), some (.ref 1), some (.ref 2), none, none, none, none] (h7 ++ [.lst []] ++ [.lst []])
      = .nx [some (.frl (ns.map T.int)), some (.ref 0), some (.lst [.tup [.int (a0 : Nat), .int (a1 : Nat)], .tup [.int (c0 : Nat), .int (c1 : Nat)]]), t3, none, none, some (.int (hI hd)), some (.int (n : Nat)), some (.ref 1), some (.ref 2), t10, t11, none, none] h9 := e9
  have f1 : fzT (.ref 1) h9 = (.lst (L.map (txS hd)), h9.set 1 .dead) := by simp only [fzT, H9.tx]
  have v2 : (h9.set 1 .dead)[2]? = some (.lst (L.map (vwS hd))) := by rw [List.getElem?_set_ne (by decide)]; exact H9.vw
  have f2 : fzT (.ref 2) (h9.set 1 .dead) = (.lst (L.map (vwS hd)), (h9.set 1 .dead).set 2 .dead) := by simp only [fzT, v2]
  have B10 : Bag ((h9.set 1 .dead).set 2 .dead) 0 := bag_ne (bag_ne H9.bag (by decide)) (by decide)
  generalize (h9.set 1 .dead).set 2 .dead = h10 at f2 B10
  have hx1 : ∀ x ∈ L, (txD hd x).canLay0 = true ∧ (txD hd x).depth ≤ 60 := fun x hx => ⟨lay_tx hd (gL x hx), Nat.zero_le _⟩
  have hx2 : ∀ x ∈ L, (vwD hd x).canLay0 = true ∧ (vwD hd x).depth ≤ 60 := fun x hx => by
    obtain ⟨z1, z2⟩ := lay_vw x.1 x.2.1 x.2.2.reverse hd
    refine ⟨z1, Nat.le_trans z2 ?_⟩
    rw [List.length_reverse, (gL x hx).l]
    omega
  obtain ⟨q1, q2⟩ := shaped_list hx1
  obtain ⟨q3, q4⟩ := shaped_list hx2
  have sp1 := spots_ok (f := txS hd) (d := txD hd) (L := L) (i := 8) (j := 12) (s := [some (.frl (ns.map T.int)), some (.ref 0), some (.lst [.tup [.int (a0 : Nat), .int (a1 : Nat)], .tup [.int (c0 : Nat), .int (c1 : Nat)]]), t3, none, none, some (.int (hI hd)), some (.int (n : Nat)), some (.lst (L.map (txS hd))), some (.lst (L.map (vwS hd))), t10, t11, none, none]) (h := h10)
    rfl (by decide) (by show 12 < 14; decide) (fun x hx => rfl) (fun x hx => shaped_of (hx1 x hx).1 (Nat.le_trans (hx1 x hx).2 (by decide))) (shapedL_of q1 q2) (fun x hx => by show (sS _ == sS _) = true; exact beq_self_eq_true _) (by omega)
  have sp2 : ∀ z, _ := fun z => spots_ok (f := vwS hd) (d := vwD hd) (L := L) (i := 9) (j := 13) (s := [some (.frl (ns.map T.int)), some (.ref 0), some (.lst [.tup [.int (a0 : Nat), .int (a1 : Nat)], .tup [.int (c0 : Nat), .int (c1 : Nat)]]), t3, z, none, some (.int (hI hd)), some (.int (n : Nat)), some (.lst (L.map (txS hd))), some (.lst (L.map (vwS hd))), t10, t11, none, none]) (h := h10)
    rfl (by decide) (by show 13 < 14; decide) (fun x hx => toD_vw _ _ _ _) (fun x hx => shaped_of (hx2 x hx).1 (Nat.le_trans (hx2 x hx).2 (by decide))) (shapedL_of q3 q4) (fun x hx => (eqv_vw _ _ hd hd).mpr rfl) (by omega)
  have sj : (L.map fun x => T.int (jx (txD hd) L x : Nat)) = (L.map fun x => jx (txD hd) L x).map fun k => T.int (k : Nat) := by rw [List.map_map]; rfl
  have sj2 : (L.map fun x => T.int (jx (vwD hd) L x : Nat)) = (L.map fun x => jx (txD hd) L x).map fun k => T.int (k : Nat) := by
    rw [List.map_map]
    apply List.map_congr_left
    intro x hx
    show T.int ((jx (vwD hd) L x : Nat) : Int) = T.int ((jx (txD hd) L x : Nat) : Int)
    rw [same_jx (h := hd) gL hx]
  rw [sj] at sp1
  simp only [sj2] at sp2
  have ne := fNe_ints (L.map fun x => jx (txD hd) L x) (L.map fun x => jx (txD hd) L x) h10
  obtain ⟨u3, u5, u10, h11, e11⟩ := steps_loop (hd := hd) (s0 := some (.frl (ns.map T.int))) (s2 := some (.lst [.tup [.int (a0 : Nat), .int (a1 : Nat)], .tup [.int (c0 : Nat), .int (c1 : Nat)]])) (s4 := some (.lst ((L.map fun x => jx (txD hd) L x).map fun k => T.int (k : Nat)))) (s7 := some (.int (n : Nat))) (s8 := some (.lst (L.map (txS hd)))) (s9 := some (.lst (L.map (vwS hd)))) (s11 := t11) (s12 := none) (s13 := none) (intsT 0 6) h10 t3 none t10 B10
  have rg : iRg1 [.int 6] h10 = .ok (intsT 0 6) h10 := rfl
  refine ⟨(fzT (.ref 0) h11).2, ?_⟩
  have fz0 : fzT (.bl true) (fzT (.ref 0) h11).2 = (.bl true, (fzT (.ref 0) h11).2) := rfl
  have body : m_law = mDef 14 (mSq (mSet 1 (mA (fS 1 m_law_bag) (aCons (mVar 0) aNil)))
    (mSq (mPar 6 7 (aCons (mA (fS 2 m_law_draw) (aCons (mVar 1) (aCons (mC (.int 2)) aNil))) (aCons (mA (fS 2 m_law_of) (aCons (mVar 1) (aCons (mA fLst (aCons (mC (.int 1)) (aCons (mC (.int 2)) (aCons (mC (.int 3)) (aCons (mC (.int 3)) aNil))))) aNil))) aNil)))
    (mSq (mSet 2 (mA fLst (aCons (mA fTup (aCons (mA (fS 2 m_law_draw) (aCons (mVar 1) (aCons (mC (.int 3)) aNil))) (aCons (mA (fS 2 m_law_draw) (aCons (mVar 1) (aCons (mC (.int 10)) aNil))) aNil))) (aCons (mA fTup (aCons (mA (fS 2 m_law_draw) (aCons (mVar 1) (aCons (mC (.int 3)) aNil))) (aCons (mA (fS 2 m_law_draw) (aCons (mVar 1) (aCons (mC (.int 10)) aNil))) aNil))) aNil))))
    (mSq (mAs (mA fTup (aCons (mA fLstN aNil) (aCons (mA fLstN aNil) aNil))) (gT 2 (gsCons (gN 8) (gsCons (gN 9) gsNil))))
    (mSq (mFor (mSrc (mVar 2)) (gN 3) mOut)
    (mFz 8 (mFz 9 (mSq (mSet 4 (mLc (mSrc (mVar 8)) (gN 12) (mC (.bl true)) (mMe "list" fIndex (mVar 8) (aCons (mVar 12) aNil)) [12]))
    (mSq (mIfS (m2 fNe (mVar 4) (mLc (mSrc (mVar 9)) (gN 13) (mC (.bl true)) (mMe "list" fIndex (mVar 9) (aCons (mVar 13) aNil)) [13])) (mSq (mRetF (mC (.bl false)))
    mNx) mNx)
    (mSq (mFor (mIA iRg1 (aCons (mC (.int 6)) aNil)) (gN 5) mStep)
    (mFz 1 (mSq (mRetF fin3) mNx)))))))))))) := rfl
  have ggt : ∀ (t u : T) (s : SM) (h : MH), gT 2 (gsCons (gN 8) (gsCons (gN 9) gsNil)) (.tup [t, u]) s h = .ok ((s.set 8 (some t)).set 9 (some u)) h := fun t u s h => rfl
  have fzs : ∀ (i : Nat) (m : MS) (s : SM) (h : MH) (t : T), s[i]? = some (some t) → mFz i m s h = m (s.set i (some (fzT t h).1)) (fzT t h).2 := fun i m s h t e => by simp only [mFz, e]
  rw [body, mDef_fin]
  show finD (mSq _ _ [some (.frl (ns.map T.int)), none, none, none, none, none, none, none, none, none, none, none, none, none] []) = _
  rw [seq_nx (s1 := [some (.frl (ns.map T.int)), some (.ref 0), none, none, none, none, none, none, none, none, none, none, none, none]) (h1 := [o]) (by simp only [mi, ms, b1'])]
  rw [seq_nx (s1 := [some (.frl (ns.map T.int)), some (.ref 0), none, none, none, none, some (.int (hI hd)), some (.int (n : Nat)), none, none, none, none, none, none]) (h1 := h3) (by simp only [mi, ms, d2', l4, d3'])]
  rw [seq_nx (s1 := [some (.frl (ns.map T.int)), some (.ref 0), some (.lst [.tup [.int (a0 : Nat), .int (a1 : Nat)], .tup [.int (c0 : Nat), .int (c1 : Nat)]]), none, none, none, some (.int (hI hd)), some (.int (n : Nat)), none, none, none, none, none, none]) (h1 := h7) (by simp only [mi, ms, d4', d5', d6', d7', t2, l2])]
  rw [seq_nx (s1 := [some (.frl (ns.map T.int)), some (.ref 0), some (.lst [.tup [.int (a0 : Nat), .int (a1 : Nat)], .tup [.int (c0 : Nat), .int (c1 : Nat)]]), none, none, none, some (.int (hI hd)), some (.int (n : Nat)), some (.ref 1), some (.ref 2), none, none, none, none]) (h1 := h7 ++ [.lst []] ++ [.lst []]) (by simp only [mi, ms, lN, t2, ggt, len7, List.length_append]; rfl)]
  rw [seq_nx e9', fzs 8 _ _ _ _ rfl, f1]
  dsimp only
  rw [fzs 9 _ _ _ (.ref 2) rfl, f2]
  dsimp only
  show finD (mSq _ _ [some (.frl (ns.map T.int)), some (.ref 0), some (.lst [.tup [.int (a0 : Nat), .int (a1 : Nat)], .tup [.int (c0 : Nat), .int (c1 : Nat)]]), t3, none, none, some (.int (hI hd)), some (.int (n : Nat)), some (.lst (L.map (txS hd))), some (.lst (L.map (vwS hd))), t10, t11, none, none] h10) = _
  rw [seq_nx (s1 := [some (.frl (ns.map T.int)), some (.ref 0), some (.lst [.tup [.int (a0 : Nat), .int (a1 : Nat)], .tup [.int (c0 : Nat), .int (c1 : Nat)]]), t3, some (.lst ((L.map fun x => jx (txD hd) L x).map fun k => T.int (k : Nat))), none, some (.int (hI hd)), some (.int (n : Nat)), some (.lst (L.map (txS hd))), some (.lst (L.map (vwS hd))), t10, t11, none, none]) (h1 := h10) (by
    simp only [mi, sp1]
    rfl)]
  rw [seq_nx (s1 := [some (.frl (ns.map T.int)), some (.ref 0), some (.lst [.tup [.int (a0 : Nat), .int (a1 : Nat)], .tup [.int (c0 : Nat), .int (c1 : Nat)]]), t3, some (.lst ((L.map fun x => jx (txD hd) L x).map fun k => T.int (k : Nat))), none, some (.int (hI hd)), some (.int (n : Nat)), some (.lst (L.map (txS hd))), some (.lst (L.map (vwS hd))), t10, t11, none, none]) (h1 := h10) (by
    simp only [mi, ms, sp2, ne, decide_true, Bool.not_true])]
  rw [seq_nx (s1 := [some (.frl (ns.map T.int)), some (.ref 0), some (.lst [.tup [.int (a0 : Nat), .int (a1 : Nat)], .tup [.int (c0 : Nat), .int (c1 : Nat)]]), u3, some (.lst ((L.map fun x => jx (txD hd) L x).map fun k => T.int (k : Nat))), u5, some (.int (hI hd)), some (.int (n : Nat)), some (.lst (L.map (txS hd))), some (.lst (L.map (vwS hd))), u10, t11, none, none]) (h1 := h11) (by
    simp only [mi, rg]
    exact e11)]
  rw [fzs 1 _ _ _ (.ref 0) rfl]
  have fin : ∀ (s : SM) (h : MH), mSq (mRetF fin3) mNx s h = .rt (.bl true) h := fun s h => by
    simp only [mi, fin3_ok, mz]
  rw [fin]
  rfl
end L_k46
end part_R46
section part_H46
set_option maxRecDepth 100000
set_option maxHeartbeats 0
namespace L_k46
open PySem PySem.Spec PyProof.Rows L2 Mi
def names0 : List Str := ["FIGURES", "is_number", "is_within", "PostError", "InvalidRow", "InvalidHand", "InvalidInput", "SIGNS", "HEARD", "is_row", "need_row", "need_hand", "are_digits", "text_of", "knowledge", "parts_of", "is_knowledge", "_law_bag", "_law_draw", "_law_of"]
def names1 : List Str := ["_law_all_rows", "_law_alike", "_law_hears", "_law_text", "_law_whole_view", "_law_row"]
def names : List Str := names0 ++ names1
def d__law_bag : He.DefD := ⟨("_law_bag", none), "_law_bag", "_law_bag", defArgs s__law_bag, defBody s__law_bag, defScope s__law_bag, [], []⟩
def d__law_draw : He.DefD := ⟨("_law_draw", none), "_law_draw", "_law_draw", defArgs s__law_draw, defBody s__law_draw, defScope s__law_draw, [], []⟩
def d__law_of : He.DefD := ⟨("_law_of", none), "_law_of", "_law_of", defArgs s__law_of, defBody s__law_of, defScope s__law_of, [], []⟩
def d__law_all_rows : He.DefD := ⟨("_law_all_rows", none), "_law_all_rows", "_law_all_rows", defArgs s__law_all_rows, defBody s__law_all_rows, defScope s__law_all_rows, [], []⟩
def d_is_number : He.DefD := ⟨("is_number", none), "is_number", "is_number", defArgs s_is_number, defBody s_is_number, defScope s_is_number, [], []⟩
def d_is_within : He.DefD := ⟨("is_within", none), "is_within", "is_within", defArgs s_is_within, defBody s_is_within, defScope s_is_within, [], []⟩
def d_need_hand : He.DefD := ⟨("need_hand", none), "need_hand", "need_hand", defArgs s_need_hand, defBody s_need_hand, defScope s_need_hand, [], []⟩
def d_is_row : He.DefD := ⟨("is_row", none), "is_row", "is_row", defArgs s_is_row, defBody s_is_row, defScope s_is_row, [], []⟩
def d_need_row : He.DefD := ⟨("need_row", none), "need_row", "need_row", defArgs s_need_row, defBody s_need_row, defScope s_need_row, [], []⟩
def d_text_of : He.DefD := ⟨("text_of", none), "text_of", "text_of", defArgs s_text_of, defBody s_text_of, defScope s_text_of, [], []⟩
def d_are_digits : He.DefD := ⟨("are_digits", none), "are_digits", "are_digits", defArgs s_are_digits, defBody s_are_digits, defScope s_are_digits, [], []⟩
def d_knowledge : He.DefD := ⟨("knowledge", none), "knowledge", "knowledge", defArgs s_knowledge, defBody s_knowledge, defScope s_knowledge, [], []⟩
def d__law_row : He.DefD := ⟨("_law_row", none), "_law_row", "_law_row", defArgs s__law_row, defBody s__law_row, defScope s__law_row, [], []⟩
def d__law_alike : He.DefD := ⟨("_law_alike", none), "_law_alike", "_law_alike", defArgs s__law_alike, defBody s__law_alike, defScope s__law_alike, [], []⟩
def d_parts_of : He.DefD := ⟨("parts_of", none), "parts_of", "parts_of", defArgs s_parts_of, defBody s_parts_of, defScope s_parts_of, [], []⟩
def d_is_knowledge : He.DefD := ⟨("is_knowledge", none), "is_knowledge", "is_knowledge", defArgs s_is_knowledge, defBody s_is_knowledge, defScope s_is_knowledge, [], []⟩
def d__law_hears : He.DefD := ⟨("_law_hears", none), "_law_hears", "_law_hears", defArgs s__law_hears, defBody s__law_hears, defScope s__law_hears, [], []⟩
def d__law_whole_view : He.DefD := ⟨("_law_whole_view", none), "_law_whole_view", "_law_whole_view", defArgs s__law_whole_view, defBody s__law_whole_view, defScope s__law_whole_view, [], []⟩
def d__law_text : He.DefD := ⟨("_law_text", none), "_law_text", "_law_text", defArgs s__law_text, defBody s__law_text, defScope s__law_text, [], []⟩
def d_law : He.DefD := ⟨("law", none), "law", "law", defArgs s_law, defBody s_law, defScope s_law, [], []⟩
def fn0 : List He.DefD := [d__law_bag, d__law_draw, d__law_of, d__law_all_rows, d_is_number, d_is_within, d_need_hand, d_is_row, d_need_row, d_text_of, d_are_digits, d_knowledge, d__law_row, d__law_alike, d_parts_of]
def fn1 : List He.DefD := [d_is_knowledge, d__law_hears, d__law_whole_view, d__law_text, d_law]
def fn : List He.DefD := fn0 ++ fn1
def fa0 : List He.Fa := [.glo "_law_bag", .glo "_law_draw", .glo "_law_of", .glo "_law_all_rows", .glo "is_number", .glo "is_within", .glo "need_hand", .glo "is_row", .glo "need_row", .glo "text_of", .glo "are_digits", .glo "knowledge", .glo "_law_row", .glo "_law_alike", .glo "parts_of"]
def fa1 : List He.Fa := [.glo "is_knowledge", .glo "_law_hears", .glo "_law_whole_view", .glo "_law_text", .glo "law", .free "all", .free "bool", .free "enumerate", .free "int", .free "isinstance", .free "len", .free "list", .free "range", .free "str", .free "tuple"]
def fa2 : List He.Fa := [.free "zip"]
def fa : List He.Fa := fa0 ++ fa1 ++ fa2
def ex (K : PySem.W.Frag) : Bool := kV K "FIGURES" t_FIGURES && kV K "HEARD" t_HEARD && kV K "SIGNS" t_SIGNS
abbrev R : PySem.W.OpenRow := PySem.W.OpenLaw.row PySem.Challenge.rw_hushaccord_k46_whole_texts_of_knowledge
abbrev qv : Program := PySem.W.view R.prog [31]
abbrev hk : PySem.W.Hook := He.hookX 4 fa fn [] [] ex
def ob (s : PySem.W.SharedT) : He.AlX := He.obsX 4 fa fn [] [] ex (HandSHeadRun.getT s)
theorem ob_eq (s : PySem.W.SharedT) : ob s = hk.obs s.abs := He.obsX_eq (HandSHeadRun.getT_eq s)
theorem run_false (w : World) : HandSHeadRun.RunEq R qv hk ob 4000 names (w.withFollow "special-get-raises" false) := by
  intro os
  kernel_rfl
theorem run_true (w : World) : HandSHeadRun.RunEq R qv hk ob 4000 names (w.withFollow "special-get-raises" true) := by
  intro os
  kernel_rfl
theorem run (w : World) : HandSHeadRun.RunEq R qv hk ob 4000 names w := PySem.W.byRow2 "special-get-raises" run_false run_true w
theorem env {K : PySem.W.Frag} {h : Heap} {mg : Str → Option Value} {w : World} (X : K.In h) (G : h.Ns mainGlobals mg) (c0 : He.SaysX fa fn [] [] ex w h K) : Env K mg := by
  have c := says_d c0
  have e := c0.more
  simp only [ex, Bool.and_eq_true] at e
  exact ⟨He.free_ok X G (c.fact 20 (f := .free "all") rfl),
    He.free_ok X G (c.fact 21 (f := .free "bool") rfl),
    He.free_ok X G (c.fact 22 (f := .free "enumerate") rfl),
    He.free_ok X G (c.fact 23 (f := .free "int") rfl),
    He.free_ok X G (c.fact 24 (f := .free "isinstance") rfl),
    He.free_ok X G (c.fact 25 (f := .free "len") rfl),
    He.free_ok X G (c.fact 26 (f := .free "list") rfl),
    He.free_ok X G (c.fact 27 (f := .free "range") rfl),
    He.free_ok X G (c.fact 28 (f := .free "str") rfl),
    He.free_ok X G (c.fact 29 (f := .free "tuple") rfl),
    He.free_ok X G (c.fact 30 (f := .free "zip") rfl),
    (let ⟨fd, F⟩ := c.def_ 0 (d := d__law_bag) rfl; ⟨_, fd, F, He.glo_ok X G (c.fact 0 (f := .glo "_law_bag") rfl)⟩),
    (let ⟨fd, F⟩ := c.def_ 1 (d := d__law_draw) rfl; ⟨_, fd, F, He.glo_ok X G (c.fact 1 (f := .glo "_law_draw") rfl)⟩),
    (let ⟨fd, F⟩ := c.def_ 2 (d := d__law_of) rfl; ⟨_, fd, F, He.glo_ok X G (c.fact 2 (f := .glo "_law_of") rfl)⟩),
    (let ⟨fd, F⟩ := c.def_ 3 (d := d__law_all_rows) rfl; ⟨_, fd, F, He.glo_ok X G (c.fact 3 (f := .glo "_law_all_rows") rfl)⟩),
    (let ⟨fd, F⟩ := c.def_ 4 (d := d_is_number) rfl; ⟨_, fd, F, He.glo_ok X G (c.fact 4 (f := .glo "is_number") rfl)⟩),
    (let ⟨fd, F⟩ := c.def_ 5 (d := d_is_within) rfl; ⟨_, fd, F, He.glo_ok X G (c.fact 5 (f := .glo "is_within") rfl)⟩),
    (let ⟨fd, F⟩ := c.def_ 6 (d := d_need_hand) rfl; ⟨_, fd, F, He.glo_ok X G (c.fact 6 (f := .glo "need_hand") rfl)⟩),
    (let ⟨fd, F⟩ := c.def_ 7 (d := d_is_row) rfl; ⟨_, fd, F, He.glo_ok X G (c.fact 7 (f := .glo "is_row") rfl)⟩),
    (let ⟨fd, F⟩ := c.def_ 8 (d := d_need_row) rfl; ⟨_, fd, F, He.glo_ok X G (c.fact 8 (f := .glo "need_row") rfl)⟩),
    (let ⟨fd, F⟩ := c.def_ 9 (d := d_text_of) rfl; ⟨_, fd, F, He.glo_ok X G (c.fact 9 (f := .glo "text_of") rfl)⟩),
    (let ⟨fd, F⟩ := c.def_ 10 (d := d_are_digits) rfl; ⟨_, fd, F, He.glo_ok X G (c.fact 10 (f := .glo "are_digits") rfl)⟩),
    (let ⟨fd, F⟩ := c.def_ 11 (d := d_knowledge) rfl; ⟨_, fd, F, He.glo_ok X G (c.fact 11 (f := .glo "knowledge") rfl)⟩),
    (let ⟨fd, F⟩ := c.def_ 12 (d := d__law_row) rfl; ⟨_, fd, F, He.glo_ok X G (c.fact 12 (f := .glo "_law_row") rfl)⟩),
    (let ⟨fd, F⟩ := c.def_ 13 (d := d__law_alike) rfl; ⟨_, fd, F, He.glo_ok X G (c.fact 13 (f := .glo "_law_alike") rfl)⟩),
    (let ⟨fd, F⟩ := c.def_ 14 (d := d_parts_of) rfl; ⟨_, fd, F, He.glo_ok X G (c.fact 14 (f := .glo "parts_of") rfl)⟩),
    (let ⟨fd, F⟩ := c.def_ 15 (d := d_is_knowledge) rfl; ⟨_, fd, F, He.glo_ok X G (c.fact 15 (f := .glo "is_knowledge") rfl)⟩),
    (let ⟨fd, F⟩ := c.def_ 16 (d := d__law_hears) rfl; ⟨_, fd, F, He.glo_ok X G (c.fact 16 (f := .glo "_law_hears") rfl)⟩),
    (let ⟨fd, F⟩ := c.def_ 17 (d := d__law_whole_view) rfl; ⟨_, fd, F, He.glo_ok X G (c.fact 17 (f := .glo "_law_whole_view") rfl)⟩),
    (let ⟨fd, F⟩ := c.def_ 18 (d := d__law_text) rfl; ⟨_, fd, F, He.glo_ok X G (c.fact 18 (f := .glo "_law_text") rfl)⟩),
    (let ⟨fd, F⟩ := c.def_ 19 (d := d_law) rfl; ⟨_, fd, F, He.glo_ok X G (c.fact 19 (f := .glo "law") rfl)⟩),
    kV_of X G e.1.1,
    kV_of X G e.1.2,
    kV_of X G e.2⟩
end L_k46
open PySem PySem.W PySem.Calls PyProof.Rows
theorem PySem.Challenge.cw_hushaccord_k46_whole_texts_of_knowledge_holds : PySem.Challenge.rw_hushaccord_k46_whole_texts_of_knowledge.Holds := by
  w_on; o_law
  refine HandSHeadRun.head_any (r := OpenLaw.row PySem.Challenge.rw_hushaccord_k46_whole_texts_of_knowledge) (q := view (OpenLaw.row PySem.Challenge.rw_hushaccord_k46_whole_texts_of_knowledge).prog [31]) (H := L_k46.hk) (ob := L_k46.ob) (M := 4000) (loose := L_k46.names) (d := HandSHeadRun.topDef (OpenLaw.row PySem.Challenge.rw_hushaccord_k46_whole_texts_of_knowledge).prog 31) (kwd := []) L_k46.ob_eq
    (by kernel_rfl) (fun s => by kernel_rfl) L_k46.run (by kernel_rfl) (by kernel_rfl) (by kernel_rfl) (by rfl) (by first | assumption | decide +kernel) (by decide +kernel) ⟨rfl, rfl, rfl, rfl, rfl, by decide +kernel⟩ ?hw ?hc
  case hw => w_witness2
  case hc =>
    refine L2.walk_ofE (l := PySem.Challenge.rw_hushaccord_k46_whole_texts_of_knowledge) (n := 63) (k := 10) (x := "_law_script") (CX := L2.CX0) rfl (by decide) (by kernel_rfl) ⟨rfl, by decide, by decide⟩ ?F (fun _ _ _ _ z => z)
    intro w mg fa h Y G hmg0
    obtain ⟨K, KX, c⟩ := Y
    have hmg : mg ("law" : PySem.Str) = some (.ref fa) := by
      have e : (HandSHeadRun.topDef (OpenLaw.row PySem.Challenge.rw_hushaccord_k46_whole_texts_of_knowledge).prog 31).name = ("law" : PySem.Str) := by kernel_rfl
      rw [← e]
      exact hmg0
    have Y := L_k46.env KX G c
    obtain ⟨f, fd, F, hm⟩ := Y.d_law
    cases hmg.symm.trans hm
    exact ⟨K, fd, fun vs H Q _ => Mi.spM K mg 1 L_k46.m_law vs H Q fun _ _ _ => False, KX, fun s v => (L2.FunD.bindsA (ps := ["_law_script"]) F fun _ _ _ _ _ _ us hl => match us, hl with | [_], _ => rfl) s [v] rfl, fun H a ns hl hO hS => Mi.law_sp (L_k46.pure_law ns hl) hO hS, fun base _ _ => Mi.law_at F hm (L_k46.ok_law (P := (PySem.Challenge.rw_hushaccord_k46_whole_texts_of_knowledge).prog) (w := w) (base := base) Y)⟩
end part_H46
