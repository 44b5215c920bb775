import PyProof.Rows.All
import Wide.All
import OpenK.AllK
import Wide.FinOn
import PyProof.EqAt
import PyProof.EqKinds
import PyProof.TupleCall
import HandS.ForMost
import HandS.Exc
import HandS.WordsExc
import HandS.Defaults
import HandS.Lambda
import KE.KeyNested
import HandS.Deep
import HandS.TupAny
import HandS.TupLe
import HandS.IsInst
import HandS.FStr
import HandS.Flow
import HandS.StrMore
import HandS.More
import KE.GoesMore
import KE.GoesEnum
import KE.GoesZip
import HandS.CallSlots
import HandS.Steps
import PyProof.Rows.StrMul
import HandS.Text
import HandS.List
import HandS.Ends
import HandS.HeadEnd
import HandS.Head0
import HandS.Head1
import HandS.Head2
import HandS.HeadHook1
import HandS.HeadHook2
import HandS.HeadHook3
import HandS.HeadHook4
import HandS.Nested
import HandS.ExcCtx
import HandS.HotCalls
import HandS.Property
import HandS.MakeKw
import HandS.MakeKwOnly
import KE.KFmtOwn
import OpenK.KOps
import OpenK.KMeth
import KE.KExcInit
import KE.KExcSuper
import KE.KSuper
import HandS.ExcInit
import HandS.ExcSuper
import HandS.ExcIs
import KE.KExcIs
import HandS.ExcField
import HandS.EndTab
import HandS.TupSets
import HandS.SortRule
import PyProof.WalksMore
import HandS.ClsMeth
import PyProof.InstNe
import HandS.Star
import KE.KOpsOwn
import HandS.Style
import KE.SortData
import KE.KSetDisp
import HandS.Strs
import HandS.Conv
import KE.KDictPairs
import HandS.Dict
import HandS.Iter
import HandS.Small
import HandS.ListItems
import HandS.DictComp
import HandS.TupLen
import HandS.SetKeys
import PyProof.DictMoreH
import PyProof.DictRoadsH
import KE.KDictKeyed
import HandS.ListEq
import KE.KEqNest
import PyProof.DictDisplay
import KE.KUnpackStar
import HandS.ExcValue
import HandS.Comp
import KE.GoesRaise
import HandS.TupMul
import KE.KDictList
import KE.KDictWalk
import PyProof.Conv_bool
import PyProof.ListNew
import HandS.GenList
import HandS.GenYield
import KE.GoesOver
import PyProof.ForAny
import HandS.GenCall
import PyProof.ForAppend
import PyProof.CompMap
import HandS.Zip
import KE.KStateDown
import KE.KNestM
import PySem.Challenge.RW_hushaccord_k02_whole_rows_in_order
set_option Elab.async false
set_option linter.all false
section part_Mi0
set_option maxRecDepth 100000
set_option maxHeartbeats 2000000
/-! Mi, part 0: values as trees (T), the mirror's heap, how they lie in the abstract heap (Rep), what a step leaves (Ext), the readings of mirrors (tM, tSM). -/
namespace Mi
open PySem PySem.Spec PyProof.Rows L2

/-- a lambda's words: the qualified name, the parameters, the body, the scope; whether its one parameter has the default 0 -/
structure LamI where
  q : Str
  params : Arguments
  body : Expr
  scope : Scope
  dflt : Bool
/-- a value as a tree; ref: the i-th changeable object; fn: a lambda (its number in the law's text, its words, the maker's cells); fnc: .. lent to a call, the cells are the changeable objects from the n-th on; tpl: a tuple of which only its items are known (an item of enumerate, of zip) -/
inductive T where
  | non | bl (b : Bool) | int (i : Int) | str (s : Str)
  | tup (xs : List T) | lst (xs : List T) | frl (xs : List T)
  | dct (ks vs : List T)
  | obj (c : Str) (ns : List Str) (vs : List T)
  | ref (i : Nat)
  | exn (c : Str) (ns : List Str) (vs : List T)
  | cls (c : Str)
  | fn (k : Nat) (I : LamI) (C : List (Str × Addr))
  | fnc (k : Nat) (I : LamI) (C : List (Str × Addr)) (n : Nat)
  | tpl (xs : List T)
  deriving Inhabited
/-! ### the readings of mirrors -/
/-! ### expressions -/
end Mi
end part_Mi0
section part_Mi12
set_option maxRecDepth 100000
set_option maxHeartbeats 2000000
/-! Mi, part 12: constants of the module, the law's promise, the head's facts. -/
namespace Mi
open PySem PySem.Spec PyProof.Rows L2
/-! the value u, read in K, is the tree t -/
mutual
def kT (K : PySem.W.Frag) : T → Value → Bool
  | .non, .none => true
  | .bl b, .bool c => decide (b = c)
  | .int i, .int j _ => decide (i = j)
  | .str x, .str y _ => decide (x = y)
  | .tup xs, .ref a => match K.lookup a with
    | some ⟨.type c, none, .seq its _, _⟩ => decide (c = "tuple") && (decide (its.size ≤ sizeLine) && kTs K xs its.toList)
    | _ => false
  | .frl xs, .ref a => match K.lookup a with
    | some ⟨.type c, none, .seq its _, _⟩ => decide (c = "list") && (decide (its.size ≤ sizeLine) && kTs K xs its.toList)
    | _ => false
  | _, _ => false
def kTs (K : PySem.W.Frag) : List T → List Value → Bool
  | [], [] => true
  | t :: ts, u :: us => kT K t u && kTs K ts us
  | _, _ => false
end
def kV (K : PySem.W.Frag) (x : Str) (t : T) : Bool := match PySem.W.nsIn K mainGlobals x with
  | some (some u) => kT K t u
  | _ => false
/-! ### the head's facts -/
end Mi
end part_Mi12
section part_Mi24
set_option maxRecDepth 100000
set_option maxHeartbeats 4000000
/-! Mi, part 24: own exceptions over any built-in base: their class, what their __init__ leaves. -/
namespace Mi
open PySem PySem.Spec PyProof.Rows L2
def isRefV : Value → Bool
  | .ref _ => true
  | _ => false
def refsBb (mB l : List Value) : Bool := decide (l.dropWhile isRefV = mB)
end Mi
end part_Mi24
section part_Mi30
set_option maxRecDepth 100000
set_option maxHeartbeats 4000000
/-! Mi, part 30: the head's facts, own exceptions too (their __init__ has a closure; cStatics is looked at). -/
namespace Mi
open PySem PySem.Spec PyProof.Rows L2
abbrev FnS : Type := Option (Str × Str × Arguments × FuncBody × Scope × Addr × Addr)
abbrev Pth : Type := (PySem.W.Frag → Addr) × He.DefD
def fnS (K : PySem.W.Frag) (a : Addr) : FnS := match K.lookup a with
  | some ⟨_, _, .func fd, _⟩ => some (fd.name, fd.qualname, fd.params, fd.body, fd.scope, fd.globals, fd.builtins)
  | _ => none
def sVal (d : He.DefD) : FnS := some (d.name, d.qual, d.params, .stmts d.body, d.scope, mainGlobals, builtinsNs)
structure SaysY (fa : List He.Fa) (fn : List He.DefD) (sf : List Pth) (ex : PySem.W.Frag → Bool) (K : PySem.W.Frag) : Prop where
  d : He.SaysD fa fn K
  more : ex K = true
  sf : sf.map (fun q => fnS K (q.1 K)) = sf.map fun q => sVal q.2
def frY (g : Addr → Option Obj) (n : Nat) : PySem.W.Frag := He.frT g (He.asD g n ++ [cStatics])
abbrev AlY : Type := (He.AlD × Bool) × List FnS
def obsY (n : Nat) (fa : List He.Fa) (fn : List He.DefD) (sf : List Pth) (ex : PySem.W.Frag → Bool) (g : Addr → Option Obj) : AlY := ((He.obsD fa fn (frY g n), ex (frY g n)), sf.map fun q => fnS (frY g n) (q.1 (frY g n)))
def valY (fn : List He.DefD) (sf : List Pth) : AlY := ((He.valD fn, true), sf.map fun q => sVal q.2)
/-! ### an own exception -/
def oexB (K : PySem.W.Frag) (C : Addr) (nI : String) (mB : List Value) : Bool := match K.lookup C with
  | some ⟨.type ty, _, .cls cd, sl⟩ => (match cd.mro, sl.toList with
    | .ref C' :: bm, [_, _, _, _, some (.builtin n), _] => decide (ty = "type") && (decide (C' = C) && (decide (n = nI) && (!cd.hasDel && (cd.hasDict && refsBb mB bm))))
    | _, _ => false)
  | _ => false
abbrev ini : Str := "__init__"
def exnB (K : PySem.W.Frag) (file c : Str) (B nI iI : String) (mB : List Value) (fs : List Str) : Bool :=
  He.eqO (PySem.W.nsIn K mainGlobals c) (some (some (.ref (He.ga K c)))) && (oexB K (He.ga K c) nI mB && (He.eqO (PySem.W.findIn K (.ref (He.ga K c)) "__setattr__") (some (some (.builtin "object.__setattr__"))) &&
  (decide (PySem.W.subIn K (.ref (He.ga K c)) (.type "BaseException") = some true) && (decide (PySem.W.typeIn K (.ref (He.ga K c)) = some (.type "type")) && (PySem.W.keepIn K (.ref (He.ga K c)) &&
  (He.eqO (PySem.W.findIn K (.ref (He.ga K c)) "__init__") (some (some (.ref (He.fAd K (c, some ini))))) && (decide (PySem.W.typeIn K (.ref (He.fAd K (c, some ini))) = some (.type "function")) &&
  ((match K.lookup (He.fAd K (c, some ini)) with
    | some ⟨_, _, .func ⟨_, q, _, _, _, _, [(y, cc)], .none, .none, _, _, none, .ref cd, _, _⟩, _⟩ => decide (y = "__class__") && (PySem.W.codeIn K (.ref cd) q && ((match K.lookup cd with
      | some ⟨_, _, .fields vs, _⟩ => (match vs[2]? with
        | some (Value.str fl _) => ((file : Str) == fl)
        | _ => false)
      | _ => false) && (match K.lookup cc with
      | some ⟨_, _, .cell (some (.ref C')), _⟩ => decide (C' = He.ga K c)
      | _ => false)))
    | _ => false) &&
  (decide (PySem.W.mroIn K (He.ga K c) (.ref (He.ga K c)) = some true) && (He.eqO (PySem.W.nsIn K cStatics "thirdparty.any") (some none) && (He.eqO (PySem.W.ks_superIn K (He.ga K c) (He.ga K c) "__init__") (some (some (.builtin iI))) &&
  (decide (PySem.W.subIn K (.ref (He.ga K c)) (.type B) = some true) && (He.eqO (PySem.W.nsIn K mainGlobals "super") (some none) && fs.all fun f => He.eqO (PySem.W.findIn K (.ref (He.ga K c)) f) (some none))))))))))))))
def clsBody (s : Stmt) : List Stmt := match s with
  | .ClassDef _ _ _ b .. => b
  | _ => []
/-! ### the other facts of exceptions, as Bools -/
/-- f may be read off the exceptions of cs -/
def fldXB (K : PySem.W.Frag) (cs : List Str) (f : Str) : Bool := cs.all fun c => He.eqO (PySem.W.nsIn K mainGlobals c) (some (some (.ref (He.ga K c)))) && (xfB K (He.ga K c) && He.eqO (PySem.W.findIn K (.ref (He.ga K c)) f) (some none))
end Mi
end part_Mi30
section part_Mi47
set_option maxRecDepth 100000
set_option maxHeartbeats 2000000
/-! Mi, part 47: a law whose def makes lambdas: its promise, the head. -/
namespace Mi
open PySem PySem.Spec PyProof.Rows L2
/-! ### the hook -/
structure SaysZ (fa : List He.Fa) (fn : List He.DefD) (sf : List Pth) (tf : List He.Defn) (ex : PySem.W.Frag → Bool) (h : Heap) (K : PySem.W.Frag) : Prop where
  y : SaysY fa fn sf ex K
  hd : ∀ p ∈ tf, PySem.W.codeHdIn K (He.cT K p).1 (He.cT K p).2 = true
  out : ∀ p ∈ tf, K.lookup (He.cT K p).2 = none
  empty : ∀ p ∈ tf, h.get? (He.cT K p).2 = some { cls := .none, data := .fields #[] }
abbrev AlZ : Type := AlY × Bool
def obsZ (n : Nat) (fa : List He.Fa) (fn : List He.DefD) (sf : List Pth) (tf : List He.Defn) (ex : PySem.W.Frag → Bool) (g : Addr → Option Obj) : AlZ := (obsY n fa fn sf ex g, He.tabsB g tf (frY g n))
theorem saysZ_of {n : Nat} {fa : List He.Fa} {fn : List He.DefD} {sf : List Pth} {tf : List He.Defn} {ex : PySem.W.Frag → Bool} {h : Heap} (e : obsZ n fa fn sf tf ex h.get? = (valY fn sf, true)) : SaysZ fa fn sf tf ex h (frY h.get? n) := by
  have e1 : obsY n fa fn sf ex h.get? = valY fn sf := congrArg (fun z : AlZ => z.1) e
  have e2 : He.tabsB h.get? tf (frY h.get? n) = true := congrArg (fun z : AlZ => z.2) e
  have key : ∀ p ∈ tf, PySem.W.codeHdIn (frY h.get? n) (He.cT (frY h.get? n) p).1 (He.cT (frY h.get? n) p).2 = true ∧ ∃ o, h.get? (He.cT (frY h.get? n) p).2 = some o ∧ He.emptyTab o = true := fun p hp => by
    have h34 := List.all_eq_true.mp e2 p hp
    rw [Bool.and_eq_true] at h34
    obtain ⟨h3, h4⟩ := h34
    refine ⟨h3, ?_⟩
    cases q : h.get? (He.cT (frY h.get? n) p).2 with
    | none =>
      rw [q] at h4
      cases h4
    | some o =>
      rw [q] at h4
      exact ⟨o, rfl, h4⟩
  exact ⟨⟨congrArg (fun z : AlY => z.1.1) e1, congrArg (fun z : AlY => z.1.2) e1, congrArg (fun z : AlY => z.2) e1⟩, fun p hp => (key p hp).1, fun p hp => by
    obtain ⟨_, o, q, z⟩ := key p hp
    exact He.frT_none q z, fun p hp => by
    obtain ⟨_, o, q, z⟩ := key p hp
    rw [q, He.emptyTab_eq z]⟩
def hookZ (n : Nat) (fa : List He.Fa) (fn : List He.DefD) (sf : List Pth) (tf : List He.Defn) (ex : PySem.W.Frag → Bool) : PySem.W.Hook where
  α := AlZ
  obs := fun s => obsZ n fa fn sf tf ex s.heap.get?
  val := fun _ => (valY fn sf, true)
  says := fun _ h => ∃ K : PySem.W.Frag, K.In h ∧ SaysZ fa fn sf tf ex h K
  of := fun _ _ e => ⟨_, He.frT_in, saysZ_of e⟩
  keeps := fun _ _ _ ⟨K, hK, c⟩ k => ⟨K, PySem.W.Frag.In.keeps hK k, ⟨c.y, c.hd, c.out, fun p hp => k _ _ (c.empty p hp)⟩⟩
/-! ### the end -/
end Mi
end part_Mi47
section part_Mi34
set_option maxRecDepth 100000
set_option maxHeartbeats 4000000
/-! Mi, part 34: what printed classes want. -/
namespace Mi
open PySem PySem.Spec PyProof.Rows L2
/-! ### more room -/
/-! ### what the module says of methods -/
/-! ### .. as Bools -/
def gloB (K : PySem.W.Frag) (c : Str) : Bool := He.eqO (PySem.W.nsIn K mainGlobals c) (some (some (.ref (He.ga K c))))
end Mi
end part_Mi34
section part_Mi48
set_option maxRecDepth 100000
set_option maxHeartbeats 2000000
/-! Mi, part 48: small things for printed walks with lambdas. -/
namespace Mi
open PySem PySem.Spec PyProof.Rows L2
/-! ### the lambdas of a text, in their order -/
/-! ### the cells' names -/
/-! ### head: what is caught -/
def exm3B (K : PySem.W.Frag) (a b c : Str) (ct : List (Str × Bool)) : Bool := ct.all fun p => He.eqO (PySem.W.nsIn K mainGlobals p.1) (some (some (.ref (He.ga K p.1)))) && decide (PySem.W.exmAny K (.ref (He.ga K p.1)) [.ref (He.ga K a), .ref (He.ga K b), .ref (He.ga K c)] = some p.2)
end Mi
end part_Mi48
section part_Mi53
set_option maxRecDepth 100000
set_option maxHeartbeats 4000000
/-! Mi, part 53: static methods with one keyword-only parameter, read off their class. -/
namespace Mi
open PySem PySem.Spec PyProof.Rows L2
/-! ### what the module says of them -/
def kKw (K : PySem.W.Frag) (D : Addr) : List (Str × T) → Bool
  | [] => true
  | (y, t) :: r => (match PySem.W.nsIn K D y with
    | some (some u) => kT K t u
    | _ => false) && kKw K D r
def okK (K : PySem.W.Frag) (a : Addr) (q : Str) (kdts : List (Str × T)) : Bool := PySem.W.keepIn K (.ref a) && (match K.lookup a with
  | some ⟨_, _, .func fd, _⟩ => fd.closure.isEmpty && (PySem.W.codeIn K fd.code q && (match fd.defaults, fd.kwdefaults with
    | .none, .ref D => kKw K D kdts
    | _, _ => false))
  | _ => false)
end Mi
end part_Mi53
section part_Mi99
set_option maxRecDepth 100000
set_option maxHeartbeats 4000000
/-! Mi, part 99: list(zip([], g(..))): a generator that is made and never woken. -/
namespace Mi
open PySem PySem.Spec PyProof.Rows L2 GenW
/-! ### the call makes a generator -/
/-! ### zip([], g) -/
/-! ### the expression -/
/-! ### as mirrors -/
section
variable {X : Cx} {K : PySem.W.Frag} {mg : Str → Option Value} {W : WX} {g g' : G} {σ : L2.St} {Q : VK}
variable {a b e : Expr} {ma mb me : ME} {mr mk : MA} {pos p apos : Pos} {es : List Expr} {c x : Str} {kws : List Keyword}
variable {k n j : Nat} {qual : Str} {st : Stmt} {ps ks : List Str} {is : List Nat} {kdts ms : List (Str × T)} {mf : MF} {L : List Str}
def noStB (K : PySem.W.Frag) (L : List Str) : Bool := L.all fun c => He.eqO (PySem.W.nsIn K mainGlobals c) (some (some (.ref (He.ga K c)))) && decide (PySem.W.subIn K (.ref (He.ga K c)) (.type "StopIteration") = some false)
end
end Mi
end part_Mi99
section part_W02
set_option maxRecDepth 100000
set_option maxHeartbeats 4000000
namespace L_k02
open PySem PySem.Spec PyProof.Rows L2 Mi
def top (i : Nat) : Stmt := PySem.Challenge.pw_hushaccord_k02_whole_rows_in_order.main.body.getD i (.Pass ⟨0, 0, 0, 0⟩)
def t_MOST_ROUNDS : T := .int 6
def t_SIGNS : T := .str "blnr"
def xs_given : List Str := ["InvalidSign", "InvalidCount"]
def xs_tag : List Str := ["InvalidSign", "InvalidCount", "NothingLeft"]
def ct_why : List (Str × Bool) := [("InvalidCount", true), ("InvalidSign", true)]
def nsL : List Str := ["InvalidCount", "InvalidSign"]
abbrev si_InvalidCount : Stmt := (clsBody (top 8)).getD 0 (.Pass ⟨0, 0, 0, 0⟩)
abbrev si_InvalidSign : Stmt := (clsBody (top 7)).getD 0 (.Pass ⟨0, 0, 0, 0⟩)
abbrev s_law : Stmt := top 25
abbrev s__law_alike : Stmt := top 21
abbrev s__law_all_rows : Stmt := top 20
abbrev s__law_bag : Stmt := top 17
abbrev s__law_draw : Stmt := top 18
abbrev s__law_of : Stmt := top 19
abbrev s__law_field : Stmt := top 22
abbrev s_is_row : Stmt := top 13
abbrev s_rising : Stmt := top 3
abbrev s_are_signs : Stmt := top 14
abbrev s_is_number : Stmt := top 1
abbrev s_is_within : Stmt := top 2
abbrev s_rows : Stmt := top 15
abbrev s__law_why : Stmt := top 23
abbrev s__law_whys : Stmt := top 24
end L_k02
end part_W02
section part_Mi87
set_option maxRecDepth 100000
set_option maxHeartbeats 4000000
/-! Mi, part 87: the facts of parts 83 to 86, as Bools of the head. -/
namespace Mi
open PySem PySem.Spec PyProof.Rows L2
open NdefX (NF)
section
variable {P : Program} {K : PySem.W.Frag} {mg : Str → Option Value} {h : Heap} {c cB x file : Str} {st : Stmt} {kdts : List (Str × T)}
/-- a def with a keyword-only parameter -/
def funOB (K : PySem.W.Frag) (x q : Str) (kdts : List (Str × T)) : Bool := gloB K x && okK K (He.ga K x) q kdts
end
end Mi
end part_Mi87
section part_H02
set_option maxRecDepth 100000
set_option maxHeartbeats 0
namespace L_k02
open PySem PySem.Spec PyProof.Rows L2 Mi
def names0 : List Str := ["is_number", "is_within", "rising", "PostError", "Missing", "InvalidSign", "InvalidCount", "NothingLeft", "SIGNS", "MOST_ROUNDS", "is_row", "are_signs", "rows", "_law_bag", "_law_draw", "_law_of", "_law_all_rows", "_law_alike", "_law_field", "_law_why"]
def names1 : List Str := ["_law_whys"]
def names : List Str := names0 ++ names1
def d__law_alike : He.DefD := ⟨("_law_alike", none), "_law_alike", "_law_alike", defArgs s__law_alike, defBody s__law_alike, defScope s__law_alike, [], []⟩
def d__law_all_rows : He.DefD := ⟨("_law_all_rows", none), "_law_all_rows", "_law_all_rows", defArgs s__law_all_rows, defBody s__law_all_rows, defScope s__law_all_rows, [], []⟩
def d__law_bag : He.DefD := ⟨("_law_bag", none), "_law_bag", "_law_bag", defArgs s__law_bag, defBody s__law_bag, defScope s__law_bag, [], []⟩
def d__law_draw : He.DefD := ⟨("_law_draw", none), "_law_draw", "_law_draw", defArgs s__law_draw, defBody s__law_draw, defScope s__law_draw, [], []⟩
def d__law_of : He.DefD := ⟨("_law_of", none), "_law_of", "_law_of", defArgs s__law_of, defBody s__law_of, defScope s__law_of, [], []⟩
def d__law_field : He.DefD := ⟨("_law_field", none), "_law_field", "_law_field", defArgs s__law_field, defBody s__law_field, defScope s__law_field, [], []⟩
def d_is_row : He.DefD := ⟨("is_row", none), "is_row", "is_row", defArgs s_is_row, defBody s_is_row, defScope s_is_row, [], []⟩
def d_rising : He.DefD := ⟨("rising", none), "rising", "rising", defArgs s_rising, defBody s_rising, defScope s_rising, [], []⟩
def d_are_signs : He.DefD := ⟨("are_signs", none), "are_signs", "are_signs", defArgs s_are_signs, defBody s_are_signs, defScope s_are_signs, [], []⟩
def d_is_number : He.DefD := ⟨("is_number", none), "is_number", "is_number", defArgs s_is_number, defBody s_is_number, defScope s_is_number, [], []⟩
def d_is_within : He.DefD := ⟨("is_within", none), "is_within", "is_within", defArgs s_is_within, defBody s_is_within, defScope s_is_within, [], []⟩
def d__law_why : He.DefD := ⟨("_law_why", none), "_law_why", "_law_why", defArgs s__law_why, defBody s__law_why, defScope s__law_why, [], []⟩
def d__law_whys : He.DefD := ⟨("_law_whys", none), "_law_whys", "_law_whys", defArgs s__law_whys, defBody s__law_whys, defScope s__law_whys, [], []⟩
def d_law : He.DefD := ⟨("law", none), "law", "law", defArgs s_law, defBody s_law, defScope s_law, [], []⟩
def fn0 : List He.DefD := [d__law_alike, d__law_all_rows, d__law_bag, d__law_draw, d__law_of, d__law_field, d_is_row, d_rising, d_are_signs, d_is_number, d_is_within, d__law_why, d__law_whys, d_law]
def fn : List He.DefD := fn0
def fa0 : List He.Fa := [.glo "_law_alike", .glo "_law_all_rows", .glo "_law_bag", .glo "_law_draw", .glo "_law_of", .glo "_law_field", .glo "is_row", .glo "rising", .glo "are_signs", .glo "is_number", .glo "is_within", .glo "_law_why", .glo "_law_whys", .glo "law", .free "all"]
def fa1 : List He.Fa := [.free "bool", .free "int", .free "isinstance", .free "len", .free "list", .free "range", .free "str", .free "tuple", .free "zip", .glo "PostError", .glo "Missing", .glo "NothingLeft"]
def fa : List He.Fa := fa0 ++ fa1
def e_InvalidCount : Pth := (fun K => He.fAd K ("InvalidCount", some ini), ⟨("InvalidCount", some ini), "__init__", "InvalidCount.__init__", defArgs si_InvalidCount, defBody si_InvalidCount, defScope si_InvalidCount, [], []⟩)
def e_InvalidSign : Pth := (fun K => He.fAd K ("InvalidSign", some ini), ⟨("InvalidSign", some ini), "__init__", "InvalidSign.__init__", defArgs si_InvalidSign, defBody si_InvalidSign, defScope si_InvalidSign, [], []⟩)
def p_rows : Pth := ((fun K => He.ga K "rows"), ⟨("rows", none), "rows", "rows", defArgs s_rows, defBody s_rows, defScope s_rows, [], []⟩)
def sf0 : List Pth := [e_InvalidCount, e_InvalidSign, p_rows]
def sf : List Pth := sf0
abbrev pfile : Str := PySem.Challenge.pw_hushaccord_k02_whole_rows_in_order.main.file
def ex0 (K : PySem.W.Frag) : Bool := funOB K "rows" "rows" [("signs", .str "blnr")]
def ex1 (K : PySem.W.Frag) : Bool := kV K "MOST_ROUNDS" t_MOST_ROUNDS
def ex2 (K : PySem.W.Frag) : Bool := kV K "SIGNS" t_SIGNS
def ex3 (K : PySem.W.Frag) : Bool := exnB K pfile "InvalidCount" "ValueError" "ValueError.__new__" "ValueError.__init__" [.type "ValueError", .type "Exception", .type "BaseException", .type "object"] ["tag", "given"]
def ex4 (K : PySem.W.Frag) : Bool := exnB K pfile "InvalidSign" "ValueError" "ValueError.__new__" "ValueError.__init__" [.type "ValueError", .type "Exception", .type "BaseException", .type "object"] ["tag", "given"]
def ex5 (K : PySem.W.Frag) : Bool := fldXB K xs_given "given"
def ex6 (K : PySem.W.Frag) : Bool := fldXB K xs_tag "tag"
def ex7 (K : PySem.W.Frag) : Bool := exm3B K "PostError" "Missing" "NothingLeft" ct_why
def ex8 (K : PySem.W.Frag) : Bool := noStB K nsL
def ex (K : PySem.W.Frag) : Bool := ex0 K && (ex1 K && (ex2 K && (ex3 K && (ex4 K && (ex5 K && (ex6 K && (ex7 K && (ex8 K))))))))
abbrev Rw0 : PySem.W.OpenRow := PySem.W.OpenLaw.row PySem.Challenge.rw_hushaccord_k02_whole_rows_in_order
abbrev qv : Program := PySem.W.view Rw0.prog [25]
def tf : List He.Defn := [("law", none)]
abbrev hk : PySem.W.Hook := hookZ 5 fa fn sf tf ex
def ob (s : PySem.W.SharedT) : AlZ := obsZ 5 fa fn sf tf ex (HandSHeadRun.getT s)
theorem run_false (w : World) : HandSHeadRun.RunEq Rw0 qv hk ob 7000 names (w.withFollow "special-get-raises" false) := by
  intro os
  kernel_rfl
theorem run_true (w : World) : HandSHeadRun.RunEq Rw0 qv hk ob 7000 names (w.withFollow "special-get-raises" true) := by
  intro os
  kernel_rfl
end L_k02
open PySem PySem.W PySem.Calls PyProof.Rows
end part_H02

set_option Elab.async false
set_option linter.all false
section part_Mi0
set_option maxRecDepth 100000
set_option maxHeartbeats 2000000
/-! Mi, part 0: values as trees (T), the mirror's heap, how they lie in the abstract heap (Rep), what a step leaves (Ext), the readings of mirrors (tM, tSM). -/
namespace Mi
open PySem PySem.Spec PyProof.Rows L2

/-- a changeable object -/
inductive MO where
  | dead
  | lst (xs : List T)
  | dct (ks vs : List T)
  | ins (c : Str) (ns : List Str) (vs : List T)
  | tab (q : Str) (P : Addr)
  | cel (t : Option T)
  | dcn (w : World) (kts : List (NestedKey × T))
  deriving Inhabited
abbrev MH := List MO
/-- an exception: its class, its fields -/
structure Exc where
  c : Str
  ns : List Str
  vs : List T
inductive R where
  | ok (t : T) (h : MH) | ex (x : Exc) (h : MH) | stuck
abbrev SM := List (Option T)
inductive SR where
  | nx (s : SM) (h : MH) | rt (t : T) (h : MH) | bk (s : SM) (h : MH) | ct (s : SM) (h : MH) | ex (x : Exc) (s : SM) (h : MH) | stuck
abbrev ME := SM → MH → R
abbrev MS := SM → MH → SR
def R.bind (r : R) (f : T → MH → R) : R := match r with
  | .ok t h => f t h
  | .ex x h => .ex x h
  | .stuck => .stuck

/-- trees by induction -/
theorem T.ind {P : T → Prop} (non : P .non) (bl : ∀ b, P (.bl b)) (int : ∀ i, P (.int i)) (str : ∀ s, P (.str s))
    (tup : ∀ xs, (∀ x ∈ xs, P x) → P (.tup xs)) (lst : ∀ xs, (∀ x ∈ xs, P x) → P (.lst xs)) (frl : ∀ xs, (∀ x ∈ xs, P x) → P (.frl xs))
    (dct : ∀ ks vs, (∀ x ∈ ks, P x) → (∀ x ∈ vs, P x) → P (.dct ks vs)) (obj : ∀ c ns vs, (∀ x ∈ vs, P x) → P (.obj c ns vs)) (ref : ∀ i, P (.ref i)) (exn : ∀ c ns vs, (∀ x ∈ vs, P x) → P (.exn c ns vs)) (cls : ∀ c, P (.cls c)) (fn : ∀ k I C, P (.fn k I C)) (fnc : ∀ k I C n, P (.fnc k I C n)) (tpl : ∀ xs, (∀ x ∈ xs, P x) → P (.tpl xs)) : ∀ t, P t := fun t =>
  T.rec (motive_1 := P) (motive_2 := fun xs => ∀ x ∈ xs, P x) non bl int str (fun xs h => tup xs h) (fun xs h => lst xs h) (fun xs h => frl xs h) (fun ks vs h1 h2 => dct ks vs h1 h2) (fun c ns vs h => obj c ns vs h) ref (fun c ns vs h => exn c ns vs h) cls fn fnc (fun xs h => tpl xs h)
    (fun x h => by cases h) (fun a l ha hl x hx => by
      rcases List.mem_cons.mp hx with e | e
      · exact e ▸ ha
      · exact hl x e) t

/-- the ghost: the changeable objects' places, the mirror's heap, places kept apart, the abstract heap -/
structure G where
  rho : List Addr
  h : MH
  pv : List Addr
  H : Hp
def G.hid (g : G) (a : Addr) : Prop := a ∈ g.pv ∨ ∃ (i : Nat) (o : MO), g.rho[i]? = some a ∧ g.h[i]? = some o ∧ o ≠ MO.dead
/-- the i-th changeable object stands at a and is not dead -/
def G.live (g : G) (i : Nat) (a : Addr) : Prop := g.rho[i]? = some a ∧ ∃ o : MO, g.h[i]? = some o ∧ o ≠ MO.dead
def KTup (K : PySem.W.Frag) (a : Addr) (xs : List V) : Prop := ∃ (o : Obj) (its : Array Value) (n : Nat), K.lookup a = some o ∧ o.cls = .type "tuple" ∧ o.data = .seq its n ∧ its.size ≤ sizeLine ∧ Vals xs its.toList
def KTx (K : PySem.W.Frag) (a : Addr) (xs : List V) : Prop := ∃ (o : Obj) (its : Array Value) (n : Nat), K.lookup a = some o ∧ o.cls = .type "tuple" ∧ o.dict = none ∧ o.data = .seq its n ∧ its.size ≤ sizeLine ∧ Vals xs its.toList
theorem KTx.tup {K : PySem.W.Frag} {a : Addr} {xs : List V} (h : KTx K a xs) : KTup K a xs := let ⟨o, its, n, h1, h2, _, h3, h4, h5⟩ := h; ⟨o, its, n, h1, h2, h3, h4, h5⟩
def KLst (K : PySem.W.Frag) (a : Addr) (xs : List V) : Prop := ∃ (o : Obj) (its : Array Value) (n : Nat), K.lookup a = some o ∧ o.cls = .type "list" ∧ o.dict = none ∧ o.data = .seq its n ∧ its.size ≤ sizeLine ∧ Vals xs its.toList
def keyT : Key → T
  | .inl i => .int i
  | .inr x => .str x
/-- the function data of a lambda -/
def lamFd (I : LamI) (C : List (Str × Addr)) (c' : Addr) (dv pm ctv : Value) : FuncData := { PySem.W.kla_fn "<lambda>" I.q I.params I.body I.scope (cloFrom C I.scope.names []) pm (.ref c') ctv with defaults := dv }
/-- a lambda's object at f -/
def DfO (dt : Addr) : HO := .ext fun h => ∃ tk : Tok, h.get? dt = some ({ cls := .type "tuple", data := .seq #[Value.int 0 tk] } : Obj)
def LamO (f : Addr) (I : LamI) (C : List (Str × Addr)) (c' : Addr) (dv : Value) : HO := .ext fun h => ∃ (od : Option Addr) (sl : Array (Option Value)) (pm ctv : Value), h.get? f = some (⟨.type "function", od, .func (lamFd I C c' dv pm ctv), sl⟩ : Obj)
/-- an exception of the class at C at a, its fields at d -/
def XO (C a d : Addr) : HO := .ext fun h => ∃ (oe : Obj) (vs : Array Value), h.get? a = some oe ∧ Zc (.ref C) (some d) oe ∧ oe.data = .fields vs
def FnR (g : G) (I : LamI) (C : List (Str × Addr)) (v : V) : Prop := ∃ f c' dv, v = .ref f ∧ (g.H f = some (LamO f I C c' dv) ∧ ¬ g.hid f) ∧ (g.H c' = some (LamX.CodeO c' I.q) ∧ ¬ g.hid c') ∧
  ((I.dflt = false ∧ dv = .none) ∨ (I.dflt = true ∧ ∃ dt, dv = .ref dt ∧ g.H dt = some (DfO dt) ∧ ¬ g.hid dt)) ∧
  ∀ y ∈ I.scope.names, y.2 = .free → ∃ c, C.lookup y.1 = some c
theorem FnR.subH {g g' : G} {I : LamI} {C : List (Str × Addr)} {v : V} (k : ∀ a o, g.H a = some o → ¬ g.hid a → (∃ φ, o = .ext φ) → g'.H a = some o ∧ ¬ g'.hid a) (h : FnR g I C v) : FnR g' I C v := by
  obtain ⟨f, c', dv, e1, ⟨h1, n1⟩, ⟨h2, n2⟩, h3, h4⟩ := h
  exact ⟨f, c', dv, e1, k _ _ h1 n1 ⟨_, rfl⟩, k _ _ h2 n2 ⟨_, rfl⟩, h3.imp id fun ⟨z, dt, z1, z2, z3⟩ => ⟨z, dt, z1, k _ _ z2 z3 ⟨_, rfl⟩⟩, h4⟩
mutual
/-- a key of any depth as a tree -/
def ofN : NestedKey → T
  | .none => .non
  | .num i => .int i
  | .text x => .str x
  | .tup ks => .tup (ofNs ks)
def ofNs : List NestedKey → List T
  | [] => []
  | k :: ks => ofN k :: ofNs ks
end
/-- a dict whose keys are tuples of any depth -/
def DnO (w : World) (a : Addr) (xs : List (NestedKey × Addr × V)) : HO := .ext fun h => (a == sysModules) = false ∧ (xs.map (·.1)).Nodup ∧ ∃ ys : List (NestedKey × Addr × Value),
  Paired (fun (x : NestedKey × Addr × V) (y : NestedKey × Addr × Value) => x.1 = y.1 ∧ x.2.1 = y.2.1 ∧ RelV x.2.2 y.2.2) xs ys ∧
  ∃ (o : Obj) (es : Array DictEntry) (ep : Nat), h.get? a = some o ∧ o.ExactDict ∧ o.data = .dict es ep ∧ es.toList = ys.map fun y => (⟨y.1.hash w, .ref y.2.1, y.2.2⟩ : DictEntry)
section
variable (K : PySem.W.Frag) (mg : Str → Option Value)
mutual
def Rep (g : G) : T → V → Prop
  | .non, v => v = .non
  | .bl b, v => v = .bl b
  | .int i, v => v = .int i
  | .str s, v => v = .str s
  | .tup xs, v => ∃ p vs, v = .ref p ∧ (((∃ o : Obj, g.H p = some (.frz o (.tup vs)) ∧ o.dict = none) ∧ ¬ g.hid p) ∨ KTx K p vs) ∧ RepL g xs vs
  | .lst xs, v => ∃ p vs, v = .ref p ∧ (g.H p = some (.lst vs) ∧ ¬ g.hid p) ∧ RepL g xs vs
  | .frl xs, v => ∃ p vs, v = .ref p ∧ (((∃ o, g.H p = some (.frz o (.lst vs))) ∧ ¬ g.hid p) ∨ KLst K p vs) ∧ RepL g xs vs
  | .dct ks vs, v => ∃ p kvs, v = .ref p ∧ ((∃ o, g.H p = some (.frz o (.dK kvs))) ∧ ¬ g.hid p) ∧ ks = kvs.map (fun q => keyT q.1) ∧ RepL g vs (kvs.map (·.2))
  | .obj c ns ts, v => ∃ p C dx fs, v = .ref p ∧ (g.H p = some (.ins C dx fs) ∧ ¬ g.hid p) ∧ mg c = some (.ref C) ∧ fs.map (·.1) = ns ∧ RepL g ts (fs.map (·.2))
  | .ref i, v => ∃ p, v = .ref p ∧ g.rho[i]? = some p
  | .exn c ns ts, v => ∃ p C d fs, v = .ref p ∧ (g.H p = some (XO C p d) ∧ ¬ g.hid p) ∧ (g.H d = some (.xd fs) ∧ ¬ g.hid d) ∧ mg c = some (.ref C) ∧ fs.map (·.1) = ns ∧ RepL g ts (fs.map (·.2))
  | .cls c, v => ∃ C, v = .ref C ∧ mg c = some (.ref C)
  | .fn _ I C, v => FnR g I C v
  | .tpl xs, v => ∃ p vs, v = .ref p ∧ (Rd g.H p (.tup vs) ∧ ¬ g.hid p) ∧ RepL g xs vs
  | .fnc _ I C n, v => FnR g I C v ∧ ∀ (i : Nat) y c, C[i]? = some (y, c) → g.rho[n + i]? = some c
def RepL (g : G) : List T → List V → Prop
  | [], vs => vs = []
  | t :: ts, vs => ∃ v r, vs = v :: r ∧ Rep g t v ∧ RepL g ts r
end
def RepO (g : G) (a : Addr) : MO → Prop
  | .dead => True
  | .lst xs => ∃ vs, g.H a = some (.lst vs) ∧ RepL K mg g xs vs
  | .dct ks ts => ∃ kvs, g.H a = some (.dK kvs) ∧ ks = kvs.map (fun q => keyT q.1) ∧ RepL K mg g ts (kvs.map (·.2))
  | .ins c ns ts => ∃ C dx fs, g.H a = some (.ins C dx fs) ∧ mg c = some (.ref C) ∧ fs.map (·.1) = ns ∧ RepL K mg g ts (fs.map (·.2))
  | .cel ot => ∃ o u, g.H a = some (.frz o (.own 0)) ∧ o.data = .cell u ∧ ∀ t, ot = some t → ∃ v u', u = some u' ∧ RelV v u' ∧ Rep K mg g t v
  | .dcn w kts => ∃ xs : List (NestedKey × Addr × V), g.H a = some (DnO w a xs) ∧ (∀ x ∈ xs, x.1.depth ≤ 8) ∧ kts.map (·.1) = xs.map (·.1) ∧ RepL K mg g (kts.map fun q => ofN q.1) (xs.map fun x => .ref x.2.1) ∧ RepL K mg g (kts.map (·.2)) (xs.map (·.2.2))
  | .tab q P => a = P ∧ ∃ ps : Array Value, g.H a = some (.tbl ps) ∧ TriplesOk ps.toList ∧ ∀ (pos : Pos) (cv : Value), codeAmong pos ps.toList = some cv → ∃ c, cv = .ref c ∧ g.H c = some (LamX.CodeO c q) ∧ ¬ g.hid c
def RepX (g : G) (x : Exc) (cls : Value) (d : Option Addr) : Prop :=
  ∃ C da fs, cls = .ref C ∧ mg x.c = some (.ref C) ∧ d = some da ∧ (g.H da = some (.xd fs) ∧ ¬ g.hid da) ∧ fs.map (·.1) = x.ns ∧ RepL K mg g x.vs (fs.map (·.2))
structure Rel (g : G) : Prop where
  len : g.rho.length = g.h.length
  inj : ∀ (i j : Nat) a, g.live i a → g.live j a → i = j
  npv : ∀ a ∈ g.pv, ∀ i : Nat, ¬ g.live i a
  pvt : ∀ a ∈ g.pv, ∃ o, g.H a = some o
  tr : ∀ (i : Nat) a, g.live i a → ∃ o, g.H a = some o
  obj : ∀ (i : Nat) a o, g.rho[i]? = some a → g.h[i]? = some o → RepO K mg g a o
def RepS (g : G) (s : SM) (σ : L2.St) : Prop := s.length = σ.length ∧ ∀ (i : Nat) t, s[i]? = some (some t) → ∃ v, σ[i]? = some (some v) ∧ Rep K mg g t v
end
structure Ext (g g' : G) : Prop where
  rho : ∀ (i : Nat) a, g.rho[i]? = some a → g'.rho[i]? = some a
  pv : g'.pv = g.pv
  pvk : ∀ a ∈ g.pv, g'.H a = g.H a
  keep : ∀ a o, g.H a = some o → ¬ g.hid a → g'.H a = some o ∧ ¬ g'.hid a
theorem Ext.refl (g : G) : Ext g g := ⟨fun _ _ h => h, rfl, fun _ _ => rfl, fun _ _ h n => ⟨h, n⟩⟩
theorem Ext.trans {a b c : G} (x : Ext a b) (y : Ext b c) : Ext a c :=
  ⟨fun i p h => y.rho i p (x.rho i p h), y.pv.trans x.pv, fun p h => (y.pvk p (by rw [x.pv]; exact h)).trans (x.pvk p h), fun p o h n => let ⟨h1, n1⟩ := x.keep p o h n; y.keep p o h1 n1⟩
section
variable {K : PySem.W.Frag} {mg : Str → Option Value} {g g' : G}
/-- what a representation leans on -/
structure Sub (g g' : G) : Prop where
  rho : ∀ (i : Nat) a, g.rho[i]? = some a → g'.rho[i]? = some a
  keep : ∀ a o, g.H a = some o → ¬ g.hid a → g'.H a = some o ∧ ¬ g'.hid a
theorem Ext.sub (e : Ext g g') : Sub g g' := ⟨e.rho, e.keep⟩
theorem RepL.monoOf : ∀ {ts : List T} {vs : List V}, (∀ t ∈ ts, ∀ v, Rep K mg g t v → Rep K mg g' t v) → RepL K mg g ts vs → RepL K mg g' ts vs
  | [], vs, _, h => by simpa only [RepL] using h
  | t :: ts, vs, f, h => by
    simp only [RepL] at h ⊢
    obtain ⟨v, r, e, h1, h2⟩ := h
    exact ⟨v, r, e, f t List.mem_cons_self v h1, RepL.monoOf (fun t ht => f t (List.mem_cons_of_mem _ ht)) h2⟩
theorem Rep.sub (e : Sub g g') : ∀ t v, Rep K mg g t v → Rep K mg g' t v := by
  intro t
  induction t using T.ind with
  | non => intro v h; simpa only [Rep] using h
  | bl b => intro v h; simpa only [Rep] using h
  | int i => intro v h; simpa only [Rep] using h
  | str s => intro v h; simpa only [Rep] using h
  | tup xs ih =>
    intro v h; simp only [Rep] at h ⊢
    obtain ⟨p, vs, e1, h1, h2⟩ := h
    refine ⟨p, vs, e1, ?_, RepL.monoOf ih h2⟩
    rcases h1 with ⟨⟨o, h1, hd⟩, n⟩ | h1
    · exact .inl ⟨⟨o, (e.keep _ _ h1 n).1, hd⟩, (e.keep _ _ h1 n).2⟩
    · exact .inr h1
  | tpl xs ih =>
    intro v h; simp only [Rep] at h ⊢
    obtain ⟨p, vs, e1, ⟨h1, n⟩, h2⟩ := h
    refine ⟨p, vs, e1, ?_, RepL.monoOf ih h2⟩
    rcases h1 with h1 | ⟨o, h1⟩
    · exact ⟨.inl (e.keep _ _ h1 n).1, (e.keep _ _ h1 n).2⟩
    · exact ⟨.inr ⟨o, (e.keep _ _ h1 n).1⟩, (e.keep _ _ h1 n).2⟩
  | lst xs ih =>
    intro v h; simp only [Rep] at h ⊢
    obtain ⟨p, vs, e1, ⟨h1, n⟩, h2⟩ := h
    exact ⟨p, vs, e1, e.keep _ _ h1 n, RepL.monoOf ih h2⟩
  | frl xs ih =>
    intro v h; simp only [Rep] at h ⊢
    obtain ⟨p, vs, e1, h1, h2⟩ := h
    refine ⟨p, vs, e1, ?_, RepL.monoOf ih h2⟩
    rcases h1 with ⟨⟨o, h1⟩, n⟩ | h1
    · exact .inl ⟨⟨o, (e.keep _ _ h1 n).1⟩, (e.keep _ _ h1 n).2⟩
    · exact .inr h1
  | dct ks vs ih1 ih2 =>
    intro v h; simp only [Rep] at h ⊢
    obtain ⟨p, kvs, e1, ⟨⟨o, h1⟩, n⟩, e2, h2⟩ := h
    exact ⟨p, kvs, e1, ⟨⟨o, (e.keep _ _ h1 n).1⟩, (e.keep _ _ h1 n).2⟩, e2, RepL.monoOf ih2 h2⟩
  | obj c ns vs ih =>
    intro v h; simp only [Rep] at h ⊢
    obtain ⟨p, C, dx, fs, e1, ⟨h1, n⟩, e2, e3, h2⟩ := h
    exact ⟨p, C, dx, fs, e1, e.keep _ _ h1 n, e2, e3, RepL.monoOf ih h2⟩
  | ref i =>
    intro v h; simp only [Rep] at h ⊢
    obtain ⟨p, e1, h1⟩ := h
    exact ⟨p, e1, e.rho _ _ h1⟩
  | cls c => intro v h; simpa only [Rep] using h
  | fn k I C =>
    intro v h; simp only [Rep] at h ⊢
    exact h.subH fun a o z1 z2 _ => e.keep a o z1 z2
  | fnc k I C n =>
    intro v h; simp only [Rep] at h ⊢
    exact ⟨h.1.subH fun a o z1 z2 _ => e.keep a o z1 z2, fun i y c hc => e.rho _ _ (h.2 i y c hc)⟩
  | exn c ns ts ih =>
    intro v h; simp only [Rep] at h ⊢
    obtain ⟨p, C, d, fs, e1, ⟨h1, n⟩, ⟨h2, n2⟩, e2, e3, h3⟩ := h
    exact ⟨p, C, d, fs, e1, e.keep _ _ h1 n, e.keep _ _ h2 n2, e2, e3, RepL.monoOf ih h3⟩
theorem RepL.sub (e : Sub g g') {ts : List T} {vs : List V} (h : RepL K mg g ts vs) : RepL K mg g' ts vs := RepL.monoOf (fun t _ v => Rep.sub e t v) h
theorem Rep.mono {t : T} {v : V} (h : Rep K mg g t v) (e : Ext g g') : Rep K mg g' t v := Rep.sub e.sub t v h
theorem RepL.mono {ts : List T} {vs : List V} (h : RepL K mg g ts vs) (e : Ext g g') : RepL K mg g' ts vs := RepL.sub e.sub h
theorem RepS.sub {s : SM} {σ : L2.St} (e : Sub g g') (h : RepS K mg g s σ) : RepS K mg g' s σ := ⟨h.1, fun i t q => let ⟨v, a, b⟩ := h.2 i t q; ⟨v, a, Rep.sub e t v b⟩⟩
theorem RepS.mono {s : SM} {σ : L2.St} (h : RepS K mg g s σ) (e : Ext g g') : RepS K mg g' s σ := h.sub e.sub
theorem RepX.mono {x : Exc} {cls : Value} {d : Option Addr} (h : RepX K mg g x cls d) (e : Ext g g') : RepX K mg g' x cls d := by
  obtain ⟨C, da, fs, e1, e2, e3, ⟨h1, n⟩, e4, h2⟩ := h
  exact ⟨C, da, fs, e1, e2, e3, e.keep _ _ h1 n, e4, h2.mono e⟩
theorem RepS.set {s : SM} {σ : L2.St} (h : RepS K mg g s σ) {t : T} {v : V} (r : Rep K mg g t v) (i : Nat) : RepS K mg g (s.set i (some t)) (σ.set i (some v)) := by
  refine ⟨by rw [List.length_set, List.length_set, h.1], fun j u q => ?_⟩
  by_cases e : i = j
  · subst e
    rw [List.getElem?_set] at q
    rw [List.getElem?_set]
    by_cases l : i < s.length
    · simp only [l, if_true, Option.some.injEq] at q
      subst q
      simp only [← h.1, l, if_true]
      exact ⟨v, rfl, r⟩
    · simp only [if_true, l, if_false] at q
      cases q
  · rw [List.getElem?_set_ne e] at q ⊢
    exact h.2 j u q
theorem RepL.length : ∀ {ts : List T} {vs : List V}, RepL K mg g ts vs → ts.length = vs.length
  | [], vs, h => by
    simp only [RepL] at h
    rw [h]
    all_goals rfl
  | t :: ts, vs, h => by
    simp only [RepL] at h
    obtain ⟨v, r, e, _, h2⟩ := h
    rw [e, List.length_cons, List.length_cons, h2.length]
theorem RepL.get : ∀ {ts : List T} {vs : List V} {i : Nat} {t : T}, RepL K mg g ts vs → ts[i]? = some t → ∃ v, vs[i]? = some v ∧ Rep K mg g t v
  | [], _, i, t, _, e => by simp at e
  | u :: ts, vs, 0, t, h, e => by
    simp only [RepL] at h
    obtain ⟨v, r, q, h1, h2⟩ := h
    simp at e; subst e; subst q
    exact ⟨v, rfl, h1⟩
  | u :: ts, vs, i + 1, t, h, e => by
    simp only [RepL] at h
    obtain ⟨v, r, q, h1, h2⟩ := h
    subst q
    have z := RepL.get (i := i) (t := t) h2 (by simpa using e)
    simpa using z
theorem RepL.get' {ts : List T} {vs : List V} {i : Nat} {v : V} (h : RepL K mg g ts vs) (e : vs[i]? = some v) : ∃ t, ts[i]? = some t ∧ Rep K mg g t v := by
  have hl : i < ts.length := by rw [h.length]; exact (List.getElem?_eq_some_iff.mp e).1
  obtain ⟨v', e1, r⟩ := h.get (List.getElem?_eq_getElem hl)
  rw [e] at e1; cases e1
  exact ⟨_, List.getElem?_eq_getElem hl, r⟩
theorem RepL.nil : RepL K mg g [] [] := by simp only [RepL]
theorem RepL.cons {t : T} {v : V} {ts : List T} {vs : List V} (h1 : Rep K mg g t v) (h2 : RepL K mg g ts vs) : RepL K mg g (t :: ts) (v :: vs) := by
  simp only [RepL]; exact ⟨v, vs, rfl, h1, h2⟩
theorem RepL.append : ∀ {ts us : List T} {vs ws : List V}, RepL K mg g ts vs → RepL K mg g us ws → RepL K mg g (ts ++ us) (vs ++ ws)
  | [], us, vs, ws, h, q => by
    simp only [RepL] at h
    subst h; exact q
  | t :: ts, us, vs, ws, h, q => by
    simp only [RepL] at h
    obtain ⟨v, r, e, h1, h2⟩ := h
    subst e
    exact RepL.cons h1 (RepL.append h2 q)
theorem RepL.drop : ∀ {ts : List T} {vs : List V} (n : Nat), RepL K mg g ts vs → RepL K mg g (ts.drop n) (vs.drop n)
  | _, _, 0, h => h
  | [], vs, n + 1, h => by
    simp only [RepL] at h
    subst h; exact RepL.nil
  | t :: ts, vs, n + 1, h => by
    simp only [RepL] at h
    obtain ⟨v, r, e, h1, h2⟩ := h
    subst e
    exact RepL.drop n h2
theorem RepL.take : ∀ {ts : List T} {vs : List V} (n : Nat), RepL K mg g ts vs → RepL K mg g (ts.take n) (vs.take n)
  | ts, vs, 0, h => by
    rw [List.take_zero, List.take_zero]
    exact RepL.nil
  | [], vs, n + 1, h => by
    simp only [RepL] at h
    subst h; exact RepL.nil
  | t :: ts, vs, n + 1, h => by
    simp only [RepL] at h
    obtain ⟨v, r, e, h1, h2⟩ := h
    subst e
    exact RepL.cons h1 (RepL.take n h2)
theorem RepL.set : ∀ {ts : List T} {vs : List V} {t : T} {v : V} (i : Nat), RepL K mg g ts vs → Rep K mg g t v → RepL K mg g (ts.set i t) (vs.set i v)
  | [], vs, t, v, i, h, r => by
    simp only [RepL] at h
    subst h; exact RepL.nil
  | u :: ts, vs, t, v, 0, h, r => by
    simp only [RepL] at h
    obtain ⟨w, q, e, h1, h2⟩ := h
    subst e; exact RepL.cons r h2
  | u :: ts, vs, t, v, i + 1, h, r => by
    simp only [RepL] at h
    obtain ⟨w, q, e, h1, h2⟩ := h
    subst e; exact RepL.cons h1 (RepL.set i h2 r)
theorem RepL.one {t : T} {vs : List V} (h : RepL K mg g [t] vs) : ∃ v, vs = [v] ∧ Rep K mg g t v := by
  simp only [RepL] at h
  obtain ⟨v, r, e, h1, h2⟩ := h
  subst h2; exact ⟨v, e, h1⟩
theorem RepL.ints : ∀ (ns : List Int), RepL K mg g (ns.map T.int) (ns.map V.int)
  | [] => RepL.nil
  | n :: ns => RepL.cons (by simp only [Rep]) (RepL.ints ns)
theorem Rep.sqT {xs : List T} {v : V} (h : Rep K mg g (.tup xs) v) : ∃ p vs, v = .ref p ∧ SqT K g.H p vs ∧ RepL K mg g xs vs := by
  simp only [Rep] at h
  obtain ⟨p, vs, e, h1, h2⟩ := h
  exact ⟨p, vs, e, h1.elim (fun z => let ⟨⟨o, a, _⟩, _⟩ := z; .inl (.inr ⟨o, a⟩)) fun z => .inr z.tup, h2⟩
theorem Rep.sqP {xs : List T} {v : V} (h : Rep K mg g (.tpl xs) v) : ∃ p vs, v = .ref p ∧ SqT K g.H p vs ∧ RepL K mg g xs vs := by
  simp only [Rep] at h
  obtain ⟨p, vs, e, h1, h2⟩ := h
  exact ⟨p, vs, e, .inl h1.1, h2⟩
theorem Rep.sqL {xs : List T} {v : V} (h : Rep K mg g (.lst xs) v) : ∃ p vs, v = .ref p ∧ SqL K g.H p vs ∧ RepL K mg g xs vs := by
  simp only [Rep] at h
  obtain ⟨p, vs, e, h1, h2⟩ := h
  exact ⟨p, vs, e, .inl (.inl h1.1), h2⟩
theorem Rep.sqF {xs : List T} {v : V} (h : Rep K mg g (.frl xs) v) : ∃ p vs, v = .ref p ∧ SqL K g.H p vs ∧ RepL K mg g xs vs := by
  simp only [Rep] at h
  obtain ⟨p, vs, e, h1, h2⟩ := h
  exact ⟨p, vs, e, h1.elim (fun z => .inl (.inr z.1)) .inr, h2⟩
/-! ### a new value is laid -/
/-- g with o at a fresh place -/
def G.lay (g : G) (p : Addr) (o : HO) : G := { g with H := upd g.H p o }
theorem Rel.fresh_hid (R : Rel K mg g) {p : Addr} (hp : g.H p = none) (np : p ∉ g.pv) : ¬ g.hid p := by
  rintro (h | ⟨i, o, h1, h2, h3⟩)
  · exact np h
  · have := R.obj i p o h1 h2
    cases o with
    | dead => exact h3 rfl
    | lst xs => obtain ⟨vs, e, _⟩ := this; rw [hp] at e; cases e
    | dct ks ts => obtain ⟨vs, e, _⟩ := this; rw [hp] at e; cases e
    | ins c ns ts => obtain ⟨C, dx, fs, e, _⟩ := this; rw [hp] at e; cases e
    | tab q P => obtain ⟨_, ps, e, _⟩ := this; rw [hp] at e; cases e
    | cel ot => obtain ⟨o, u, e, _⟩ := this; rw [hp] at e; cases e
    | dcn w kts => obtain ⟨xs, e, _⟩ := this; rw [hp] at e; cases e
theorem lay_sub {p : Addr} {o : HO} (hp : g.H p = none) : Sub g (g.lay p o) :=
  ⟨fun _ _ h => h, fun a u h n => ⟨by show upd g.H p o a = some u; rw [upd_ne (ne_of_none h hp)]; exact h, n⟩⟩
theorem RepO.sub {a : Addr} {o : MO} (e : Sub g g') (ho : ∀ u, g.H a = some u → g'.H a = some u) (h : RepO K mg g a o) : RepO K mg g' a o := by
  cases o with
  | dead => trivial
  | lst xs => obtain ⟨vs, h1, h2⟩ := h; exact ⟨vs, ho _ h1, h2.sub e⟩
  | dct ks ts => obtain ⟨kvs, h1, h2, h3⟩ := h; exact ⟨kvs, ho _ h1, h2, h3.sub e⟩
  | ins c ns ts => obtain ⟨C, dx, fs, h1, h2, h3, h4⟩ := h; exact ⟨C, dx, fs, ho _ h1, h2, h3, h4.sub e⟩
  | dcn w kts => obtain ⟨xs, h1, h2, h3, h4, h5⟩ := h; exact ⟨xs, ho _ h1, h2, h3, h4.sub e, h5.sub e⟩
  | cel ot => obtain ⟨ob, u, h1, h2, h3⟩ := h; exact ⟨ob, u, ho _ h1, h2, fun t z => let ⟨v, u', z1, z2, z3⟩ := h3 t z; ⟨v, u', z1, z2, Rep.sub e t v z3⟩⟩
  | tab q P =>
    obtain ⟨h0, ps, h1, h2, h3⟩ := h
    exact ⟨h0, ps, ho _ h1, h2, fun pos cv hc => let ⟨c, z1, z2, z3⟩ := h3 pos cv hc; ⟨c, z1, e.keep _ _ z2 z3⟩⟩
theorem lay_ext {p : Addr} {o : HO} (R : Rel K mg g) (hp : g.H p = none) : Ext g (g.lay p o) :=
  ⟨(lay_sub hp).rho, rfl, fun a ha => by
    obtain ⟨u, e⟩ := R.pvt a ha
    show upd g.H p o a = g.H a
    rw [upd_ne (ne_of_none e hp)], (lay_sub hp).keep⟩
theorem Rel.lay {p : Addr} {o : HO} (R : Rel K mg g) (hp : g.H p = none) : Rel K mg (g.lay p o) :=
  ⟨R.len, R.inj, R.npv, fun a ha => by
    obtain ⟨u, e⟩ := R.pvt a ha
    exact ⟨u, by show upd g.H p o a = some u; rw [upd_ne (ne_of_none e hp)]; exact e⟩, fun i a ha => by
    obtain ⟨u, e⟩ := R.tr i a ha
    exact ⟨u, by show upd g.H p o a = some u; rw [upd_ne (ne_of_none e hp)]; exact e⟩, fun i a u h1 h2 => (R.obj i a u h1 h2).sub (lay_sub hp) fun w hw => by
    show upd g.H p o a = some w
    rw [upd_ne (ne_of_none hw hp)]; exact hw⟩
theorem Rel.no_pv (R : Rel K mg g) {p : Addr} (hp : g.H p = none) : p ∉ g.pv := fun h => by
  obtain ⟨u, e⟩ := R.pvt p h
  rw [hp] at e; cases e
theorem Rel.nohid (R : Rel K mg g) {p : Addr} (hp : g.H p = none) : ¬ g.hid p := R.fresh_hid hp (R.no_pv hp)
theorem rep_tup {p : Addr} {xs : List T} {vs : List V} {o : Obj} (R : Rel K mg g) (hp : g.H p = none) (hd : o.dict = none) (r : RepL K mg g xs vs) : Rep K mg (g.lay p (.frz o (.tup vs))) (.tup xs) (.ref p) := by
  simp only [Rep]
  exact ⟨p, vs, rfl, .inl ⟨⟨o, upd_same, hd⟩, R.nohid hp⟩, r.sub (lay_sub hp)⟩
theorem rep_tpl {p : Addr} {xs : List T} {vs : List V} (R : Rel K mg g) (hp : g.H p = none) (r : RepL K mg g xs vs) : Rep K mg (g.lay p (.tup vs)) (.tpl xs) (.ref p) := by
  simp only [Rep]
  exact ⟨p, vs, rfl, ⟨.inl upd_same, R.nohid hp⟩, r.sub (lay_sub hp)⟩
theorem rep_lst {p : Addr} {xs : List T} {vs : List V} (R : Rel K mg g) (hp : g.H p = none) (r : RepL K mg g xs vs) : Rep K mg (g.lay p (.lst vs)) (.lst xs) (.ref p) := by
  simp only [Rep]
  exact ⟨p, vs, rfl, ⟨upd_same, R.nohid hp⟩, r.sub (lay_sub hp)⟩
end
/-! ### the readings of mirrors -/
section
variable (K : PySem.W.Frag) (mg : Str → Option Value) (W : WX)
def wpR (g : G) (σ : L2.St) (Q : VK) : R → Prop
  | .ok t h' => ∀ g' v, g'.h = h' → Ext g g' → Rel K mg g' → Rep K mg g' t v → Q v g'.H
  | .ex x h' => ∀ g' cls d, g'.h = h' → Ext g g' → Rel K mg g' → RepX K mg g' x cls d → W cls d σ g'.H
  | .stuck => False
def tM (m : ME) : TE := fun σ H Q => ∃ g s, g.H = H ∧ Rel K mg g ∧ RepS K mg g s σ ∧ wpR K mg W g σ Q (m s g.h)
def wpS (g : G) (D : Ends) : SR → Prop
  | .nx s' h' => ∀ g' σ', g'.h = h' → Ext g g' → Rel K mg g' → RepS K mg g' s' σ' → D.nx σ' g'.H
  | .bk s' h' => ∀ g' σ', g'.h = h' → Ext g g' → Rel K mg g' → RepS K mg g' s' σ' → D.bk σ' g'.H
  | .ct s' h' => ∀ g' σ', g'.h = h' → Ext g g' → Rel K mg g' → RepS K mg g' s' σ' → D.ct σ' g'.H
  | .rt t h' => ∀ g' v, g'.h = h' → Ext g g' → Rel K mg g' → Rep K mg g' t v → D.rt v g'.H
  | .ex x s' h' => ∀ g' σ' cls d, g'.h = h' → Ext g g' → Rel K mg g' → RepS K mg g' s' σ' → RepX K mg g' x cls d → W cls d σ' g'.H
  | .stuck => False
def tSM (m : MS) : TS := fun D σ H => ∃ g s, g.H = H ∧ Rel K mg g ∧ RepS K mg g s σ ∧ wpS K mg W g D (m s g.h)
end
theorem weakE {X : Cx} {e : Expr} {t t' : TE} (h : PE X e t) (k : ∀ σ H Q, t' σ H Q → t σ H Q) : PE X e t' := ⟨fun pins s σ H Q I q => h.run pins s σ H Q I (k σ H Q q)⟩
theorem weakT {X : Cx} {e : Expr} {t t' : TT} (h : PT X e t) (k : ∀ σ H Q, t' σ H Q → t σ H Q) : PT X e t' := ⟨fun pins s σ H Q I q => h.run pins s σ H Q I (k σ H Q q)⟩
theorem weakA {X : Cx} {e : List Expr} {t t' : TA} (h : PA X e t) (k : ∀ σ H Q, t' σ H Q → t σ H Q) : PA X e t' := ⟨fun p pins s σ H Q I q => h.run p pins s σ H Q I (k σ H Q q)⟩
theorem weakS {X : Cx} {e : Stmt} {t t' : TS} (h : PS X e t) (k : ∀ D σ H, t' D σ H → t D σ H) : PS X e t' := ⟨fun pins s σ H D I q => h.run pins s σ H D I (k D σ H q)⟩
theorem weakSs {X : Cx} {e : List Stmt} {t t' : TS} (h : PSs X e t) (k : ∀ D σ H, t' D σ H → t D σ H) : PSs X e t' := ⟨fun pins s σ H D I q => h.run pins s σ H D I (k D σ H q)⟩
section
variable {K : PySem.W.Frag} {mg : Str → Option Value} {W : WX} {g g' : G} {σ : L2.St} {Q Q' : VK} {D : Ends} {H : Hp}
theorem wpR.ext {r : R} (h : wpR K mg W g σ Q r) (e : Ext g g') : wpR K mg W g' σ Q r := by
  cases r with
  | ok t h' => exact fun g2 v q e2 => h g2 v q (e.trans e2)
  | ex x h' => exact fun g2 c d q e2 => h g2 c d q (e.trans e2)
  | stuck => exact h
theorem wpS.ext {r : SR} (h : wpS K mg W g D r) (e : Ext g g') : wpS K mg W g' D r := by
  cases r with
  | stuck => exact h
  | nx s' h' => exact fun g2 v q e2 => h g2 v q (e.trans e2)
  | bk s' h' => exact fun g2 v q e2 => h g2 v q (e.trans e2)
  | ct s' h' => exact fun g2 v q e2 => h g2 v q (e.trans e2)
  | rt s' h' => exact fun g2 v q e2 => h g2 v q (e.trans e2)
  | ex x s' h' => exact fun g2 v c d q e2 => h g2 v c d q (e.trans e2)
theorem wpR_bind {r : R} {f : T → MH → R} (h : wpR K mg W g σ Q (r.bind f)) (k : ∀ g' t v, Ext g g' → Rel K mg g' → Rep K mg g' t v → wpR K mg W g' σ Q (f t g'.h) → Q' v g'.H) : wpR K mg W g σ Q' r := by
  cases r with
  | ok t h' => exact fun g' v q e R r => k g' t v e R r (by subst q; exact wpR.ext h e)
  | ex x h' => exact h
  | stuck => exact h
/-- the value itself, as it stands -/
theorem wpR_here {t : T} {v : V} (h : wpR K mg W g σ Q (.ok t g.h)) (R : Rel K mg g) (r : Rep K mg g t v) : Q v g.H := h g v rfl (Ext.refl g) R r
/-- a new tuple, a new list -/
theorem wpR_tup {xs : List T} {vs : List V} {p : Addr} (h : wpR K mg W g σ Q (.ok (.tup xs) g.h)) (R : Rel K mg g) (r : RepL K mg g xs vs) (hp : g.H p = none) {o : Obj} (hd : o.dict = none) : Q (.ref p) (upd g.H p (.frz o (.tup vs))) :=
  h (g.lay p (.frz o (.tup vs))) (.ref p) rfl (lay_ext R hp) (R.lay hp) (rep_tup R hp hd r)
theorem wpR_lst {xs : List T} {vs : List V} {p : Addr} (h : wpR K mg W g σ Q (.ok (.lst xs) g.h)) (R : Rel K mg g) (r : RepL K mg g xs vs) (hp : g.H p = none) : Q (.ref p) (upd g.H p (.lst vs)) :=
  h (g.lay p (.lst vs)) (.ref p) rfl (lay_ext R hp) (R.lay hp) (rep_lst R hp r)
end
/-! ### expressions -/
section
variable {X : Cx} {W : WX} {a b c e : Expr} {ma mb mc : ME} {pos : Pos}
abbrev SE (X : Cx) (W : WX) (e : Expr) (m : ME) : Prop := PE X e (tM X.K X.mg W m)
def mVar (i : Nat) : ME := fun s h => match s[i]? with
  | some (some t) => .ok t h
  | _ => .stuck
def mC (t : T) : ME := fun _ h => .ok t h
theorem se_var {i : Nat} {x : Str} (hN : X.N[i]? = some x := by rfl) (hv : Vis X.env.scope x := by first | exact Or.inl rfl | exact Or.inr (Or.inl rfl) | exact Or.inr (Or.inr rfl)) (hd : (x == ("__debug__" : Str)) = false := by decide)
    (hcd : (x == ("__classdict__" : Str)) = false := by decide) : SE X W (.Name x pos) (mVar i) := by
  refine weakE (pe_var hN hv hd hcd) ?_
  rintro σ H Q ⟨g, s, rfl, R, S, h⟩
  unfold mVar at h
  split at h
  · rename_i t q
    obtain ⟨v, e1, r⟩ := S.2 i t q
    exact ⟨v, e1, wpR_here h R r⟩
  · exact h.elim
theorem se_c {t : T} {v : V} (he : PE X e (tC v)) (r : ∀ g, Rep X.K X.mg g t v) : SE X W e (mC t) := by
  refine weakE he ?_
  rintro σ H Q ⟨g, s, rfl, R, S, h⟩
  exact wpR_here h R (r g)
theorem se_int {i : Int} {j : Nat} : SE X W (.Constant (.int i) j pos) (mC (.int i)) := se_c pe_int fun g => by simp only [Rep]
theorem se_bl {i : Bool} {j : Nat} : SE X W (.Constant (.bool i) j pos) (mC (.bl i)) := se_c pe_bl fun g => by simp only [Rep]
theorem se_non {j : Nat} : SE X W (.Constant .none j pos) (mC .non) := se_c pe_non fun g => by simp only [Rep]
theorem se_str {i : Str} {j : Nat} : SE X W (.Constant (.str i) j pos) (mC (.str i)) := se_c pe_str fun g => by simp only [Rep]
/-- a rule's two-place operation and its mirror -/
def m2 (f : T → T → MH → R) (ma mb : ME) : ME := fun s h => (ma s h).bind fun t h1 => (mb s h1).bind fun u h2 => f t u h2
def OpM (X : Cx) (f : T → T → MH → R) (r : R2) : Prop := ∀ (W : WX) g σ t u x y Q, Rel X.K X.mg g → Rep X.K X.mg g t x → Rep X.K X.mg g u y → wpR X.K X.mg W g σ Q (f t u g.h) → r x y g.H Q
theorem use2 {f : T → T → MH → R} {r : R2} (hm : OpM X f r) {σ : L2.St} {H : Hp} {Q : VK} (h : tM X.K X.mg W (m2 f ma mb) σ H Q) : tOp r (tM X.K X.mg W ma) (tM X.K X.mg W mb) σ H Q := by
  obtain ⟨g, s, rfl, R, S, h⟩ := h
  refine ⟨g, s, rfl, R, S, wpR_bind h fun g1 t x e1 R1 r1 h1 => ⟨g1, s, rfl, R1, S.mono e1, wpR_bind h1 fun g2 u y e2 R2 r2 h2 => ?_⟩⟩
  exact hm W g2 σ t u x y Q R2 (r1.mono e2) r2 h2
theorem se_op {op : Operator} {f : T → T → MH → R} {r : R2} (ho : OpR X (binaryOp op) r) (hm : OpM X f r) (ha : SE X W a ma) (hb : SE X W b mb) : SE X W (.BinOp a op b pos) (m2 f ma mb) :=
  weakE (pe_op ho ha hb) fun _ _ _ h => use2 hm h
theorem se_cmp {op : CmpOp} {f : T → T → MH → R} {r : R2} (ho : OpR X (compareOp op) r) (hm : OpM X f r) (ha : SE X W a ma) (hb : SE X W b mb) (hmk : behindInMarks op b = false) : SE X W (.Compare a [op] [b] pos) (m2 f ma mb) :=
  weakE (pe_cmpR ho ha hb hmk) fun _ _ _ h => use2 hm h
end
end Mi
end part_Mi0
section part_Mi1
set_option maxRecDepth 100000
set_option maxHeartbeats 2000000
/-! Mi, part 1: operators by values. -/
namespace Mi
open PySem PySem.Spec PyProof.Rows L2
def big : Nat := 100000
theorem big_le {n : Nat} (h : n ≤ big) : n ≤ sizeLine := Nat.le_trans h (by rw [sizeLine_eq]; decide)
section
variable {X : Cx} {K : PySem.W.Frag} {mg : Str → Option Value} {W : WX} {g : G} {σ : L2.St} {Q : VK}
theorem rep_int {i : Int} {v : V} (h : Rep K mg g (.int i) v) : v = .int i := by simpa only [Rep] using h
theorem rep_str {i : Str} {v : V} (h : Rep K mg g (.str i) v) : v = .str i := by simpa only [Rep] using h
theorem rep_bl {i : Bool} {v : V} (h : Rep K mg g (.bl i) v) : v = .bl i := by simpa only [Rep] using h
theorem rep_non {v : V} (h : Rep K mg g .non v) : v = .non := by simpa only [Rep] using h
theorem rInt {i : Int} : Rep K mg g (.int i) (.int i) := by simp only [Rep]
theorem rStr {i : Str} : Rep K mg g (.str i) (.str i) := by simp only [Rep]
theorem rBl {i : Bool} : Rep K mg g (.bl i) (.bl i) := by simp only [Rep]
theorem rNon : Rep K mg g .non .non := by simp only [Rep]
theorem rep_lst_at {xs : List T} {v : V} (h : Rep K mg g (.lst xs) v) : ∃ p vs, v = .ref p ∧ g.H p = some (.lst vs) ∧ RepL K mg g xs vs := by
  simp only [Rep] at h
  obtain ⟨p, vs, e, h1, h2⟩ := h
  exact ⟨p, vs, e, h1.1, h2⟩
/-! ### + - * // % ** -/
def fAdd : T → T → MH → R := fun t u h => match t, u with
  | .int i, .int j => .ok (.int (i + j)) h
  | .str a, .str b => if a.length + b.length ≤ big then .ok (.str (a ++ b)) h else .stuck
  | .lst a, .lst b => if a.length + b.length ≤ big then .ok (.lst (a ++ b)) h else .stuck
  | .tup a, .tup b => if a.length + b.length ≤ big then .ok (.tup (a ++ b)) h else .stuck
  | _, _ => .stuck
/-- t + u, tuples; a new one is known as it stands -/
def rCatX (K : PySem.W.Frag) : R2 := fun x y H Q => ∃ a b xs ys, x = .ref a ∧ y = .ref b ∧ SqT K H a xs ∧ SqT K H b ys ∧ xs.length + ys.length ≤ sizeLine ∧ (xs = [] → Q (.ref b) H) ∧ (xs ≠ [] → ys = [] → Q (.ref a) H) ∧
  (xs ≠ [] → ys ≠ [] → ∀ (o : Obj) p, o.dict = none → H p = none → Q (.ref p) (upd H p (.frz o (.tup (xs ++ ys)))))
theorem op_catX : OpR X (binaryOp .Add) (rCatX X.K) := by
  intro pins s σ H x y v u Q I rx ry h
  obtain ⟨a, b, xs, ys, rfl, rfl, ha, hb, hz, q0, q1, q2⟩ := h
  cases rx
  cases ry
  obtain ⟨its, r1, p1, _⟩ := I.tuple ha
  obtain ⟨its2, r2, p2, _⟩ := I.tuple hb
  by_cases hx : xs = []
  · subst hx
    cases r1
    exact cat_tup0 p1 p2 ⟨.ref b, H, I, rfl, q0 rfl⟩
  · refine HT.cat_tup p1 p2 (fun z => hx (r1.nil_iff.mp z)) (fun z => ⟨.ref a, H, I, rfl, q1 hx (r2.nil_iff.mp z)⟩) (fun z => ?_) (by rw [← r1.length, ← r2.length]; exact hz)
    refine ⟨.ref s.heap.objs.size, _, I.laid (t' := s.toks) (o := .frz { cls := .type "tuple", data := .seq (its ++ its2).toArray } (.tup (xs ++ ys))) (fun b ob q => Heap.get?_push_of_some _ q) (Nat.le_refl _) ?_, rfl, q2 hx (fun w => z (r2.nil_iff.mpr w)) _ _ rfl (I.hok.fresh (Nat.le_refl _))⟩
    exact ⟨Heap.get?_push_size _ rfl, by rw [List.length_append]; exact hz, _, r1.append r2, IsTup.new _ _⟩
abbrev rAddV (K : PySem.W.Frag) : R2 := fun x y H Q => (rI0 fun i j => .int (i + j)) x y H Q ∨ (fun x y H Q => (∃ i j, x = .str i ∧ y = .str j ∧ i.length + j.length ≤ sizeLine ∧ Q (.str (i ++ j)) H) ∨ (fun x y H Q => rCat x y H Q ∨ rCatX K x y H Q) x y H Q) x y H Q
theorem op_addV : OpR X (binaryOp .Add) (rAddV X.K) := op_add.or (op_add_str.or (op_cat.or op_catX))
theorem mAddV : OpM X fAdd (rAddV X.K) := by
  intro W g σ t u x y Q R r1 r2 h
  cases t with
  | int i => cases u with
    | int j => rw [rep_int r1, rep_int r2]; exact .inl ⟨i, j, rfl, rfl, wpR_here h R rInt⟩
    | _ => exact h.elim
  | str a => cases u with
    | str b =>
      rw [rep_str r1, rep_str r2]
      unfold fAdd at h
      dsimp only at h
      split at h
      · rename_i q; exact .inr (.inl ⟨a, b, rfl, rfl, big_le q, wpR_here h R rStr⟩)
      · exact h.elim
    | _ => exact h.elim
  | lst a => cases u with
    | lst b =>
      obtain ⟨p, vs, rfl, h1, l1⟩ := rep_lst_at r1
      obtain ⟨q, ws, rfl, h2, l2⟩ := rep_lst_at r2
      unfold fAdd at h
      dsimp only at h
      split at h
      · rename_i z
        refine .inr (.inr (.inl ⟨p, q, vs, ws, rfl, rfl, h1, h2, big_le (by rw [← l1.length, ← l2.length]; exact z), fun r hr => wpR_lst h R (l1.append l2) hr⟩))
      · exact h.elim
    | _ => exact h.elim
  | tup a => cases u with
    | tup b =>
      obtain ⟨p, vs, e1, h1, l1⟩ := r1.sqT
      obtain ⟨q, ws, e2, h2, l2⟩ := r2.sqT
      subst e1 e2
      unfold fAdd at h
      dsimp only at h
      split at h
      · rename_i z
        refine .inr (.inr (.inr ⟨p, q, vs, ws, rfl, rfl, h1, h2, big_le (by rw [← l1.length, ← l2.length]; exact z), fun e => ?_, fun e1 e2 => ?_, fun e1 e2 o r hd hr => wpR_tup h R (l1.append l2) hr hd⟩))
        · subst e
          have : a = [] := List.eq_nil_of_length_eq_zero (by rw [l1.length]; rfl)
          subst this
          exact wpR_here h R r2
        · subst e2
          have : b = [] := List.eq_nil_of_length_eq_zero (by rw [l2.length]; rfl)
          subst this
          rw [List.append_nil] at h
          exact wpR_here h R r1
      · exact h.elim
    | _ => exact h.elim
  | _ => exact h.elim
/-- a rule on two ints -/
def fI (C : Int → Int → Bool) (f : Int → Int → T) : T → T → MH → R := fun t u h => match t, u with
  | .int i, .int j => if C i j then .ok (f i j) h else .stuck
  | _, _ => .stuck
theorem mI {Cb : Int → Int → Bool} {C : Int → Int → Prop} {f : Int → Int → T} {fV : Int → Int → V} (hC : ∀ i j, Cb i j = true → C i j) (hf : ∀ (K : PySem.W.Frag) mg g i j, Rep K mg g (f i j) (fV i j)) : OpM X (fI Cb f) (rI C fV) := by
  intro W g σ t u x y Q R r1 r2 h
  cases t with
  | int i => cases u with
    | int j =>
      rw [rep_int r1, rep_int r2]
      unfold fI at h
      dsimp only at h
      split at h
      · rename_i q; exact ⟨i, j, rfl, rfl, hC i j q, wpR_here h R (hf _ _ _ i j)⟩
      · exact h.elim
    | _ => exact h.elim
  | _ => exact h.elim
def fFdiv := fI (fun _ j => decide (0 < j) && decide (j < 1073741824)) fun i j => .int (i / j)
theorem mFdivV : OpM X fFdiv (rI CDiv fun i j => .int (i / j)) := mI (fun i j h => by simpa [CDiv] using h) fun _ _ _ _ _ => rInt
def fMod := fI (fun _ j => decide (0 < j)) fun i j => .int (i % j)
theorem mModV : OpM X fMod (rI (fun _ j => 0 < j) fun i j => .int (i % j)) := mI (fun i j h => by simpa using h) fun _ _ _ _ _ => rInt
def fPow := fI (fun i j => decide (0 ≤ j) && decide (j ≤ 1000) && decide (i.natAbs < 1000)) fun i j => .int (i ^ j.toNat)
theorem mPowV : OpM X fPow (rI CPow fun i j => .int (i ^ j.toNat)) := mI (fun i j h => by
  simp only [Bool.and_eq_true, decide_eq_true_eq] at h
  exact ⟨h.1.1, by omega, by omega⟩) fun _ _ _ _ _ => rInt
/-! ### comparisons of ints and texts -/
def fCmp (fi : Int → Int → Bool) (fs : List Nat → List Nat → Bool) : T → T → MH → R := fun t u h => match t, u with
  | .int i, .int j => .ok (.bl (fi i j)) h
  | .str a, .str b => .ok (.bl (fs a.cps.toList b.cps.toList)) h
  | _, _ => .stuck
abbrev rCmp (fi : Int → Int → Bool) (fs : List Nat → List Nat → Bool) : R2 := fun x y H Q => (rI0 fun i j => .bl (fi i j)) x y H Q ∨ (fun x y H Q => ∃ i j, x = .str i ∧ y = .str j ∧ Q (.bl (fs i.cps.toList j.cps.toList)) H) x y H Q
theorem mCmp {fi : Int → Int → Bool} {fs : List Nat → List Nat → Bool} : OpM X (fCmp fi fs) (rCmp fi fs) := by
  intro W g σ t u x y Q R r1 r2 h
  cases t with
  | int i => cases u with
    | int j => rw [rep_int r1, rep_int r2]; exact .inl ⟨i, j, rfl, rfl, wpR_here h R rBl⟩
    | _ => exact h.elim
  | str i => cases u with
    | str j => rw [rep_str r1, rep_str r2]; exact .inr ⟨i, j, rfl, rfl, wpR_here h R rBl⟩
    | _ => exact h.elim
  | _ => exact h.elim
def fLt := fCmp (fun i j => decide (i < j)) fun a b => decide (a < b)
def fLe := fCmp (fun i j => decide (i ≤ j)) fun a b => !decide (b < a)
def fGt := fCmp (fun i j => decide (j < i)) fun a b => decide (b < a)
def fGe := fCmp (fun i j => decide (j ≤ i)) fun a b => !decide (a < b)
theorem op_ltV : OpR X (compareOp .Lt) (rCmp (fun i j => decide (i < j)) fun a b => decide (a < b)) := op_lt.or op_lt_str
theorem op_leV : OpR X (compareOp .LtE) (rCmp (fun i j => decide (i ≤ j)) fun a b => !decide (b < a)) := op_le.or op_le_str
theorem op_gtV : OpR X (compareOp .Gt) (rCmp (fun i j => decide (j < i)) fun a b => decide (b < a)) := op_gt.or op_gt_str
theorem op_geV : OpR X (compareOp .GtE) (rCmp (fun i j => decide (j ≤ i)) fun a b => !decide (a < b)) := op_ge.or op_ge_str
theorem mLtV : OpM X fLt (rCmp (fun i j => decide (i < j)) fun a b => decide (a < b)) := mCmp
theorem mLeV : OpM X fLe (rCmp (fun i j => decide (i ≤ j)) fun a b => !decide (b < a)) := mCmp
theorem mGtV : OpM X fGt (rCmp (fun i j => decide (j < i)) fun a b => decide (b < a)) := mCmp
theorem mGeV : OpM X fGe (rCmp (fun i j => decide (j ≤ i)) fun a b => !decide (a < b)) := mCmp
/-! ### == of data -/
mutual
def toD : T → Option PyData
  | .non => some .none
  | .bl b => some (.bool b)
  | .int i => some (.int i)
  | .str s => some (.str s)
  | .tup xs => (toDs xs).map .tuple
  | .lst xs => (toDs xs).map .list
  | .frl xs => (toDs xs).map .list
  | .dct _ _ => none
  | .obj _ _ _ => none
  | .ref _ => none
  | .exn _ _ _ => none
  | .cls _ => none
  | .fn _ _ _ => none
  | .fnc _ _ _ _ => none
  | .tpl _ => none
def toDs : List T → Option (List PyData)
  | [] => some []
  | t :: ts => match toD t, toDs ts with
    | some d, some ds => some (d :: ds)
    | _, _ => none
end
theorem dpAll_of : ∀ {ts : List T} {vs : List V} {ds : List PyData}, (∀ t ∈ ts, ∀ v d, Rep K mg g t v → toD t = some d → Dp K g.H v d) → RepL K mg g ts vs → toDs ts = some ds → DpAll K g.H vs ds
  | [], vs, ds, _, r, e => by
    simp only [RepL] at r
    simp only [toDs] at e
    cases e; subst r
    exact .nil
  | t :: ts, vs, ds, f, r, e => by
    simp only [RepL] at r
    obtain ⟨v, w, rfl, r1, r2⟩ := r
    simp only [toDs] at e
    split at e
    · rename_i d1 ds1 e1 e2
      cases e
      exact .cons (f t List.mem_cons_self v d1 r1 e1) (dpAll_of (fun u hu => f u (List.mem_cons_of_mem _ hu)) r2 e2)
    · cases e
theorem dp_of : ∀ (t : T) (v : V) (d : PyData), Rep K mg g t v → toD t = some d → Dp K g.H v d := by
  intro t
  induction t using T.ind with
  | non => intro v d r e; rw [rep_non r]; simp only [toD] at e; cases e; exact .non
  | bl b => intro v d r e; rw [rep_bl r]; simp only [toD] at e; cases e; exact .bl b
  | int i => intro v d r e; rw [rep_int r]; simp only [toD] at e; cases e; exact .int i
  | str s => intro v d r e; rw [rep_str r]; simp only [toD] at e; cases e; exact .str s
  | tup xs ih =>
    intro v d r e
    simp only [toD] at e
    cases q : toDs xs with
    | none => rw [q] at e; cases e
    | some ds =>
      rw [q] at e; cases e
      obtain ⟨p, vs, e1, h1, l1⟩ := r.sqT
      subst e1
      exact .tup h1 (dpAll_of ih l1 q)
  | lst xs ih =>
    intro v d r e
    simp only [toD] at e
    cases q : toDs xs with
    | none => rw [q] at e; cases e
    | some ds =>
      rw [q] at e; cases e
      obtain ⟨p, vs, e1, h1, l1⟩ := r.sqL
      subst e1
      exact .lst h1 (dpAll_of ih l1 q)
  | frl xs ih =>
    intro v d r e
    simp only [toD] at e
    cases q : toDs xs with
    | none => rw [q] at e; cases e
    | some ds =>
      rw [q] at e; cases e
      obtain ⟨p, vs, e1, h1, l1⟩ := r.sqF
      subst e1
      exact .lst h1 (dpAll_of ih l1 q)
  | dct ks vs _ _ => intro v d r e; simp only [toD] at e; cases e
  | obj c ns vs _ => intro v d r e; simp only [toD] at e; cases e
  | ref i => intro v d r e; simp only [toD] at e; cases e
  | exn c ns vs _ => intro v d r e; simp only [toD] at e; cases e
  | cls c => intro v d r e; simp only [toD] at e; cases e
  | fn k I C => intro v d r e; simp only [toD] at e; cases e
  | fnc k I C n => intro v d r e; simp only [toD] at e; cases e
  | tpl xs _ => intro v d r e; simp only [toD] at e; cases e
/-- two values as data -/
def with2 (t u : T) (f : PyData → PyData → R) : R := match toD t, toD u with
  | some d, some e => if SeqAt.shaped d && SeqAt.shaped e then f d e else .stuck
  | _, _ => .stuck
theorem with2_ok {t u : T} {f : PyData → PyData → R} {C : Prop} (h : wpR K mg W g σ Q (with2 t u f)) (k : ∀ d e, toD t = some d → toD u = some e → SeqAt.shaped d = true → SeqAt.shaped e = true → wpR K mg W g σ Q (f d e) → C) : C := by
  unfold with2 at h
  split at h
  · rename_i d e h1 h2
    split at h
    · rename_i q
      obtain ⟨q1, q2⟩ := Bool.and_eq_true_iff.mp q
      exact k d e h1 h2 q1 q2 h
    · exact h.elim
  · exact h.elim
def fEq : T → T → MH → R := fun t u h => match t, u with
  | .str a, .str b => .ok (.bl (decide (a = b))) h
  | _, _ => with2 t u fun d e => .ok (.bl (PyData.eqv d e)) h
def fNe : T → T → MH → R := fun t u h => match t, u with
  | .str a, .str b => .ok (.bl (!decide (a = b))) h
  | _, _ => with2 t u fun d e => .ok (.bl (!PyData.eqv d e)) h
abbrev rEqA (K : PySem.W.Frag) : R2 := fun x y H Q => rEqD K x y H Q ∨ rEq x y H Q
abbrev rNeA (K : PySem.W.Frag) : R2 := fun x y H Q => rNeD K x y H Q ∨ rNe x y H Q
theorem op_eqA (hu : X.A.units + 64 < cLine) : OpR X (compareOp .Eq) (rEqA X.K) := (op_eqD hu).or op_eq
theorem op_neA (hu : X.A.units + 64 < cLine) : OpR X (compareOp .NotEq) (rNeA X.K) := (op_neD hu).or op_ne
theorem dec_strV {a b : Str} : decide (V.str a = V.str b) = decide (a = b) := by
  by_cases h : a = b
  · subst h; rw [decide_eq_true rfl, decide_eq_true rfl]
  · rw [decide_eq_false h, decide_eq_false fun e => h (by injection e)]
theorem mEqV : OpM X fEq (rEqA X.K) := by
  intro W g σ t u x y Q R r1 r2 h
  unfold fEq at h
  split at h
  · rename_i a b
    rw [rep_str r1, rep_str r2]
    refine .inr ⟨rfl, ?_⟩
    rw [dec_strV]
    exact wpR_here h R rBl
  · exact .inl (with2_ok h fun d e h1 h2 s1 s2 q => ⟨d, e, dp_of t x d r1 h1, dp_of u y e r2 h2, s1, s2, wpR_here q R rBl⟩)
theorem mNeV : OpM X fNe (rNeA X.K) := by
  intro W g σ t u x y Q R r1 r2 h
  unfold fNe at h
  split at h
  · rename_i a b
    rw [rep_str r1, rep_str r2]
    refine .inr ⟨rfl, ?_⟩
    rw [dec_strV]
    exact wpR_here h R rBl
  · exact .inl (with2_ok h fun d e h1 h2 s1 s2 q => ⟨d, e, dp_of t x d r1 h1, dp_of u y e r2 h2, s1, s2, wpR_here q R rBl⟩)
/-! ### is None, is True -/
def fIs (neg : Bool) : T → T → MH → R := fun t u h => match t, u with
  | .bl a, .bl b => .ok (.bl (if neg then !decide (a = b) else decide (a = b))) h
  | .non, .non => .ok (.bl (if neg then false else true)) h
  | .bl _, .non | .int _, .non | .str _, .non | .tup _, .non | .lst _, .non | .frl _, .non | .dct _ _, .non | .obj _ _ _, .non | .ref _, .non | .exn _ _ _, .non => .ok (.bl (if neg then true else false)) h
  | _, _ => .stuck
abbrev rIsV (neg : Bool) : R2 := fun x y H Q => (fun x y H Q => y = .non ∧ Q (.bl (if neg then !decide (x = .non) else decide (x = .non))) H) x y H Q ∨ (fun x y H Q => ∃ a b, x = .bl a ∧ y = .bl b ∧ Q (.bl (if neg then !decide (a = b) else decide (a = b))) H) x y H Q
theorem op_isV : OpR X (compareOp .Is) (rIsV false) := op_isN.or op_is_bl
theorem mIsV {neg : Bool} : OpM X (fIs neg) (rIsV neg) := by
  intro W g σ t u x y Q R r1 r2 h
  cases u with
  | non =>
    rw [rep_non r2]
    refine .inl ⟨rfl, ?_⟩
    have key : ∀ b : Bool, decide (x = V.non) = b → wpR X.K X.mg W g σ Q (.ok (.bl (if neg then !b else b)) g.h) → Q (.bl (if neg = true then !decide (x = V.non) else decide (x = V.non))) g.H := fun b e q => by
      rw [e]; exact wpR_here q R rBl
    cases t with
    | non => exact key true (by rw [rep_non r1]; rfl) h
    | bl b => exact key false (by rw [rep_bl r1]; rfl) h
    | int b => exact key false (by rw [rep_int r1]; rfl) h
    | str b => exact key false (by rw [rep_str r1]; rfl) h
    | tup b => obtain ⟨p, _, e, _⟩ := r1.sqT; exact key false (by rw [e]; rfl) h
    | lst b => obtain ⟨p, _, e, _⟩ := r1.sqL; exact key false (by rw [e]; rfl) h
    | frl b => obtain ⟨p, _, e, _⟩ := r1.sqF; exact key false (by rw [e]; rfl) h
    | dct a b => simp only [Rep] at r1; obtain ⟨p, _, e, _⟩ := r1; exact key false (by rw [e]; rfl) h
    | obj a b c => simp only [Rep] at r1; obtain ⟨p, _, _, _, e, _⟩ := r1; exact key false (by rw [e]; rfl) h
    | ref i => simp only [Rep] at r1; obtain ⟨p, e, _⟩ := r1; exact key false (by rw [e]; rfl) h
    | cls a => exact h.elim
    | fn a b c => exact h.elim
    | fnc a b c d => exact h.elim
    | tpl a => exact h.elim
    | exn a b c => simp only [Rep] at r1; obtain ⟨p, _, _, _, e, _⟩ := r1; exact key false (by rw [e]; rfl) h
  | bl b => cases t with
    | bl a => rw [rep_bl r1, rep_bl r2]; exact .inr ⟨a, b, rfl, rfl, wpR_here h R rBl⟩
    | _ => exact h.elim
  | _ => cases t <;> exact h.elim
end
end Mi
end part_Mi1
section part_Mi2
set_option maxRecDepth 100000
set_option maxHeartbeats 2000000
/-! Mi, part 2: tests, conditional expressions, argument lists, displays, subscripts, slices, built-in functions. -/
namespace Mi
open PySem PySem.Spec PyProof.Rows L2
section
variable {X : Cx} {K : PySem.W.Frag} {mg : Str → Option Value} {W : WX} {g : G} {σ : L2.St} {Q : VK}
/-! ### tests -/
def wpT (K : PySem.W.Frag) (mg : Str → Option Value) (W : WX) (g : G) (σ : L2.St) (Q : Bool → Hp → Prop) : R → Prop
  | .ok (.bl b) h' => ∀ g', g'.h = h' → Ext g g' → Rel K mg g' → Q b g'.H
  | .ok _ _ => False
  | .ex x h' => ∀ g' cls d, g'.h = h' → Ext g g' → Rel K mg g' → RepX K mg g' x cls d → W cls d σ g'.H
  | .stuck => False
def tMT (K : PySem.W.Frag) (mg : Str → Option Value) (W : WX) (m : ME) : TT := fun σ H Q => ∃ g s, g.H = H ∧ Rel K mg g ∧ RepS K mg g s σ ∧ wpT K mg W g σ Q (m s g.h)
abbrev ST (X : Cx) (W : WX) (e : Expr) (m : ME) : Prop := PT X e (tMT X.K X.mg W m)
theorem wpT.ext {Q : Bool → Hp → Prop} {g g' : G} {r : R} (h : wpT K mg W g σ Q r) (e : Ext g g') : wpT K mg W g' σ Q r := by
  cases r with
  | ok t h' => cases t with
    | bl b => exact fun g2 q e2 => h g2 q (e.trans e2)
    | _ => exact h
  | ex x h' => exact fun g2 c d q e2 => h g2 c d q (e.trans e2)
  | stuck => exact h
theorem wpT_bind {Q : Bool → Hp → Prop} {Q' : VK} {r : R} {f : T → MH → R} (h : wpT K mg W g σ Q (r.bind f)) (k : ∀ g' t v, Ext g g' → Rel K mg g' → Rep K mg g' t v → wpT K mg W g' σ Q (f t g'.h) → Q' v g'.H) : wpR K mg W g σ Q' r := by
  cases r with
  | ok t h' => exact fun g' v q e R r => k g' t v e R r (by subst q; exact wpT.ext h e)
  | ex x h' => exact h
  | stuck => exact h
theorem wpT_bindT {Q Q' : Bool → Hp → Prop} {r : R} {f : T → MH → R} (h : wpT K mg W g σ Q (r.bind f)) (hb : ∀ t h, (∀ b, t ≠ .bl b) → f t h = .stuck) (k : ∀ g' b, Ext g g' → Rel K mg g' → wpT K mg W g' σ Q (f (.bl b) g'.h) → Q' b g'.H) : wpT K mg W g σ Q' r := by
  cases r with
  | ok t h' =>
    by_cases hx : ∃ b, t = .bl b
    · obtain ⟨b, rfl⟩ := hx
      exact fun g' q e R => k g' b e R (by subst q; exact wpT.ext h e)
    · have z := hb t h' (fun b e => hx ⟨b, e⟩)
      have h2 : wpT K mg W g σ Q (f t h') := h
      rw [z] at h2
      exact h2.elim
  | ex x h' => exact h
  | stuck => exact h
theorem wpT_here {Q : Bool → Hp → Prop} {b : Bool} (h : wpT K mg W g σ Q (.ok (.bl b) g.h)) (R : Rel K mg g) : Q b g.H := h g rfl (Ext.refl g) R
/-- truth -/
def fTru : T → MH → R := fun t h => match t with
  | .non => .ok (.bl false) h
  | .bl b => .ok (.bl b) h
  | .int i => .ok (.bl (i != 0)) h
  | .str s => if s.length ≤ big then .ok (.bl ((s.length : Int) != 0)) h else .stuck
  | .tup xs => .ok (.bl (!xs.isEmpty)) h
  | .lst xs => .ok (.bl (!xs.isEmpty)) h
  | .frl xs => .ok (.bl (!xs.isEmpty)) h
  | .ref i => match h[i]? with
    | some (.lst xs) => .ok (.bl (!xs.isEmpty)) h
    | _ => .stuck
  | _ => .stuck
theorem isEmpty_L {xs : List T} {vs : List V} (r : RepL K mg g xs vs) : xs.isEmpty = vs.isEmpty := by
  have := r.length
  cases xs <;> cases vs <;> simp_all
theorem Rel.lst_at (R : Rel K mg g) {i : Nat} {v : V} {xs : List T} (r : Rep K mg g (.ref i) v) (h : g.h[i]? = some (.lst xs)) : ∃ p vs, v = .ref p ∧ g.rho[i]? = some p ∧ g.H p = some (.lst vs) ∧ RepL K mg g xs vs := by
  simp only [Rep] at r
  obtain ⟨p, rfl, hp⟩ := r
  obtain ⟨vs, h1, h2⟩ := R.obj i p _ hp h
  exact ⟨p, vs, rfl, hp, h1, h2⟩
theorem tru_of {t : T} {v : V} (R : Rel K mg g) (r : Rep K mg g t v) : ∀ b, fTru t g.h = .ok (.bl b) g.h → TruV K v g.H b := by
  intro b h
  unfold fTru at h
  cases t with
  | non => rw [rep_non r]; cases h; rfl
  | bl c => rw [rep_bl r]; cases h; rfl
  | int i => rw [rep_int r]; cases h; rfl
  | str s =>
    rw [rep_str r]
    dsimp only at h
    split at h
    · rename_i q; cases h; exact ⟨big_le q, rfl⟩
    · cases h
  | tup xs => obtain ⟨p, vs, rfl, h1, l1⟩ := r.sqT; cases h; exact .inr (.inl ⟨vs, h1, by rw [isEmpty_L l1]⟩)
  | lst xs => obtain ⟨p, vs, rfl, h1, l1⟩ := r.sqL; cases h; exact .inl ⟨vs, h1, by rw [isEmpty_L l1]⟩
  | frl xs => obtain ⟨p, vs, rfl, h1, l1⟩ := r.sqF; cases h; exact .inl ⟨vs, h1, by rw [isEmpty_L l1]⟩
  | ref i =>
    dsimp only at h
    split at h
    · rename_i xs q
      obtain ⟨p, vs, rfl, _, h1, l1⟩ := R.lst_at r q
      cases h
      exact .inl ⟨vs, SqL.of h1, by rw [isEmpty_L l1]⟩
    · cases h
  | _ => cases h
theorem fTru_ok (t : T) (h : MH) : (∃ b, fTru t h = .ok (.bl b) h) ∨ fTru t h = .stuck := by
  unfold fTru
  cases t with
  | str s => dsimp only; split <;> first | exact .inl ⟨_, rfl⟩ | exact .inr rfl
  | ref i => dsimp only; split <;> first | exact .inl ⟨_, rfl⟩ | exact .inr rfl
  | _ => first | exact .inl ⟨_, rfl⟩ | exact .inr rfl
def mTru (m : ME) : ME := fun s h => (m s h).bind fTru
variable {a b c e : Expr} {ma mb mc : ME} {pos : Pos} {rest : List Expr}
/-- any expression as a test, by its value's truth -/
theorem st_val (ha : SE X W a ma) (he : ∀ whole, isTrue a X.env whole = (do let v ← whole; standAt a.pos; holding [v] (truthy v)) := by intro _; rfl) : ST X W a (mTru ma) := by
  refine weakT (pt_truth ha he) ?_
  rintro σ H Q ⟨g, s, rfl, R, S, h⟩
  refine ⟨g, s, rfl, R, S, wpT_bind h fun g1 t v e1 R1 r1 h1 => ?_⟩
  rcases fTru_ok t g1.h with ⟨b, q⟩ | q
  · rw [q] at h1
    exact ⟨b, tru_of R1 r1 b q, wpT_here h1 R1⟩
  · rw [q] at h1; exact h1.elim
/-- a comparison as a test -/
theorem st_cmp {op : CmpOp} {f : T → T → MH → R} {r : R2} (ho : OpR X (compareOp op) r) (hm : OpM X f r) (hb' : ∀ t u h, (∃ b, f t u h = .ok (.bl b) h) ∨ f t u h = .stuck) (ha : SE X W a ma) (hb : SE X W b mb) (hmk : behindInMarks op b = false) : ST X W (.Compare a [op] [b] pos) (m2 f ma mb) := by
  refine weakT (pt_cmpR ho ha hb hmk) ?_
  rintro σ H Q ⟨g, s, rfl, R, S, h⟩
  refine ⟨g, s, rfl, R, S, wpT_bind h fun g1 t x e1 R1 r1 h1 => ⟨g1, s, rfl, R1, S.mono e1, wpT_bind h1 fun g2 u y e2 R2 r2 h2 => ?_⟩⟩
  refine hm W g2 σ t u x y _ R2 (r1.mono e2) r2 ?_
  rcases hb' t u g2.h with ⟨b, q⟩ | q
  · rw [q] at h2 ⊢
    exact fun g3 v q3 e3 R3 r3 => ⟨b, rep_bl r3, h2 g3 q3 e3 R3⟩
  · rw [q] at h2; exact h2.elim
/-- and, or, not as tests -/
def fAnd (mb : ME) (s : SM) : T → MH → R := fun t h => match t with
  | .bl true => mb s h
  | .bl false => .ok (.bl false) h
  | _ => .stuck
def fOr (mb : ME) (s : SM) : T → MH → R := fun t h => match t with
  | .bl true => .ok (.bl true) h
  | .bl false => mb s h
  | _ => .stuck
def fNot : T → MH → R := fun t h => match t with
  | .bl b => .ok (.bl (!b)) h
  | _ => .stuck
def mAnd (ma mb : ME) : ME := fun s h => (ma s h).bind (fAnd mb s)
def mOr (ma mb : ME) : ME := fun s h => (ma s h).bind (fOr mb s)
def mNot (ma : ME) : ME := fun s h => (ma s h).bind fNot
abbrev SW (X : Cx) (W : WX) (e : Expr) (m : ME) : Prop := PW X e (tMT X.K X.mg W m)
theorem sw_and1 (ha : ST X W a ma) : SW X W (.BoolOp .And [a] pos) ma := pw_and1 ha
theorem sw_or1 (ha : ST X W a ma) : SW X W (.BoolOp .Or [a] pos) ma := pw_or1 ha
theorem weakW {X : Cx} {e : Expr} {t t' : TT} (h : PW X e t) (k : ∀ σ H Q, t' σ H Q → t σ H Q) : PW X e t' := ⟨fun w pins s σ H Q I q => h.run w pins s σ H Q I (k σ H Q q)⟩
theorem sw_and (ha : ST X W a ma) (hb : SW X W (.BoolOp .And (b :: rest) pos) mb) : SW X W (.BoolOp .And (a :: b :: rest) pos) (mAnd ma mb) := by
  refine weakW (pw_and ha hb) ?_
  rintro σ H Q ⟨g, s, rfl, R, S, h⟩
  refine ⟨g, s, rfl, R, S, wpT_bindT h (fun t h k => by cases t <;> first | exact absurd rfl (k _) | rfl) fun g1 b e1 R1 h1 => ?_⟩
  cases b with
  | true => exact iteT ⟨g1, s, rfl, R1, S.mono e1, h1⟩
  | false => exact iteF (wpT_here h1 R1)
theorem sw_or (ha : ST X W a ma) (hb : SW X W (.BoolOp .Or (b :: rest) pos) mb) : SW X W (.BoolOp .Or (a :: b :: rest) pos) (mOr ma mb) := by
  refine weakW (pw_or ha hb) ?_
  rintro σ H Q ⟨g, s, rfl, R, S, h⟩
  refine ⟨g, s, rfl, R, S, wpT_bindT h (fun t h k => by cases t <;> first | exact absurd rfl (k _) | rfl) fun g1 b e1 R1 h1 => ?_⟩
  cases b with
  | true => exact iteT (wpT_here h1 R1)
  | false => exact iteF ⟨g1, s, rfl, R1, S.mono e1, h1⟩
theorem sw_st (h : SW X W e ma) : ST X W e ma := h.pt
theorem st_not (ha : ST X W a ma) : ST X W (.UnaryOp .Not a pos) (mNot ma) := by
  refine weakT (pt_not ha) ?_
  rintro σ H Q ⟨g, s, rfl, R, S, h⟩
  exact ⟨g, s, rfl, R, S, wpT_bindT h (fun t h k => by cases t <;> first | exact absurd rfl (k _) | rfl) fun g1 b e1 R1 h1 => wpT_here h1 R1⟩
/-- a if c else b -/
def fIf (ma mb : ME) (s : SM) : T → MH → R := fun t h => match t with
  | .bl true => ma s h
  | .bl false => mb s h
  | _ => .stuck
def mIf (mc ma mb : ME) : ME := fun s h => (mc s h).bind (fIf ma mb s)
theorem wpR_bindT {Q' : Bool → Hp → Prop} {r : R} {f : T → MH → R} (h : wpR K mg W g σ Q (r.bind f)) (hb : ∀ t h, (∀ b, t ≠ .bl b) → f t h = .stuck) (k : ∀ g' b, Ext g g' → Rel K mg g' → wpR K mg W g' σ Q (f (.bl b) g'.h) → Q' b g'.H) : wpT K mg W g σ Q' r := by
  cases r with
  | ok t h' =>
    by_cases hx : ∃ b, t = .bl b
    · obtain ⟨b, rfl⟩ := hx
      exact fun g' q e R => k g' b e R (by subst q; exact wpR.ext h e)
    · have z := hb t h' (fun b e => hx ⟨b, e⟩)
      have h2 : wpR K mg W g σ Q (f t h') := h
      rw [z] at h2
      exact h2.elim
  | ex x h' => exact h
  | stuck => exact h
theorem se_if (hc : ST X W c mc) (ha : SE X W a ma) (hb : SE X W b mb) : SE X W (.IfExp c a b pos) (mIf mc ma mb) := by
  refine weakE (pe_ifExp hc ha hb) ?_
  rintro σ H Q ⟨g, s, rfl, R, S, h⟩
  refine ⟨g, s, rfl, R, S, wpR_bindT h (fun t h k => by cases t <;> first | exact absurd rfl (k _) | rfl) fun g1 b e1 R1 h1 => ?_⟩
  cases b with
  | true => exact iteT ⟨g1, s, rfl, R1, S.mono e1, h1⟩
  | false => exact iteF ⟨g1, s, rfl, R1, S.mono e1, h1⟩
/-- x or y, x and y, not x as values -/
def fOrV (mb : ME) (s : SM) : T → MH → R := fun t h => (fTru t h).bind fun k h1 => match k with
  | .bl true => .ok t h1
  | .bl false => mb s h1
  | _ => .stuck
def fAndV (mb : ME) (s : SM) : T → MH → R := fun t h => (fTru t h).bind fun k h1 => match k with
  | .bl true => mb s h1
  | .bl false => .ok t h1
  | _ => .stuck
def fNotV : T → MH → R := fun t h => (fTru t h).bind fNot
def mOrV (ma mb : ME) : ME := fun s h => (ma s h).bind (fOrV mb s)
def mAndV (ma mb : ME) : ME := fun s h => (ma s h).bind (fAndV mb s)
def mNotV (ma : ME) : ME := fun s h => (ma s h).bind fNotV
theorem se_one {op : BoolOp} (h : SE X W a ma) : SE X W (.BoolOp op [a] pos) ma := pe_one h
theorem se_and (ha : SE X W a ma) (hb : SE X W (.BoolOp .And (b :: rest) pos) mb) : SE X W (.BoolOp .And (a :: b :: rest) pos) (mAndV ma mb) := by
  refine weakE (pe_andT ha hb) ?_
  rintro σ H Q ⟨g, s, rfl, R, S, h⟩
  refine ⟨g, s, rfl, R, S, wpR_bind h fun g1 t v e1 R1 r1 h1 => ?_⟩
  unfold fAndV at h1
  rcases fTru_ok t g1.h with ⟨b, q⟩ | q
  · rw [q] at h1
    refine ⟨b, tru_of R1 r1 b q, ?_⟩
    cases b with
    | true => exact iteT ⟨g1, s, rfl, R1, S.mono e1, h1⟩
    | false => exact iteF (wpR_here h1 R1 r1)
  · rw [q] at h1; exact h1.elim
theorem se_not (ha : SE X W a ma) : SE X W (.UnaryOp .Not a pos) (mNotV ma) := by
  refine weakE (pe_notT ha) ?_
  rintro σ H Q ⟨g, s, rfl, R, S, h⟩
  refine ⟨g, s, rfl, R, S, wpR_bind h fun g1 t v e1 R1 r1 h1 => ?_⟩
  unfold fNotV at h1
  rcases fTru_ok t g1.h with ⟨b, q⟩ | q
  · rw [q] at h1
    exact ⟨b, tru_of R1 r1 b q, wpR_here h1 R1 rBl⟩
  · rw [q] at h1; exact h1.elim
/-- -x -/
def fNeg : T → MH → R := fun t h => match t with
  | .int i => .ok (.int (-i)) h
  | _ => .stuck
def m1 (f : T → MH → R) (ma : ME) : ME := fun s h => (ma s h).bind f
theorem se_neg (ha : SE X W a ma) : SE X W (.UnaryOp .USub a pos) (m1 fNeg ma) := by
  refine weakE (pe_un un_neg ha) ?_
  rintro σ H Q ⟨g, s, rfl, R, S, h⟩
  refine ⟨g, s, rfl, R, S, wpR_bind h fun g1 t v e1 R1 r1 h1 => ?_⟩
  cases t with
  | int i => rw [rep_int r1]; exact ⟨i, rfl, wpR_here h1 R1 rInt⟩
  | _ => exact h1.elim
/-! ### argument lists, displays -/
inductive RL where
  | ok (ts : List T) (h : MH) | ex (x : Exc) (h : MH) | stuck
abbrev MA := SM → MH → RL
def RL.bind (r : RL) (f : List T → MH → R) : R := match r with
  | .ok t h => f t h
  | .ex x h => .ex x h
  | .stuck => .stuck
def wpL (K : PySem.W.Frag) (mg : Str → Option Value) (W : WX) (g : G) (σ : L2.St) (Q : List V → Hp → Prop) : RL → Prop
  | .ok ts h' => ∀ g' vs, g'.h = h' → Ext g g' → Rel K mg g' → RepL K mg g' ts vs → Q vs g'.H
  | .ex x h' => ∀ g' cls d, g'.h = h' → Ext g g' → Rel K mg g' → RepX K mg g' x cls d → W cls d σ g'.H
  | .stuck => False
def tMA (K : PySem.W.Frag) (mg : Str → Option Value) (W : WX) (m : MA) : TA := fun σ H Q => ∃ g s, g.H = H ∧ Rel K mg g ∧ RepS K mg g s σ ∧ wpL K mg W g σ Q (m s g.h)
abbrev SA (X : Cx) (W : WX) (es : List Expr) (m : MA) : Prop := PA X es (tMA X.K X.mg W m)
def aNil : MA := fun _ h => .ok [] h
def aCons (ma : ME) (mr : MA) : MA := fun s h => match ma s h with
  | .ok t h1 => match mr s h1 with
    | .ok ts h2 => .ok (t :: ts) h2
    | .ex x h2 => .ex x h2
    | .stuck => .stuck
  | .ex x h1 => .ex x h1
  | .stuck => .stuck
theorem sa_nil : SA X W [] aNil := by
  refine weakA pa_nil ?_
  rintro σ H Q ⟨g, s, rfl, R, S, h⟩
  exact h g [] rfl (Ext.refl g) R RepL.nil
theorem wpL.ext {Q : List V → Hp → Prop} {g g' : G} {r : RL} (h : wpL K mg W g σ Q r) (e : Ext g g') : wpL K mg W g' σ Q r := by
  cases r with
  | ok t h' => exact fun g2 v q e2 => h g2 v q (e.trans e2)
  | ex x h' => exact fun g2 c d q e2 => h g2 c d q (e.trans e2)
  | stuck => exact h
theorem sa_cons {es : List Expr} {mr : MA} (ha : SE X W e ma) (hr : SA X W es mr) (hs : starEach (e :: es) X.env = (false, eval e X.env) :: starEach es X.env := by rfl) : SA X W (e :: es) (aCons ma mr) := by
  refine weakA (pa_cons ha hr hs) ?_
  rintro σ H Q ⟨g, s, rfl, R, S, h⟩
  refine ⟨g, s, rfl, R, S, ?_⟩
  unfold aCons at h
  cases q : ma s g.h with
  | ok t h1 =>
    rw [q] at h
    dsimp only at h
    intro g1 v q1 e1 R1 r1
    refine ⟨g1, s, rfl, R1, S.mono e1, ?_⟩
    rw [q1]
    cases q2 : mr s h1 with
    | ok ts h2 =>
      rw [q2] at h
      exact fun g2 vs q3 e2 R2 r2 => h g2 (v :: vs) q3 (e1.trans e2) R2 (RepL.cons (r1.mono e2) r2)
    | ex x h2 =>
      rw [q2] at h
      exact fun g2 c d q3 e2 => h g2 c d q3 (e1.trans e2)
    | stuck => rw [q2] at h; exact h.elim
  | ex x h1 => rw [q] at h; exact h
  | stuck => rw [q] at h; exact h.elim
theorem wpL_of {Q' : List V → Hp → Prop} {r : RL} {f : List T → MH → R} (h : wpR K mg W g σ Q (r.bind f)) (k : ∀ g' ts vs, Ext g g' → Rel K mg g' → RepL K mg g' ts vs → wpR K mg W g' σ Q (f ts g'.h) → Q' vs g'.H) : wpL K mg W g σ Q' r := by
  cases r with
  | ok t h' => exact fun g' v q e R r => k g' t v e R r (by subst q; exact wpR.ext h e)
  | ex x h' => exact h
  | stuck => exact h
def mA (f : List T → MH → R) (mr : MA) : ME := fun s h => (mr s h).bind f
def fTup : List T → MH → R := fun ts h => if ts.length ≤ big then .ok (.tup ts) h else .stuck
def fLst : List T → MH → R := fun ts h => if ts.length ≤ big then .ok (.lst ts) h else .stuck
/-- a tuple of written items; it is known as it stands -/
def tTupX (t : TA) : TE := fun σ H Q => t σ H fun xs H1 => xs.length ≤ sizeLine ∧ ∀ (o : Obj) p, o.dict = none → H1 p = none → Q (.ref p) (upd H1 p (.frz o (.tup xs)))
theorem pe_tupX {es : List Expr} {t : TA} {x1 : Nat} (h : PA X es t) : PE X (.Tuple es x1 pos) (tTupX t) := by
  refine ⟨fun pins s σ H Q I hq => ?_⟩
  refine wpAny_Tuple_spliced (thn (h.run pos pins s σ H _ I hq) fun us s1 ⟨xs, H1, I1, r, z, q⟩ => ⟨by rw [← r.length]; exact z, ?_⟩)
  have hf : H1 s1.heap.objs.size = none := I1.hok.fresh (Nat.le_refl _)
  refine ⟨.ref s1.heap.objs.size, upd H1 s1.heap.objs.size (.frz { cls := .type "tuple", data := .seq us.toArray } (.tup xs)), I1.laid (t' := s1.toks) (fun b u e => Heap.get?_push_of_some _ e) (Nat.le_refl _) ?_, rfl, q _ _ rfl hf⟩
  exact ⟨Heap.get?_push_size _ rfl, z, us, r, ⟨_, Heap.get?_push_size _ rfl, rfl, _, rfl⟩⟩
theorem se_tup {es : List Expr} {mr : MA} {k : Nat} (h : SA X W es mr) : SE X W (.Tuple es k pos) (mA fTup mr) := by
  refine weakE (pe_tupX h) ?_
  rintro σ H Q ⟨g, s, rfl, R, S, h⟩
  refine ⟨g, s, rfl, R, S, wpL_of h fun g1 ts vs e1 R1 r1 h1 => ?_⟩
  unfold fTup at h1
  split at h1
  · rename_i q; exact ⟨big_le (by rw [← r1.length]; exact q), fun o p hd hp => wpR_tup h1 R1 r1 hp hd⟩
  · exact h1.elim
theorem se_lst {es : List Expr} {mr : MA} (h : SA X W es mr) : SE X W (.List es pos) (mA fLst mr) := by
  refine weakE (pe_lst h) ?_
  rintro σ H Q ⟨g, s, rfl, R, S, h⟩
  refine ⟨g, s, rfl, R, S, wpL_of h fun g1 ts vs e1 R1 r1 h1 => ?_⟩
  unfold fLst at h1
  split at h1
  · rename_i q; exact ⟨big_le (by rw [← r1.length]; exact q), fun p hp => wpR_lst h1 R1 r1 hp⟩
  · exact h1.elim
/-! ### a new changeable list -/
theorem ref_lay {o : MO} {p : Addr} {ho : HO} (R : Rel K mg g) (hp : g.H p = none) 
    (ro : ∀ g' : G, Sub g g' → g'.H p = some ho → RepO K mg g' p o) (hno : o ≠ MO.dead) :
    ∃ g' : G, g'.H = upd g.H p ho ∧ g'.h = g.h ++ [o] ∧ Ext g g' ∧ Rel K mg g' ∧ Rep K mg g' (.ref g.h.length) (.ref p) := by
  have len := R.len
  have hn : ∀ i : Nat, ¬ g.live i p := fun i e => by
    obtain ⟨u, q⟩ := R.tr i p e
    rw [hp] at q; cases q
  have hs : Sub g ⟨g.rho ++ [p], g.h ++ [o], g.pv, upd g.H p ho⟩ := by
    refine ⟨fun i a h => ?_, fun a u h n => ⟨by show upd g.H p ho a = some u; rw [upd_ne (ne_of_none h hp)]; exact h, ?_⟩⟩
    · show (g.rho ++ [p])[i]? = some a
      rw [List.getElem?_append_left (List.getElem?_eq_some_iff.mp h).1]; exact h
    · rintro (z | ⟨i, o', h1, h2, h3⟩)
      · exact n (.inl z)
      · have h1' : (g.rho ++ [p])[i]? = some a := h1
        have h2' : (g.h ++ [o])[i]? = some o' := h2
        by_cases l : i < g.rho.length
        · rw [List.getElem?_append_left l] at h1'
          rw [List.getElem?_append_left (by omega)] at h2'
          exact n (.inr ⟨i, o', h1', h2', h3⟩)
        · rw [List.getElem?_append_right (by omega)] at h1'
          have e : a = p := by
            have := List.mem_of_getElem? h1'
            simpa using this
          rw [e, hp] at h; cases h
  have hx : ∀ i a, (g.rho ++ [p])[i]? = some a → (g.rho[i]? = some a ∧ i < g.rho.length) ∨ (i = g.rho.length ∧ a = p) := by
    intro i a h
    by_cases l : i < g.rho.length
    · rw [List.getElem?_append_left l] at h; exact .inl ⟨h, l⟩
    · rw [List.getElem?_append_right (by omega)] at h
      have l2 := (List.getElem?_eq_some_iff.mp h).1
      have e := List.mem_of_getElem? h
      refine .inr ⟨?_, by simpa using e⟩
      simp at l2; omega
  have hv : ∀ i a, G.live ⟨g.rho ++ [p], g.h ++ [o], g.pv, upd g.H p ho⟩ i a → g.live i a ∨ (i = g.rho.length ∧ a = p) := by
    rintro i a ⟨h1, u, h2, h3⟩
    rcases hx i a h1 with ⟨q1, l1⟩ | q
    · have h2' : (g.h ++ [o])[i]? = some u := h2
      rw [List.getElem?_append_left (by omega)] at h2'
      exact .inl ⟨q1, u, h2', h3⟩
    · exact .inr q
  refine ⟨⟨g.rho ++ [p], g.h ++ [o], g.pv, upd g.H p ho⟩, rfl, rfl, ⟨hs.rho, rfl, fun a ha => ?_, hs.keep⟩, ⟨?_, ?_, ?_, ?_, ?_, ?_⟩, ?_⟩
  · obtain ⟨u, e⟩ := R.pvt a ha
    show upd g.H p ho a = g.H a
    rw [upd_ne (ne_of_none e hp)]
  · show (g.rho ++ [p]).length = (g.h ++ [o]).length
    rw [List.length_append, List.length_append, len]; rfl
  · intro i j a h1 h2
    rcases hv i a h1 with q1 | ⟨q1, l1⟩ <;> rcases hv j a h2 with q2 | ⟨q2, l2⟩
    · exact R.inj i j a q1 q2
    · exact absurd q1 (l2 ▸ hn i)
    · exact absurd q2 (l1 ▸ hn j)
    · omega
  · intro a ha i hm
    rcases hv i a hm with q | ⟨_, q⟩
    · exact R.npv a ha i q
    · obtain ⟨u, e⟩ := R.pvt a ha
      rw [q, hp] at e; cases e
  · intro a ha
    obtain ⟨u, e⟩ := R.pvt a ha
    exact ⟨u, by show upd g.H p ho a = some u; rw [upd_ne (ne_of_none e hp)]; exact e⟩
  · intro i a h1
    rcases hv i a h1 with q1 | ⟨q1, l1⟩
    · obtain ⟨u, e⟩ := R.tr i a q1
      exact ⟨u, by show upd g.H p ho a = some u; rw [upd_ne (ne_of_none e hp)]; exact e⟩
    · subst l1; exact ⟨ho, upd_same⟩
  · intro i a o' h1 h2
    have h2' : (g.h ++ [o])[i]? = some o' := h2
    rcases hx i a h1 with ⟨q1, l1⟩ | ⟨q1, l1⟩
    · rw [List.getElem?_append_left (by omega)] at h2'
      exact (R.obj i a o' q1 h2').sub hs fun w hw => by
        show upd g.H p ho a = some w
        rw [upd_ne (ne_of_none hw hp)]; exact hw
    · subst l1
      rw [List.getElem?_append_right (by omega)] at h2'
      have : o' = o := by
        have e := List.mem_of_getElem? h2'
        simpa using e
      subst this
      exact ro _ hs upd_same
  · simp only [Rep]
    refine ⟨p, rfl, ?_⟩
    show (g.rho ++ [p])[g.h.length]? = some p
    rw [← len, List.getElem?_append_right (Nat.le_refl _), Nat.sub_self]; rfl
end
end Mi
end part_Mi2
section part_Mi3
set_option maxRecDepth 100000
set_option maxHeartbeats 2000000
/-! Mi, part 3: built-in functions, subscripts, slices, methods of built-in types, stores. -/
namespace Mi
open PySem PySem.Spec PyProof.Rows L2
section
variable {X : Cx} {K : PySem.W.Frag} {mg : Str → Option Value} {W : WX} {g : G} {σ : L2.St} {Q : VK}
variable {a b c e : Expr} {ma mb mc : ME} {mr : MA} {pos p apos : Pos} {es : List Expr} {x : Str}
/-! ### a changeable object is written -/
theorem put_sub {i : Nat} {q : Addr} {o o' : MO} {ho : HO} (R : Rel K mg g) (h1 : g.rho[i]? = some q) (h2 : g.h[i]? = some o) (h3 : o ≠ MO.dead) (h4 : o' ≠ MO.dead) :
    Sub g { g with h := g.h.set i o', H := upd g.H q ho } := by
  have hq : g.hid q := .inr ⟨i, o, h1, h2, h3⟩
  refine ⟨fun _ _ h => h, fun a u h n => ⟨?_, ?_⟩⟩
  · show upd g.H q ho a = some u
    rw [upd_ne (fun e => n (by rw [e]; exact hq))]; exact h
  · rintro (z | ⟨j, w, z1, z2, z3⟩)
    · exact n (.inl z)
    · have z2' : (g.h.set i o')[j]? = some w := z2
      by_cases e : i = j
      · subst e
        rw [h1] at z1
        cases z1
        exact n hq
      · rw [List.getElem?_set_ne e] at z2'
        exact n (.inr ⟨j, w, z1, z2', z3⟩)
theorem Rel.put {i : Nat} {q : Addr} {o o' : MO} {ho : HO} (R : Rel K mg g) (h1 : g.rho[i]? = some q) (h2 : g.h[i]? = some o) (h3 : o ≠ MO.dead) (h4 : o' ≠ MO.dead)
    (ro : ∀ g' : G, Sub g g' → g'.H q = some ho → RepO K mg g' q o') :
    ∃ g' : G, g'.H = upd g.H q ho ∧ g'.h = g.h.set i o' ∧ Ext g g' ∧ Rel K mg g' := by
  have hs := put_sub (ho := ho) R h1 h2 h3 h4
  have hq : g.hid q := .inr ⟨i, o, h1, h2, h3⟩
  have hpv : ∀ a ∈ g.pv, a ≠ q := fun a ha e => R.npv a ha i (by rw [e]; exact ⟨h1, o, h2, h3⟩)
  have hv : ∀ j a, G.live { g with h := g.h.set i o', H := upd g.H q ho } j a → g.live j a := by
    rintro j a ⟨z1, w, z2, z3⟩
    have z2' : (g.h.set i o')[j]? = some w := z2
    by_cases e : i = j
    · subst e; exact ⟨z1, o, h2, h3⟩
    · rw [List.getElem?_set_ne e] at z2'
      exact ⟨z1, w, z2', z3⟩
  refine ⟨{ g with h := g.h.set i o', H := upd g.H q ho }, rfl, rfl, ⟨hs.rho, rfl, fun a ha => ?_, hs.keep⟩, ⟨?_, fun i j a z1 z2 => R.inj i j a (hv i a z1) (hv j a z2), fun a ha j z => R.npv a ha j (hv j a z), fun a ha => ?_, fun j a ha => ?_, fun j a w z1 z2 => ?_⟩⟩
  · show upd g.H q ho a = g.H a
    rw [upd_ne (hpv a ha)]
  · show g.rho.length = (g.h.set i o').length
    rw [List.length_set]; exact R.len
  · obtain ⟨u, e⟩ := R.pvt a ha
    exact ⟨u, by show upd g.H q ho a = some u; rw [upd_ne (hpv a ha)]; exact e⟩
  · by_cases e : a = q
    · subst e; exact ⟨ho, upd_same⟩
    · obtain ⟨u, eu⟩ := R.tr j a (hv j a ha)
      exact ⟨u, by show upd g.H q ho a = some u; rw [upd_ne e]; exact eu⟩
  · have z2' : (g.h.set i o')[j]? = some w := z2
    by_cases e : i = j
    · subst e
      have z1' : g.rho[i]? = some a := z1
      rw [h1] at z1'
      cases z1'
      have l : i < g.h.length := (List.getElem?_eq_some_iff.mp h2).1
      rw [List.getElem?_set_self l] at z2'
      cases z2'
      exact ro _ hs upd_same
    · rw [List.getElem?_set_ne e] at z2'
      by_cases wd : w = MO.dead
      · subst wd; trivial
      have ne : a ≠ q := fun z => e (R.inj i j q ⟨h1, o, h2, h3⟩ ⟨z ▸ z1, w, z2', wd⟩)
      exact (R.obj j a w z1 z2').sub hs fun u hu => by
        show upd g.H q ho a = some u
        rw [upd_ne ne]; exact hu
/-! ### built-in functions -/
def CallM (X : Cx) (f : List T → MH → R) (r : List V → Hp → VK → Prop) : Prop :=
  ∀ (W : WX) g σ ts vs Q, Rel X.K X.mg g → RepL X.K X.mg g ts vs → wpR X.K X.mg W g σ Q (f ts g.h) → r vs g.H Q
theorem useA {f : List T → MH → R} {r : List V → Hp → VK → Prop} (hm : CallM X f r) {H : Hp} (h : tM X.K X.mg W (mA f mr) σ H Q) : tCB r (tMA X.K X.mg W mr) σ H Q := by
  obtain ⟨g, s, rfl, R, S, h⟩ := h
  exact ⟨g, s, rfl, R, S, wpL_of h fun g1 ts vs e1 R1 r1 h1 => hm W g1 σ ts vs Q R1 r1 h1⟩
theorem se_callB {f : List T → MH → R} {r : List V → Hp → VK → Prop} {id : String} (hc : CallR X (.builtin id) r) (hm : CallM X f r) (hmg : X.mg x = none) (ha : SA X W (e :: es) mr) (hg : Gl X x := by rfl) (hv : bootBuiltins x = some (.builtin id) := by decide +kernel)
    (hn : x ≠ "__name__" := by decide) (hdb : (x == ("__debug__" : Str)) = false := by decide)
    (he : starEach (e :: es) X.env = (false, eval e X.env) :: starEach es X.env := by rfl) (hpl : (backTo pos (starEach es X.env)).any (·.1) = false := by rfl) : SE X W (.Call (.Name x p) (e :: es) [] pos) (mA f mr) :=
  weakE (pe_callB hc hg hmg hv ha hn hdb he hpl) fun _ _ _ h => useA hm h
theorem se_callTy {f : List T → MH → R} {r : List V → Hp → VK → Prop} {id : String} (hc : CallR X (.type id) r) (hm : CallM X f r) (hmg : X.mg x = none) (ha : SA X W (e :: es) mr) (hg : Gl X x := by rfl) (hv : bootBuiltins x = some (.type id) := by decide +kernel)
    (hn : x ≠ "__name__" := by decide) (hdb : (x == ("__debug__" : Str)) = false := by decide)
    (he : starEach (e :: es) X.env = (false, eval e X.env) :: starEach es X.env := by rfl) (hpl : (backTo pos (starEach es X.env)).any (·.1) = false := by rfl) : SE X W (.Call (.Name x p) (e :: es) [] pos) (mA f mr) :=
  weakE (pe_callTy hc hg hmg hv ha hn hdb he hpl) fun _ _ _ h => useA hm h
/-- the items of a list or tuple that stands -/
def seqOf (t : T) (h : MH) : Option (List T) := match t with
  | .tup xs => some xs
  | .lst xs => some xs
  | .frl xs => some xs
  | .ref i => match h[i]? with
    | some (.lst xs) => some xs
    | _ => none
  | _ => none
theorem seq_of {t : T} {v : V} {xs : List T} (R : Rel K mg g) (r : Rep K mg g t v) (h : seqOf t g.h = some xs) : ∃ q vs, v = .ref q ∧ (SqL K g.H q vs ∨ SqT K g.H q vs) ∧ RepL K mg g xs vs := by
  unfold seqOf at h
  cases t with
  | tup ys => cases h; obtain ⟨q, vs, e, h1, l1⟩ := r.sqT; exact ⟨q, vs, e, .inr h1, l1⟩
  | lst ys => cases h; obtain ⟨q, vs, e, h1, l1⟩ := r.sqL; exact ⟨q, vs, e, .inl h1, l1⟩
  | frl ys => cases h; obtain ⟨q, vs, e, h1, l1⟩ := r.sqF; exact ⟨q, vs, e, .inl h1, l1⟩
  | ref i =>
    dsimp only at h
    split at h
    · rename_i ys q
      cases h
      obtain ⟨q, vs, e, _, h1, l1⟩ := R.lst_at r q
      exact ⟨q, vs, e, .inl (SqL.of h1), l1⟩
    · cases h
  | _ => cases h
def isTupT : T → Bool
  | .tup _ => true
  | _ => false
/-- len -/
def fLen : List T → MH → R := fun ts h => match ts with
  | [.str s] => if s.length ≤ big then .ok (.int s.length) h else .stuck
  | [.dct ks vs] => .ok (.int ks.length) h
  | [t] => match seqOf t h with
    | some xs => .ok (.int xs.length) h
    | none => .stuck
  | _ => .stuck
theorem call_lenDF {X : Cx} : CallR X (.builtin "len") (fun xs H Q => ∃ a kvs, xs = [V.ref a] ∧ Rd H a (.dK kvs) ∧ Q (.int kvs.length) H) := by
  intro pins s σ H xs us Q I r h
  obtain ⟨a, kvs, rfl, ha, q⟩ := h
  obtain ⟨u, rfl, ru⟩ := vals1 r
  cases ru
  exact d_len I ha fun t s' I' => ⟨.int kvs.length, H, I', ⟨t, rfl⟩, q⟩
abbrev rLenAll (K : PySem.W.Frag) : List V → Hp → VK → Prop := fun xs H Q => (∃ x n, xs = [x] ∧ LenV K x H n ∧ Q (.int n) H) ∨ (∃ d kvs, xs = [.ref d] ∧ Rd H d (.dK kvs) ∧ Q (.int kvs.length) H)
theorem call_lenAll : CallR X (.builtin "len") (rLenAll X.K) := call_len.or call_lenDF
theorem rep_str1 {s : Str} {vs : List V} (r : RepL K mg g [.str s] vs) : vs = [.str s] := by
  obtain ⟨v, e, h⟩ := r.one
  rw [e, rep_str h]
theorem mLen : CallM X fLen (rLenAll X.K) := by
  intro W g σ ts vs Q R r h
  unfold fLen at h
  split at h
  · rename_i s
    rw [rep_str1 r]
    split at h
    · rename_i q; exact .inl ⟨.str s, s.length, rfl, ⟨big_le q, rfl⟩, wpR_here h R rInt⟩
    · exact h.elim
  · rename_i ks us
    obtain ⟨v, rfl, rv⟩ := r.one
    simp only [Rep] at rv
    obtain ⟨q, kvs, rfl, ⟨h1, _⟩, e2, l1⟩ := rv
    have : ks.length = kvs.length := by rw [e2, List.length_map]
    rw [this] at h
    exact .inr ⟨q, kvs, rfl, .inr h1, wpR_here h R rInt⟩
  · rename_i t _ _
    obtain ⟨v, rfl, rv⟩ := r.one
    split at h
    · rename_i xs q
      obtain ⟨p, vs, rfl, h1, l1⟩ := seq_of R rv q
      rw [l1.length] at h
      refine .inl ⟨.ref p, vs.length, rfl, ?_, wpR_here h R rInt⟩
      rcases h1 with h1 | h1
      · exact .inl ⟨vs, h1, rfl⟩
      · exact .inr ⟨vs, h1, rfl⟩
    · exact h.elim
  · exact h.elim
/-- int(x), str(n), tuple(xs), list(xs) -/
def fInt : List T → MH → R := fun ts h => match ts with
  | [.int i] => .ok (.int i) h
  | [.bl b] => .ok (.int (if b then 1 else 0)) h
  | [.str s] => match PySem.intText? s with
    | some n => if s.length ≤ 640 then .ok (.int n) h else .stuck
    | none => .stuck
  | _ => .stuck
abbrev rIntAll : List V → Hp → VK → Prop := fun xs H Q => ((∃ i, xs = [.int i] ∧ Q (.int i) H) ∨ ∃ k, xs = [.bl k] ∧ Q (.int (if k then 1 else 0)) H) ∨ (∃ a n, xs = [.str a] ∧ PySem.intText? a = some n ∧ a.length ≤ 640 ∧ Q (.int n) H)
theorem call_intAll : CallR X (.type "int") rIntAll := call_int1.or call_int_str
theorem mInt : CallM X fInt rIntAll := by
  intro W g σ ts vs Q R r h
  unfold fInt at h
  split at h
  · obtain ⟨v, rfl, rv⟩ := r.one; rw [rep_int rv]; exact .inl (.inl ⟨_, rfl, wpR_here h R rInt⟩)
  · obtain ⟨v, rfl, rv⟩ := r.one; rw [rep_bl rv]; exact .inl (.inr ⟨_, rfl, wpR_here h R rInt⟩)
  · rename_i s
    rw [rep_str1 r]
    split at h
    · rename_i n q
      split at h
      · rename_i z; exact .inr ⟨s, n, rfl, q, z, wpR_here h R rInt⟩
      · exact h.elim
    · exact h.elim
  · exact h.elim
def fTuple : List T → MH → R := fun ts h => match ts with
  | [t] => match seqOf t h with
    | some xs => .ok (.tup xs) h
    | none => .stuck
  | _ => .stuck
def fList : List T → MH → R := fun ts h => match ts with
  | [t] => match seqOf t h with
    | some xs => .ok (.lst xs) h
    | none => .stuck
  | _ => .stuck
theorem mList : CallM X fList (fun xs H Q => ∃ p ys, xs = [.ref p] ∧ (SqL X.K H p ys ∨ SqT X.K H p ys) ∧ ∀ l, H l = none → Q (.ref l) (upd H l (.lst ys))) := by
  intro W g σ ts vs Q R r h
  unfold fList at h
  split at h
  · obtain ⟨v, rfl, rv⟩ := r.one
    split at h
    · rename_i xs q
      obtain ⟨p, vs, rfl, h1, l1⟩ := seq_of R rv q
      exact ⟨p, vs, rfl, h1, fun l hl => wpR_lst h R l1 hl⟩
    · exact h.elim
  · exact h.elim
/-- lists of one kind of thing -/
def blsOf : List T → Option (List Bool)
  | [] => some []
  | .bl b :: ts => (blsOf ts).map (b :: ·)
  | _ :: _ => none
def strsOf : List T → Option (List Str)
  | [] => some []
  | .str b :: ts => (strsOf ts).map (b :: ·)
  | _ :: _ => none
theorem bls_of : ∀ {ts : List T} {vs : List V} {bs : List Bool}, RepL K mg g ts vs → blsOf ts = some bs → vs = bs.map V.bl
  | [], vs, bs, r, h => by
    simp only [RepL] at r
    simp only [blsOf] at h
    cases h; exact r
  | t :: ts, vs, bs, r, h => by
    simp only [RepL] at r
    obtain ⟨v, w, rfl, r1, r2⟩ := r
    cases t with
    | bl b =>
      simp only [blsOf] at h
      cases q : blsOf ts with
      | none => rw [q] at h; cases h
      | some cs =>
        rw [q] at h; cases h
        rw [rep_bl r1, bls_of r2 q]; rfl
    | _ => simp only [blsOf] at h; cases h
theorem strs_of : ∀ {ts : List T} {vs : List V} {bs : List Str}, RepL K mg g ts vs → strsOf ts = some bs → vs = bs.map V.str
  | [], vs, bs, r, h => by
    simp only [RepL] at r
    simp only [strsOf] at h
    cases h; exact r
  | t :: ts, vs, bs, r, h => by
    simp only [RepL] at r
    obtain ⟨v, w, rfl, r1, r2⟩ := r
    cases t with
    | str b =>
      simp only [strsOf] at h
      cases q : strsOf ts with
      | none => rw [q] at h; cases h
      | some cs =>
        rw [q] at h; cases h
        rw [rep_str r1, strs_of r2 q]; rfl
    | _ => simp only [strsOf] at h; cases h
/-- a new or standing list (no tuple) -/
def lstOf (t : T) (h : MH) : Option (List T) := match t with
  | .lst xs => some xs
  | .frl xs => some xs
  | .ref i => match h[i]? with
    | some (.lst xs) => some xs
    | _ => none
  | _ => none
theorem lst_of {t : T} {v : V} {xs : List T} (R : Rel K mg g) (r : Rep K mg g t v) (h : lstOf t g.h = some xs) : ∃ q vs, v = .ref q ∧ SqL K g.H q vs ∧ RepL K mg g xs vs := by
  unfold lstOf at h
  cases t with
  | lst ys => cases h; exact r.sqL
  | frl ys => cases h; exact r.sqF
  | ref i =>
    dsimp only at h
    split at h
    · rename_i ys q
      cases h
      obtain ⟨q, vs, e, _, h1, l1⟩ := R.lst_at r q
      exact ⟨q, vs, e, SqL.of h1, l1⟩
    · cases h
  | _ => cases h
def fBls (f : List Bool → Bool) : List T → MH → R := fun ts h => match ts with
  | [t] => match lstOf t h with
    | some xs => match blsOf xs with
      | some bs => .ok (.bl (f bs)) h
      | none => .stuck
    | none => .stuck
  | _ => .stuck
theorem mBls {f : List Bool → Bool} : CallM X (fBls f) (fun vs H Q => ∃ (a : Addr) (bs : List Bool), vs = [V.ref a] ∧ SqL X.K H a (bs.map V.bl) ∧ Q (.bl (f bs)) H) := by
  intro W g σ ts vs Q R r h
  unfold fBls at h
  split at h
  · obtain ⟨v, rfl, rv⟩ := r.one
    split at h
    · rename_i xs q
      obtain ⟨p, vs, rfl, h1, l1⟩ := lst_of R rv q
      split at h
      · rename_i bs z
        rw [bls_of l1 z] at h1
        exact ⟨p, bs, rfl, h1, wpR_here h R rBl⟩
      · exact h.elim
    · exact h.elim
  · exact h.elim
def fAll := fBls fun bs => bs.all id
theorem mAll : CallM X fAll (rAll X.K) := mBls
/-! ### subscripts -/
def fIx : T → T → MH → R := fun t u h => match u with
  | .int i => match t with
    | .str s => if s.length ≤ big then (match atI s.cps.toList i with
      | some c => .ok (.str ⟨#[c]⟩) h
      | none => .stuck) else .stuck
    | _ => match seqOf t h with
      | some xs => match atI xs i with
        | some z => .ok z h
        | none => .stuck
      | none => .stuck
  | _ => .stuck
theorem at_of {xs : List T} {vs : List V} {i : Int} {t : T} (r : RepL K mg g xs vs) (h : atI xs i = some t) : ∃ v, atI vs i = some v ∧ Rep K mg g t v := by
  unfold atI at h ⊢
  rw [← r.length]
  cases q : ixN xs.length i with
  | none => rw [q] at h; cases h
  | some j =>
    rw [q] at h
    exact r.get h
theorem mIx : OpM X fIx (rIx X.K) := by
  intro W g σ t u x y Q R r1 r2 h
  unfold fIx at h
  split at h
  · rename_i i
    rw [rep_int r2]
    split at h
    · rename_i s
      rw [rep_str r1]
      split at h
      · rename_i q
        split at h
        · rename_i c z
          exact .inr (.inr ⟨s, i, c, rfl, rfl, big_le q, z, wpR_here h R rStr⟩)
        · exact h.elim
      · exact h.elim
    · split at h
      · rename_i xs q
        obtain ⟨p, vs, rfl, h1, l1⟩ := seq_of R r1 q
        split at h
        · rename_i z hz
          obtain ⟨v, e1, rv⟩ := at_of l1 hz
          rcases h1 with h1 | h1
          · exact .inl ⟨p, vs, i, v, rfl, rfl, h1, e1, wpR_here h R rv⟩
          · exact .inr (.inl ⟨p, vs, i, v, rfl, rfl, h1, e1, wpR_here h R rv⟩)
        · exact h.elim
      · exact h.elim
  · exact h.elim
theorem se_ix (ha : SE X W a ma) (hb : SE X W b mb) (hs : PlainIx b := by exact fun _ _ => rfl) : SE X W (.Subscript a b pos) (m2 fIx ma mb) :=
  weakE (pe_ix ix_seq ha hb hs) fun _ _ _ h => use2 mIx h
/-! ### slices -/
def wpO (K : PySem.W.Frag) (mg : Str → Option Value) (W : WX) (g : G) (σ : L2.St) (Q : Option Int → Hp → Prop) : R → Prop
  | .ok (.int i) h' => ∀ g', g'.h = h' → Ext g g' → Rel K mg g' → Q (some i) g'.H
  | .ok .non h' => ∀ g', g'.h = h' → Ext g g' → Rel K mg g' → Q none g'.H
  | .ok _ _ => False
  | .ex x h' => ∀ g' cls d, g'.h = h' → Ext g g' → Rel K mg g' → RepX K mg g' x cls d → W cls d σ g'.H
  | .stuck => False
def tMO (K : PySem.W.Frag) (mg : Str → Option Value) (W : WX) (m : ME) : TO := fun σ H Q => ∃ g s, g.H = H ∧ Rel K mg g ∧ RepS K mg g s σ ∧ wpO K mg W g σ Q (m s g.h)
theorem weakO {X : Cx} {e : Option Expr} {t t' : TO} (h : PO X e t) (k : ∀ σ H Q, t' σ H Q → t σ H Q) : PO X e t' := ⟨fun pins s σ H Q I q => h.run pins s σ H Q I (k σ H Q q)⟩
def fPart : T → MH → R := fun t h => match t with
  | .int i => .ok (.int i) h
  | _ => .stuck
theorem so_none : PO X none (tMO X.K X.mg W (mC .non)) := by
  refine weakO po_none ?_
  rintro σ H Q ⟨g, s, rfl, R, S, h⟩
  exact h g rfl (Ext.refl g) R
theorem wpO_bind {Q : Option Int → Hp → Prop} {Q' : VK} {r : R} (h : wpO K mg W g σ Q (r.bind fPart)) (k : ∀ g' i v, Ext g g' → Rel K mg g' → Rep K mg g' (.int i) v → Q (some i) g'.H → Q' v g'.H) : wpR K mg W g σ Q' r := by
  cases r with
  | ok t h' =>
    cases t with
    | int i => exact fun g' v q e R r => k g' i v e R r (h g' q e R)
    | _ => exact h.elim
  | ex x h' => exact h
  | stuck => exact h.elim
theorem so_some (ha : SE X W a ma) : PO X (some a) (tMO X.K X.mg W (m1 fPart ma)) := by
  refine weakO (po_some ha) ?_
  rintro σ H Q ⟨g, s, rfl, R, S, h⟩
  exact ⟨g, s, rfl, R, S, wpO_bind h fun g1 i v e1 R1 r1 q => ⟨i, rep_int r1, q⟩⟩
def cutT (xs : List T) (lo hi : Option Int) : List T := (xs.drop (HT.sIx xs.length 0 lo)).take (HT.sIx xs.length xs.length hi - HT.sIx xs.length 0 lo)
theorem cut_of {xs : List T} {vs : List V} {lo hi : Option Int} (r : RepL K mg g xs vs) : RepL K mg g (cutT xs lo hi) (cutV vs lo hi) := by
  unfold cutT cutV
  rw [r.length]
  exact (r.drop _).take _
def oInt : T → Option Int
  | .int i => some i
  | _ => none
def fSl : T → T → T → MH → R := fun t l u h => match t with
  | .str s => if s.length ≤ big then .ok (.str (cutS s (oInt l) (oInt u))) h else .stuck
  | .tup xs => .ok (.tup (cutT xs (oInt l) (oInt u))) h
  | _ => match lstOf t h with
    | some xs => .ok (.lst (cutT xs (oInt l) (oInt u))) h
    | none => .stuck
def mSl (mt ml mu : ME) : ME := fun s h => (mt s h).bind fun t h1 => (ml s h1).bind fun l h2 => (mu s h2).bind fun u h3 => fSl t l u h3
/-- what a slice's part is, as a value of the mirror -/
theorem wpR_part {Q' : Option Int → Hp → Prop} {r : R} {f : T → MH → R} (h : wpR K mg W g σ Q (r.bind f)) (hok : ∀ t h', r = .ok t h' → t = .non ∨ ∃ i, t = .int i) (k : ∀ g' t, Ext g g' → Rel K mg g' → wpR K mg W g' σ Q (f t g'.h) → Q' (oInt t) g'.H) : wpO K mg W g σ Q' r := by
  cases r with
  | ok t h' =>
    rcases hok t h' rfl with e | ⟨i, e⟩
    · subst e; exact fun g' q e R => k g' .non e R (by subst q; exact wpR.ext h e)
    · subst e; exact fun g' q e R => k g' (.int i) e R (by subst q; exact wpR.ext h e)
  | ex x h' => exact h
  | stuck => exact h
def PartM (m : ME) : Prop := ∀ s h t h', m s h = .ok t h' → t = .non ∨ ∃ i, t = .int i
theorem part_none : PartM (mC .non) := fun s h t h' e => by cases e; exact .inl rfl
theorem part_some {m : ME} : PartM (m1 fPart m) := fun s h t h' e => by
  unfold m1 R.bind fPart at e
  split at e
  · split at e
    · cases e; exact .inr ⟨_, rfl⟩
    · cases e
  · cases e
  · cases e
/-- t[lo:hi], a new one is known as it stands -/
def rSlX (K : PySem.W.Frag) : V → Option Int → Option Int → Hp → VK → Prop := fun x lo hi H Q => ∃ a xs, x = .ref a ∧ SqT K H a xs ∧
  (HT.sIx xs.length 0 lo = 0 ∧ HT.sIx xs.length xs.length hi = xs.length → Q (.ref a) H) ∧ (¬ (HT.sIx xs.length 0 lo = 0 ∧ HT.sIx xs.length xs.length hi = xs.length) → ∀ (o : Obj) p, o.dict = none → H p = none → Q (.ref p) (upd H p (.frz o (.tup (cutV xs lo hi)))))
theorem sl_tupX : SlR X (rSlX X.K) := by
  intro pins s σ H x v vl vu lo hi sl Q I rx hs pl pu h
  obtain ⟨a, xs, rfl, hx, q1, q2⟩ := h
  cases rx
  obtain ⟨its, r, ht, hz⟩ := I.tuple hx
  have hlen : its.toArray.size = xs.length := by rw [List.size_toArray]; exact r.length.symm
  refine ⟨"tuple", _, PyProof.Rows.slot_tuple_getitem.lookup, ht.typeIs, ?_⟩
  by_cases hw : HT.sIx xs.length 0 lo = 0 ∧ HT.sIx xs.length xs.length hi = xs.length
  · exact getItem_tuple_whole ht hs pl pu (by rw [hlen]; exact hw) ⟨.ref a, H, I, rfl, q1 hw⟩
  · refine HT.getItem_tuple_cut ht hs pl pu (by rw [hlen]; exact hw) ?_ (by rw [hlen]; exact hz)
    rw [hlen]
    refine ⟨.ref s.heap.objs.size, _, I.laid (t' := s.toks) (o := .frz { cls := .type "tuple", data := .seq ((its.drop (HT.sIx xs.length 0 lo)).take (HT.sIx xs.length xs.length hi - HT.sIx xs.length 0 lo)).toArray } (.tup (cutV xs lo hi))) (fun b ob q => Heap.get?_push_of_some _ q) (Nat.le_refl _) ?_, rfl, q2 hw _ _ rfl (I.hok.fresh (Nat.le_refl _))⟩
    refine ⟨?_, Nat.le_trans (cutV_length xs lo hi) hz, _, (r.drop (HT.sIx xs.length 0 lo)).take (HT.sIx xs.length xs.length hi - HT.sIx xs.length 0 lo), IsTup.new _ _⟩
    first | exact Heap.get?_push_size _ rfl | (rw [Heap.get?_push_size _ rfl])
theorem se_slice {lo hi : Option Expr} {p2 : Pos} {ml mu : ME} (ha : SE X W a ma) (hl : PO X lo (tMO X.K X.mg W ml)) (hu : PO X hi (tMO X.K X.mg W mu)) (pl : PartM ml) (pu : PartM mu) :
    SE X W (.Subscript a (.Slice lo hi none p2) pos) (mSl ma ml mu) := by
  refine weakE (pe_slice (sl_str.or (sl_tupX.or sl_list)) ha hl hu) ?_
  rintro σ H Q ⟨g, s, rfl, R, S, h⟩
  refine ⟨g, s, rfl, R, S, wpR_bind h fun g1 t v e1 R1 r1 h1 => ⟨g1, s, rfl, R1, S.mono e1, wpR_part h1 (pl s g1.h) fun g2 l e2 R2 h2 => ⟨g2, s, rfl, R2, S.mono (e1.trans e2), wpR_part h2 (pu s g2.h) fun g3 u e3 R3 h3 => ?_⟩⟩⟩
  have r3 := (r1.mono e2).mono e3
  unfold fSl at h3
  split at h3
  · rename_i z
    rw [rep_str r3]
    split at h3
    · rename_i q; exact .inl ⟨z, rfl, big_le q, wpR_here h3 R3 rStr⟩
    · exact h3.elim
  · rename_i xs
    have r3' := r3
    obtain ⟨p, vs, rfl, hp, lp⟩ := r3.sqT
    refine .inr (.inl ⟨p, vs, rfl, hp, fun hw => ?_, fun hw o q hd hq => wpR_tup h3 R3 (cut_of lp) hq hd⟩)
    have e : cutT xs (oInt l) (oInt u) = xs := by
      unfold cutT
      rw [lp.length, hw.1, hw.2]
      rw [List.drop_zero, Nat.sub_zero, ← lp.length, List.take_length]
    rw [e] at h3
    exact wpR_here h3 R3 r3'
  · split at h3
    · rename_i xs q
      obtain ⟨p, vs, rfl, hp, lp⟩ := lst_of R3 r3 q
      exact .inr (.inr ⟨p, vs, rfl, hp, fun q hq => wpR_lst h3 R3 (cut_of lp) hq⟩)
    · exact h3.elim
/-! ### methods of built-in types -/
def tyOK (T' : String) (t : T) (h : MH) : Bool := match t with
  | .str _ => T' == "str"
  | .lst _ => T' == "list"
  | .frl _ => T' == "list"
  | .dct _ _ => false
  | .ref i => match h[i]? with
    | some (.lst _) => T' == "list"
    | some (.dct _ _) => T' == "dict"
    | _ => false
  | _ => false
theorem tyV_of {T' : String} {t : T} {v : V} (R : Rel K mg g) (r : Rep K mg g t v) (h : tyOK T' t g.h = true) : tyV K T' v g.H := by
  unfold tyOK at h
  cases t with
  | str s => rw [rep_str r]; exact beq_iff_eq.mp h
  | lst xs => obtain ⟨p, vs, rfl, h1, _⟩ := r.sqL; exact .inl ⟨beq_iff_eq.mp h, vs, h1⟩
  | frl xs => obtain ⟨p, vs, rfl, h1, _⟩ := r.sqF; exact .inl ⟨beq_iff_eq.mp h, vs, h1⟩
  | dct ks vs => cases h
  | ref i =>
    dsimp only at h
    split at h
    · rename_i xs q
      obtain ⟨p, vs, rfl, _, h1, _⟩ := R.lst_at r q
      exact .inl ⟨beq_iff_eq.mp h, vs, SqL.of h1⟩
    · rename_i ks ts q
      simp only [Rep] at r
      obtain ⟨p, rfl, hp⟩ := r
      obtain ⟨kvs, h1, _⟩ := R.obj i p _ hp q
      exact .inr (.inr (.inl ⟨beq_iff_eq.mp h, .inl ⟨kvs, h1⟩⟩))
    · cases h
  | _ => cases h
def MeM (X : Cx) (f : T → List T → MH → R) (r : V → List V → Hp → VK → Prop) : Prop :=
  ∀ (W : WX) g σ t ts x vs Q, Rel X.K X.mg g → Rep X.K X.mg g t x → RepL X.K X.mg g ts vs → wpR X.K X.mg W g σ Q (f t ts g.h) → r x vs g.H Q
def mMe (T' : String) (f : T → List T → MH → R) (mo : ME) (mr : MA) : ME := fun s h => (mo s h).bind fun t h1 => if tyOK T' t h1 then (mr s h1).bind fun ts h2 => f t ts h2 else .stuck
theorem se_bm {T' id : String} {name : Str} {f : T → List T → MH → R} {r : V → List V → Hp → VK → Prop} (pa : PlainAttrs T') (slot : Slot T' name id) (hty : typeOf (.builtin id) = pure (.type "method_descriptor")) (hm : MtR X id r) (hf : MeM X f r) (ho : SE X W a ma) (ha : SA X W (e :: es) mr)
    (hbase : attributeBase a name X.env (eval a X.env) = eval a X.env := by rfl)
    (hfew : ((backTo pos (starEach (e :: es) X.env)).all (fun x => !x.1) && (backToKw pos (keywordEach [] X.env)).all (fun x => x.1.isSome)
      && decide ((e :: es).length + ([] : List Keyword).length + (if ([] : List Keyword).isEmpty then 0 else 1) < 30)) = true := by rfl)
    (hline : (apos.endLine == pos.line) = true := by rfl) (hs : starEach (e :: es) X.env = (false, eval e X.env) :: starEach es X.env := by rfl) (hplain : (backTo pos (starEach es X.env)).any (·.1) = false := by rfl) :
    SE X W (.Call (.Attribute a name apos) (e :: es) [] pos) (mMe T' f ma mr) := by
  refine weakE (pe_bm pa slot hty hm ho ha hbase hfew hline hs hplain) ?_
  rintro σ H Q ⟨g, s, rfl, R, S, h⟩
  refine ⟨g, s, rfl, R, S, wpR_bind h fun g1 t v e1 R1 r1 h1 => ?_⟩
  split at h1
  · rename_i q
    exact ⟨tyV_of R1 r1 q, g1, s, rfl, R1, S.mono e1, wpL_of h1 fun g2 ts vs e2 R2 r2 h2 => hf W g2 σ t ts v vs Q R2 (r1.mono e2) r2 h2⟩
  · exact h1.elim
/-- xs.append(v) of a changeable list -/
def liveL (t : T) (h : MH) : Option (Nat × List T) := match t with
  | .ref i => match h[i]? with
    | some (.lst xs) => some (i, xs)
    | _ => none
  | _ => none
theorem live_of {t : T} {v : V} {i : Nat} {xs : List T} (R : Rel K mg g) (r : Rep K mg g t v) (h : liveL t g.h = some (i, xs)) : ∃ p vs, v = .ref p ∧ g.rho[i]? = some p ∧ g.h[i]? = some (.lst xs) ∧ g.H p = some (.lst vs) ∧ RepL K mg g xs vs := by
  unfold liveL at h
  split at h
  · rename_i j
    split at h
    · rename_i ys q
      cases h
      obtain ⟨p, vs, e, e2, h1, l1⟩ := R.lst_at r q
      exact ⟨p, vs, e, e2, q, h1, l1⟩
    · cases h
  · cases h
/-- a changeable list is written -/
theorem wpR_put {t : T} {v : V} {i : Nat} {q : Addr} {xs ys : List T} {ws : List V} (h : wpR K mg W g σ Q (.ok t (g.h.set i (.lst ys)))) (R : Rel K mg g) (h1 : g.rho[i]? = some q) (h2 : g.h[i]? = some (.lst xs)) (r : RepL K mg g ys ws) (rv : Rep K mg g t v) : Q v (upd g.H q (.lst ws)) := by
  obtain ⟨g', e1, e2, ex, R'⟩ := R.put (o' := .lst ys) (ho := .lst ws) h1 h2 (by intro z; cases z) (by intro z; cases z) (fun g2 s2 hq => ⟨ws, hq, r.sub s2⟩)
  rw [← e1]
  exact h g' v e2 ex R' (rv.mono ex)
def fAppend : T → List T → MH → R := fun t ts h => match ts with
  | [y] => match liveL t h with
    | some (i, xs) => if xs.length < big then .ok .non (h.set i (.lst (xs ++ [y]))) else .stuck
    | none => .stuck
  | _ => .stuck
theorem big_lt {n : Nat} (h : n < big) : n < sizeLine := Nat.lt_of_lt_of_le h (big_le (Nat.le_refl _))
theorem meAppend : MeM X fAppend rAppend := by
  intro W g σ t ts x vs Q R r rs h
  unfold fAppend at h
  split at h
  · rename_i y
    obtain ⟨v, rfl, rv⟩ := rs.one
    split at h
    · rename_i i xs q
      obtain ⟨p, ws, rfl, hp, hh, h1, l1⟩ := live_of R r q
      split at h
      · rename_i z
        exact ⟨p, ws, v, rfl, rfl, h1, big_lt (by rw [← l1.length]; exact z), wpR_put h R hp hh (l1.append (RepL.cons rv RepL.nil)) rNon⟩
      · exact h.elim
    · exact h.elim
  · exact h.elim
def fJoin : T → List T → MH → R := fun t ts h => match t, ts with
  | .str a, [u] => match seqOf u h with
    | some xs => match strsOf xs with
      | some ys => if (ys.map (·.length)).sum + ys.length * a.length ≤ big then .ok (.str (Txt.join a ys)) h else .stuck
      | none => .stuck
    | none => .stuck
  | _, _ => .stuck
theorem meJoin : MeM X fJoin (fun x xs H Q => ∃ a p, ∃ ys : List Str, x = .str a ∧ xs = [.ref p] ∧ (SqL X.K H p (ys.map V.str) ∨ SqT X.K H p (ys.map V.str)) ∧
    (ys.map (·.length)).sum + ys.length * a.length ≤ 16777216 ∧ Q (.str (Txt.join a ys)) H) := by
  intro W g σ t ts x vs Q R r rs h
  unfold fJoin at h
  split at h
  · rename_i a u
    obtain ⟨v, rfl, rv⟩ := rs.one
    rw [rep_str r]
    split at h
    · rename_i xs q
      obtain ⟨p, ws, rfl, h1, l1⟩ := seq_of R rv q
      split at h
      · rename_i ys z
        rw [strs_of l1 z] at h1
        split at h
        · rename_i sz
          exact ⟨a, p, ys, rfl, rfl, h1, Nat.le_trans sz (by decide), wpR_here h R rStr⟩
        · exact h.elim
      · exact h.elim
    · exact h.elim
  · exact h.elim
end
end Mi
end part_Mi3
section part_Mi4
set_option maxRecDepth 100000
set_option maxHeartbeats 2000000
set_option maxHeartbeats 1000000 in
/-! Mi, part 4: what a for or a comprehension walks. -/
namespace Mi
open PySem PySem.Spec PyProof.Rows L2
/-- a source of items: a list, a tuple, a text -/
inductive Sk where
  | L (a : Addr) | Tp (a : Addr) | S (x : Str)
def Sk.v : Sk → V
  | .L a => .ref a
  | .Tp a => .ref a
  | .S x => .str x
def sgn (x : Str) : List V := x.cps.toList.map fun c => V.str ⟨#[c]⟩
def Sk.at (K : PySem.W.Frag) (H : Hp) (vs : List V) : Sk → Prop
  | .L a => SqL K H a vs
  | .Tp a => SqT K H a vs
  | .S x => vs = sgn x
def Sk.iter (it : Addr) (i : Nat) (h : Heap) : Sk → Prop
  | .L a => h.IsListIter it a i
  | .Tp a => h.IsTupleIter it a i
  | .S x => ∃ t, h.IsStrIter it (strIterType x) x t i
/-- what the source's step leans on -/
structure SkD (P : Program) (w : World) (A : Around) (it : Addr) (sk : Sk) (vs : List V) (i : Nat) (h : Heap) (fp : List Addr) (Pv : Nat → Value → Prop) (St : Nat → Heap → Prop) : Prop where
  D : Draws P w A it fp vs.length Pv St
  st : St i h
  rel : ∀ j u, Pv j u → ∃ x, vs[j]? = some x ∧ RelV x u
  back : ∀ j h', St j h' → sk.iter it j h'
  mem : it ∈ fp
theorem sk_it {K : PySem.W.Frag} {sk : Sk} {it : Addr} {i : Nat} {h h' : Heap} (s : sk.iter it i h) (k : ∀ o, h.get? it = some o → h'.get? it = some o) : sk.iter it i h' := by
  cases sk with
  | L a => exact Heap.IsListIter.at s k
  | Tp a => exact Heap.IsTupleIter.at s k
  | S x => obtain ⟨t, o, ho, r⟩ := s; exact ⟨t, o, k o ho, r⟩
theorem sk_obj {sk : Sk} {it : Addr} {i : Nat} {h : Heap} (s : sk.iter it i h) : ∃ o, h.get? it = some o ∧ ∀ v, o.data ≠ .cell v := by
  cases sk with
  | L a => obtain ⟨o, ho, hc, hd⟩ := s; exact ⟨o, ho, fun v q => by rw [hd] at q; cases q⟩
  | Tp a => obtain ⟨o, ho, hc, hd⟩ := s; exact ⟨o, ho, fun v q => by rw [hd] at q; cases q⟩
  | S x => obtain ⟨t, o, ho, hc, hd⟩ := s; exact ⟨o, ho, fun v q => by rw [hd] at q; cases q⟩
section
variable {X : Cx} {pins : List (Addr × Obj)} {σ : L2.St} {H : Hp} {s : Shared}
/-- an iterator's own cell is no list or tuple that is read -/
theorem fp_neL (I : Inv X pins σ H s) {b a : Addr} {vs : List V} (f : FpOk X pins H b) (h : SqL X.K H a vs) : a ≠ b := by
  rintro rfl
  rcases h with h | ⟨o, _, _, h, _⟩
  · rcases h with h | ⟨o, h⟩ <;> rw [f.1] at h <;> cases h
  · have hb := I.mod.kin _ _ h
    rcases f.2.2.2.1 with z | z
    · exact I.ok.noex _ o hb z
    · exact absurd (Nat.lt_of_lt_of_le (Heap.lt_size (I.ok.bs _ o hb).1) z) (Nat.lt_irrefl _)
theorem fp_neT (I : Inv X pins σ H s) {b a : Addr} {vs : List V} (f : FpOk X pins H b) (h : SqT X.K H a vs) : a ≠ b := by
  rintro rfl
  rcases h with h | ⟨o, _, _, h, _⟩
  · rcases h with h | ⟨o, h⟩ <;> rw [f.1] at h <;> cases h
  · have hb := I.mod.kin _ _ h
    rcases f.2.2.2.1 with z | z
    · exact I.ok.noex _ o hb z
    · exact absurd (Nat.lt_of_lt_of_le (Heap.lt_size (I.ok.bs _ o hb).1) z) (Nat.lt_irrefl _)
def Sk.ads : Sk → List Addr
  | .L a => [a]
  | .Tp a => [a]
  | .S _ => []
theorem sk_draws (I : Inv X pins σ H s) (hc : X.calm = true) {sk : Sk} {vs : List V} {it : Addr} {i : Nat} (hs : sk.at X.K H vs) (hi : sk.iter it i s.heap) (f : FpOk X pins H it) :
    ∃ Pv St, SkD X.prog X.w X.A.in1 it sk vs i s.heap (it :: sk.ads) Pv St := by
  have hh : X.A.in1.handled = none := I.ok.hd hc
  cases sk with
  | L a =>
    obtain ⟨its, rv, p, hz⟩ := I.list hs
    have e : its.toArray.size = vs.length := by rw [List.size_toArray]; exact rv.length.symm
    refine ⟨fun j v => its.toArray[j]? = some v, fun i h => h.IsListIter it a i ∧ h.IsList a its.toArray, ⟨e ▸ Draws.list hh it a (fp_neL I f hs) its.toArray, ⟨hi, p.isList⟩, fun j u h => ?_, fun j h' st => st.1, List.mem_cons_self⟩⟩
    have h' : its[j]? = some u := by simpa using h
    have l : j < vs.length := by rw [rv.length]; exact (List.getElem?_eq_some_iff.mp h').1
    obtain ⟨u', e1, r⟩ := rv.get (List.getElem?_eq_getElem l)
    rw [h'] at e1; cases e1
    exact ⟨_, List.getElem?_eq_getElem l, r⟩
  | Tp a =>
    obtain ⟨its, rv, p, hz⟩ := I.tuple hs
    have e : its.toArray.size = vs.length := by rw [List.size_toArray]; exact rv.length.symm
    refine ⟨fun j v => its.toArray[j]? = some v, fun i h => h.IsTupleIter it a i ∧ h.IsTuple a its.toArray, ⟨e ▸ Draws.tuple hh it a (fp_neT I f hs) its.toArray, ⟨hi, show s.heap.IsTuple a its.toArray from p⟩, fun j u h => ?_, fun j h' st => st.1, List.mem_cons_self⟩⟩
    have h' : its[j]? = some u := by simpa using h
    have l : j < vs.length := by rw [rv.length]; exact (List.getElem?_eq_some_iff.mp h').1
    obtain ⟨u', e1, r⟩ := rv.get (List.getElem?_eq_getElem l)
    rw [h'] at e1; cases e1
    exact ⟨_, List.getElem?_eq_getElem l, r⟩
  | S x =>
    obtain ⟨t, hi⟩ := hi
    have hs' : vs = sgn x := hs
    have e : x.cps.size = vs.length := by rw [hs']; unfold sgn; rw [List.length_map, Array.length_toList]
    refine ⟨fun j v => ∃ c u, x.cps[j]? = some c ∧ v = .str ⟨#[c]⟩ u, fun i h => h.IsStrIter it (strIterType x) x t i, ⟨e ▸ Draws.text hh it x t, hi, fun j u h => ?_, fun j h' st => ⟨t, st⟩, List.mem_cons_self⟩⟩
    obtain ⟨c, w, h1, rfl⟩ := h
    refine ⟨.str ⟨#[c]⟩, ?_, ⟨w, rfl⟩⟩
    rw [hs']; unfold sgn
    rw [List.getElem?_map, Array.getElem?_toList, h1]; rfl
/-- iter(v) of a source -/
theorem sk_begins (I : Inv X pins σ H s) {sk : Sk} {vs : List V} {u : Value} (hs : sk.at X.K H vs) (r : RelV sk.v u) :
    ∃ (o : Obj) (Hp' : Heap → Prop), PySem.Begins u o Hp' ∧ Hp' s.heap ∧ ∀ h' it, h'.get? it = some o → sk.iter it 0 h' := by
  cases sk with
  | L a =>
    cases r
    obtain ⟨its, rv, p, hz⟩ := I.list hs
    exact ⟨_, _, begins_list a its.toArray, p.isList, fun h' it e => ⟨_, e, rfl, rfl⟩⟩
  | Tp a =>
    cases r
    obtain ⟨its, rv, p, hz⟩ := I.tuple hs
    exact ⟨_, _, begins_tuple a its.toArray, (show s.heap.IsTuple a its.toArray from p), fun h' it e => ⟨_, e, rfl, rfl⟩⟩
  | S x =>
    obtain ⟨t, rfl⟩ := r
    exact ⟨_, _, begins_text x t, trivial, fun h' it e => ⟨t, _, e, rfl, rfl⟩⟩
theorem ads_ne (I : Inv X pins σ H s) {sk : Sk} {vs : List V} {b : Addr} (f : FpOk X pins H b) (hs : sk.at X.K H vs) : b ∉ sk.ads := by
  cases sk with
  | L a => intro h; exact fp_neL I f hs (List.mem_singleton.mp h).symm
  | Tp a => intro h; exact fp_neT I f hs (List.mem_singleton.mp h).symm
  | S x => intro h; cases h
/-- an item of a walk over pairs, by the library's WalksT -/
theorem walk_item {elts : List Expr} {kk : Nat} {tpos : Pos} {it : Addr} {fp wr : List Addr} {n : Nat} {Pt : Nat → Array Value → Prop} {St : Nat → Heap → Prop} {Mid : Nat → Addr → Heap → Prop} {E : Value → Shared → Prop} {i : Nat} {xs : Nat → List V}
    (I : Inv X pins σ H s) (W : WalksT X.prog X.w X.A it fp wr n Pt St Mid) (hw : ∀ b ∈ wr, FpOk X pins H b) (hi : i < n) (st : St i s.heap) (hrel : ∀ vals, Pt i vals → Vals (xs i) vals.toList) (hz : (xs i).length ≤ sizeLine)
    {R : V → Hp → Heap → Prop} (hR : ∀ T h', s.heap.objs.size ≤ T → H T = none → St (i + 1) h' → (∀ b ∈ wr, upd H T (.tup (xs i)) b = none) → R (.ref T) (upd H T (.tup (xs i))) h') :
    wpAny (model X.prog X.w) X.A (pyNext (.ref it)) (fun r s1 => ∃ u, r = some u ∧
      wpAny (model X.prog X.w) X.A (letOwnedTupleGo (.Tuple elts kk tpos) (.ref it) u) (fun _ s2 => ∃ x H', Inv X pins σ H' s2 ∧ RelV x u ∧ R x H' s2.heap) E s1) E s := by
  refine W.item i s _ E hi st fun T vals h' tk hP hT hTup hMid hk => ?_
  refine ⟨_, rfl, W.go elts kk tpos i T _ _ _ hMid fun h'' hSt hk2 => ?_⟩
  have hTw : T ∉ wr := W.apart i T h' hMid
  have hTup2 : h''.IsTuple T vals := Heap.IsTuple.at hTup fun o e => hk2 T o hTw e
  have new : ObjOk X.prog X.w (upd H T (.tup (xs i))) h'' T (.tup (xs i)) := ⟨hz, vals.toList, hrel vals hP, by
    have e : vals.toList.toArray = vals := by simp
    rw [e]; exact hTup2⟩
  have hn : H T = none := I.hok.fresh hT
  have I1 : Inv X pins σ (upd H T (.tup (xs i))) { s with heap := h'', toks := tk } :=
    I.turnedNew (ch := wr) (fun b ob hb q => hk2 b ob hb (hk b ob hb q)) hw hT new
  refine ⟨.ref T, _, I1, rfl, hR T h'' hT hn hSt fun b hb => ?_⟩
  have : b ≠ T := fun e => hTw (e ▸ hb)
  rw [upd_ne this]
  exact (hw b hb).1
/-- zip: the turns -/
def JZ (K : PySem.W.Frag) (sk sk2 : Sk) (vs ws : List V) : It :=
  ⟨fun i H => sk.at K H vs ∧ sk2.at K H ws ∧ i < vs.length ∧ i < ws.length, fun i H v H' => ∃ T x y, v = .ref T ∧ H T = none ∧ H' = upd H T (.tup [x, y]) ∧ vs[i]? = some x ∧ ws[i]? = some y, fun i H => sk.at K H vs ∧ sk2.at K H ws ∧ (vs.length ≤ i ∨ ws.length ≤ i)⟩
theorem zip_sep (I : Inv X pins σ H s) {sk sk2 : Sk} {vs ws : List V} {z TI TO i1 i2 : Addr} (h1 : sk.at X.K H vs) (h2 : sk2.at X.K H ws) (hf : ∀ b ∈ [z, TI, TO, i1, i2], FpOk X pins H b) (nd : [z, TI, TO, i1, i2].Nodup) :
    ZipSep2 z TI TO i1 i2 (i1 :: sk.ads) (i2 :: sk2.ads) := by
  simp only [List.nodup_cons, List.mem_cons, List.not_mem_nil, or_false, not_or, not_false_eq_true, List.nodup_nil, and_true] at nd
  obtain ⟨⟨a1, a2, a3, a4⟩, ⟨b1, b2, b3⟩, ⟨c1, c2⟩, d1⟩ := nd
  have f : ∀ b, b ∈ [z, TI, TO, i1, i2] → b ∉ sk.ads ∧ b ∉ sk2.ads := fun b hb => ⟨ads_ne I (hf b hb) h1, ads_ne I (hf b hb) h2⟩
  refine ⟨Ne.symm a1, Ne.symm a2, b1, b2, List.mem_cons_self, ?_, ?_, b3, List.mem_cons_self, ?_, ?_, ?_, ?_⟩
  · exact fun q => (List.mem_cons.mp q).elim a3 (f z (by simp)).1
  · exact fun q => (List.mem_cons.mp q).elim c1 (f TO (by simp)).1
  · exact fun q => (List.mem_cons.mp q).elim a4 (f z (by simp)).2
  · exact fun q => (List.mem_cons.mp q).elim c2 (f TO (by simp)).2
  · exact fun q => (List.mem_cons.mp q).elim d1 (f i1 (by simp)).2
  · exact fun q => (List.mem_cons.mp q).elim (Ne.symm d1) (f i2 (by simp)).1
theorem turn_zipG {P : Program} {w : World} {K : PySem.W.Frag} {elts : List Expr} {kk : Nat} {tpos : Pos} (sk sk2 : Sk) (vs ws : List V) (z TI TO i1 i2 : Addr) (nd : [z, TI, TO, i1, i2].Nodup) :
    Turn P w K (.Tuple elts kk tpos) (JZ K sk sk2 vs ws) [z, TI, TO, i1, i2] z (fun i h => i ≤ vs.length ∧ i ≤ ws.length ∧ IsZip h z TI TO .none ∧ IsTupOf2 h TI (.ref i1) (.ref i2) ∧ (∃ x y, IsTupOf2 h TO x y) ∧ sk.iter i1 i h ∧ sk2.iter i2 i h) where
  mem := by simp
  obj := fun i h st b hb => by
    obtain ⟨_, _, hz, hTI, ⟨x, y, hTO⟩, s1, s2⟩ := st
    have e' : b = z ∨ b = TI ∨ b = TO ∨ b = i1 ∨ b = i2 := by simpa using hb
    rcases e' with e | e | e | e | e
    · rw [e]; exact ⟨_, hz, fun v q => nomatch q⟩
    · rw [e]; exact ⟨_, hTI, fun v q => nomatch q⟩
    · rw [e]; exact ⟨_, hTO, fun v q => nomatch q⟩
    · rw [e]; exact sk_obj s1
    · rw [e]; exact sk_obj s2
  keep := fun i h h' st k => let ⟨l1, l2, hz, hTI, ⟨x, y, hTO⟩, s1, s2⟩ := st
    ⟨l1, l2, k z (by simp) _ hz, k TI (by simp) _ hTI, ⟨x, y, k TO (by simp) _ hTO⟩, sk_it (K := K) s1 fun o q => k i1 (by simp) o q, sk_it (K := K) s2 fun o q => k i2 (by simp) o q⟩
  item := by
    intro X hP hw hK hc i pins s σ H E I hf st hg
    subst hP hw hK
    obtain ⟨_, _, hz, hTI, hTO, s1, s2⟩ := st
    obtain ⟨h1, h2, l1, l2⟩ := hg
    obtain ⟨Pv, St, D⟩ := sk_draws I hc h1 s1 (hf i1 (by simp))
    obtain ⟨Pv2, St2, D2⟩ := sk_draws I hc h2 s2 (hf i2 (by simp))
    have W := WalksT.zipD2 (zip_sep I h1 h2 hf nd) D.D D2.D
    refine walk_item (xs := fun i => [vs.getD i .non, ws.getD i .non]) (R := fun x H' h' => (JZ X.K sk sk2 vs ws).yld i H x H' ∧ (i + 1 ≤ vs.length ∧ i + 1 ≤ ws.length ∧ IsZip h' z TI TO .none ∧ IsTupOf2 h' TI (.ref i1) (.ref i2) ∧ (∃ x y, IsTupOf2 h' TO x y) ∧ sk.iter i1 (i + 1) h' ∧ sk2.iter i2 (i + 1) h') ∧ ∀ b ∈ [z, TI, TO, i1, i2], H' b = none)
      I W (fun b hb => hf b ?_) (by omega) ⟨hz, hTI, hTO, D.st, D2.st⟩ (fun vals hv => ?_) (by show 2 ≤ sizeLine; rw [sizeLine_eq]; decide) fun T h' hTs hn hSt hbw => ⟨⟨T, vs[i], ws[i], rfl, hn, ?_, List.getElem?_eq_getElem l1, List.getElem?_eq_getElem l2⟩, ⟨by omega, by omega, hSt.1, hSt.2.1, hSt.2.2.1, D.back _ _ hSt.2.2.2.1, D2.back _ _ hSt.2.2.2.2⟩, fun b hb => ?_⟩
    · have e' : b = z ∨ b = TO ∨ b = i1 ∨ b = i2 := by simpa using hb
      rcases e' with e | e | e | e <;> simp [e]
    · obtain ⟨x, y, hx, hy, rfl⟩ := hv
      obtain ⟨x', hx', rx⟩ := D.rel i x hx
      obtain ⟨y', hy', ry⟩ := D2.rel i y hy
      have e1 : vs.getD i .non = x' := by rw [List.getD_eq_getElem?_getD, hx']; rfl
      have e2 : ws.getD i .non = y' := by rw [List.getD_eq_getElem?_getD, hy']; rfl
      rw [e1, e2]
      exact .cons rx (.cons ry .nil)
    · have e1 : vs.getD i .non = vs[i] := by rw [List.getD_eq_getElem?_getD, List.getElem?_eq_getElem l1]; rfl
      have e2 : ws.getD i .non = ws[i] := by rw [List.getD_eq_getElem?_getD, List.getElem?_eq_getElem l2]; rfl
      rw [e1, e2]
    · by_cases eb : b = TI
      · have lt : TI < s.heap.objs.size := Heap.lt_size hTI
        rw [upd_ne (by rw [eb]; exact Nat.ne_of_lt (Nat.lt_of_lt_of_le lt hTs))]; exact (hf b hb).1
      · have e' : b = z ∨ b = TI ∨ b = TO ∨ b = i1 ∨ b = i2 := by simpa using hb
        exact hbw b (by
          rcases e' with e | e | e | e | e
          · simp [e]
          · exact absurd e eb
          · simp [e]
          · simp [e]
          · simp [e])
  done := by
    intro X hP hw hK hc i pins s σ H E I hf st hg
    subst hP hw hK
    obtain ⟨q1, q2, hz, hTI, hTO, s1, s2⟩ := st
    obtain ⟨h1, h2, l⟩ := hg
    have ei : i = min vs.length ws.length := by omega
    obtain ⟨Pv, St, D⟩ := sk_draws I hc h1 s1 (hf i1 (by simp))
    obtain ⟨Pv2, St2, D2⟩ := sk_draws I hc h2 s2 (hf i2 (by simp))
    have W := WalksT.zipD2 (zip_sep I h1 h2 hf nd) D.D D2.D
    refine W.done s _ E (ei ▸ ⟨hz, hTI, hTO, D.st, D2.st⟩) fun h' tk hk => ⟨rfl, ?_⟩
    refine I.turnedL hk fun b hb => hf b ?_
    have e' : b = z ∨ b = TO ∨ b = i1 ∨ b = i2 := by simpa using hb
    rcases e' with e | e | e | e <;> simp [e]
  self := fun A i s Q E st hQ => by
    obtain ⟨_, _, hz, _⟩ := st
    exact wpAny_pyIter_zip hz hQ
end
/-! ### the mirror's walks -/
structure ItOk (K : PySem.W.Frag) (mg : Str → Option Value) (g0 : G) (xs : List T) (J : It) : Prop where
  go : ∀ i g, Sub g0 g → Rel K mg g → i < xs.length → J.go i g.H
  yld : ∀ i g x H', Sub g0 g → Rel K mg g → i < xs.length → J.yld i g.H x H' → ∃ g', g'.H = H' ∧ g'.h = g.h ∧ Ext g g' ∧ Rel K mg g' ∧ ∃ t, xs[i]? = some t ∧ Rep K mg g' t x
  stop : ∀ i g, Sub g0 g → Rel K mg g → xs.length ≤ i → J.stop i g.H
abbrev MI := SM → MH → RL
def wpI (K : PySem.W.Frag) (mg : Str → Option Value) (W : WX) (g : G) (σ : L2.St) (Rr : It → Hp → Prop) : RL → Prop
  | .ok xs h' => ∀ g' J, g'.h = h' → Ext g g' → Rel K mg g' → ItOk K mg g' xs J → Rr J g'.H
  | .ex x h' => ∀ g' cls d, g'.h = h' → Ext g g' → Rel K mg g' → RepX K mg g' x cls d → W cls d σ g'.H
  | .stuck => False
def tMI (K : PySem.W.Frag) (mg : Str → Option Value) (W : WX) (m : MI) : TI := fun σ H Rr => ∃ g s, g.H = H ∧ Rel K mg g ∧ RepS K mg g s σ ∧ wpI K mg W g σ Rr (m s g.h)
abbrev SI (X : Cx) (W : WX) (tg iter : Expr) (m : MI) : Prop := PI X tg iter (tMI X.K X.mg W m)
theorem weakI {X : Cx} {tg e : Expr} {t t' : TI} (h : PI X tg e t) (k : ∀ σ H Q, t' σ H Q → t σ H Q) : PI X tg e t' := ⟨fun pins s σ H Q I q => h.run pins s σ H Q I (k σ H Q q)⟩
def chrT (x : Str) : List T := x.cps.toList.map fun c => T.str ⟨#[c]⟩
theorem rep_chr {K : PySem.W.Frag} {mg : Str → Option Value} {g : G} (x : Str) : RepL K mg g (chrT x) (sgn x) := by
  have : ∀ l : List Nat, RepL K mg g (l.map fun c => T.str ⟨#[c]⟩) (l.map fun c => V.str ⟨#[c]⟩) := by
    intro l
    induction l with
    | nil => exact RepL.nil
    | cons c l ih => exact RepL.cons rStr ih
  exact this _
/-- the items of a source that stands (no changeable list) -/
def srcOf (t : T) : Option (List T) := match t with
  | .tup xs => some xs
  | .lst xs => some xs
  | .frl xs => some xs
  | .str x => some (chrT x)
  | _ => none
theorem sk_sub {K : PySem.W.Frag} {mg : Str → Option Value} {g : G} {t : T} {v : V} {xs : List T} (r : Rep K mg g t v) (h : srcOf t = some xs) :
    ∃ (sk : Sk) (vs : List V), v = sk.v ∧ RepL K mg g xs vs ∧ ∀ g' : G, Sub g g' → sk.at K g'.H vs := by
  unfold srcOf at h
  cases t with
  | tup ys =>
    cases h
    simp only [Rep] at r
    obtain ⟨p, vs, e, h1, l1⟩ := r
    refine ⟨.Tp p, vs, e, l1, fun g' s => ?_⟩
    rcases h1 with ⟨⟨o, h1, _⟩, n⟩ | h1
    · exact .inl (.inr ⟨o, (s.keep _ _ h1 n).1⟩)
    · exact .inr h1.tup
  | lst ys =>
    cases h
    simp only [Rep] at r
    obtain ⟨p, vs, e, ⟨h1, n⟩, l1⟩ := r
    exact ⟨.L p, vs, e, l1, fun g' s => .inl (.inl (s.keep _ _ h1 n).1)⟩
  | frl ys =>
    cases h
    simp only [Rep] at r
    obtain ⟨p, vs, e, h1, l1⟩ := r
    refine ⟨.L p, vs, e, l1, fun g' s => ?_⟩
    rcases h1 with ⟨⟨o, h1⟩, n⟩ | h1
    · exact .inl (.inr ⟨o, (s.keep _ _ h1 n).1⟩)
    · exact .inr h1
  | str x =>
    cases h
    exact ⟨.S x, sgn x, rep_str r, rep_chr x, fun g' s => rfl⟩
  | _ => cases h
section
variable {X : Cx} {W : WX} {a b : Expr} {ma mb : ME} {mr : MA} {p pos tpos : Pos} {K : PySem.W.Frag} {mg : Str → Option Value} {g : G} {σ : L2.St}
/-- the turns of a source -/
def Jsk (K : PySem.W.Frag) : Sk → It
  | .L a => Itl K a
  | .Tp a => Itt K a
  | .S x => Its x
def iSrc (K : PySem.W.Frag) (tl : TE) : TI := fun σ H R => tl σ H fun x H1 => ∃ (sk : Sk) (vs : List V), x = sk.v ∧ sk.at K H1 vs ∧ R (Jsk K sk) H1
theorem pi_src {tg l : Expr} {tl : TE} (hl : PE X l tl) : PI X tg l (iSrc X.K tl) := by
  refine ⟨fun pins s σ H R I h => ?_⟩
  refine thn (hl.run pins s σ H _ I h) fun v s1 ⟨x, H1, I1, r1, q1⟩ => ?_
  obtain ⟨sk, vs, e, hq, q⟩ := q1
  subst e
  cases sk with
  | L a =>
    cases r1
    obtain ⟨its, rv, p, hz⟩ := I1.list hq
    refine wpAny_pyIter_list p.isList ?_
    exact pi_one (tk := s1.toks) I1 _ (turn_list a _) ⟨_, Heap.get?_push_size _ rfl, rfl, rfl⟩ q
  | Tp a =>
    cases r1
    obtain ⟨its, rv, p, hz⟩ := I1.tuple hq
    refine wpAny_pyIter_tuple (show s1.heap.IsTuple a its.toArray from p) ?_
    exact pi_one (tk := s1.toks) I1 _ (turn_tuple a _) ⟨_, Heap.get?_push_size _ rfl, rfl, rfl⟩ q
  | S x =>
    obtain ⟨t, rfl⟩ := r1
    cases ha : x.cps.all (· < 128)
    · exact wpAny_pyIter_wide ha (pi_one (tk := s1.toks) I1 _ (turn_str _ x t "str_iterator" (.inr rfl)) ⟨_, Heap.get?_push_size _ rfl, rfl, rfl⟩ q)
    · exact wpAny_pyIter_ascii ha (pi_one (tk := s1.toks) I1 _ (turn_str _ x t "str_ascii_iterator" (.inl rfl)) ⟨_, Heap.get?_push_size _ rfl, rfl, rfl⟩ q)
theorem jsk_ok {sk : Sk} {vs : List V} {xs : List T} (r : RepL K mg g xs vs) (hs : ∀ g' : G, Sub g g' → sk.at K g'.H vs) : ItOk K mg g xs (Jsk K sk) := by
  have key : ∀ (i : Nat) (g1 : G) (x : V), Sub g g1 → Rel K mg g1 → vs[i]? = some x → ∃ g', g'.H = g1.H ∧ g'.h = g1.h ∧ Ext g1 g' ∧ Rel K mg g' ∧ ∃ t, xs[i]? = some t ∧ Rep K mg g' t x := fun i g1 x s R e => by
    obtain ⟨t, e1, r1⟩ := (r.sub s).get' e
    exact ⟨g1, rfl, rfl, Ext.refl _, R, t, e1, r1⟩
  cases sk with
  | L a =>
    refine ⟨fun i g1 s R l => ?_, fun i g1 x H' s R il y => ?_, fun i g1 s R l => ⟨vs, hs g1 s, by rw [← r.length]; exact l⟩⟩
    · rw [r.length] at l; exact ⟨vs, _, hs g1 s, List.getElem?_eq_getElem l⟩
    · obtain ⟨rfl, y⟩ := y; exact key i g1 x s R (y vs (hs g1 s))
  | Tp a =>
    refine ⟨fun i g1 s R l => ?_, fun i g1 x H' s R il y => ?_, fun i g1 s R l => ⟨vs, hs g1 s, by rw [← r.length]; exact l⟩⟩
    · rw [r.length] at l; exact ⟨vs, _, hs g1 s, List.getElem?_eq_getElem l⟩
    · obtain ⟨rfl, y⟩ := y; exact key i g1 x s R (y vs (hs g1 s))
  | S x =>
    have e : vs = sgn x := hs g ⟨fun _ _ h => h, fun _ _ h n => ⟨h, n⟩⟩
    have l0 : xs.length = x.cps.size := by rw [r.length, e]; unfold sgn; rw [List.length_map, Array.length_toList]
    refine ⟨fun i g1 s R l => by rw [l0] at l; exact l, fun i g1 v H' s R il y => ?_, fun i g1 s R l => by rw [l0] at l; exact l⟩
    obtain ⟨rfl, c, hc, rfl⟩ := y
    refine key i g1 _ s R ?_
    rw [e]; unfold sgn
    rw [List.getElem?_map, Array.getElem?_toList, hc]; rfl
def iS : T → MH → RL := fun t h => match srcOf t with
  | some xs => .ok xs h
  | none => .stuck
def R.bindL (r : R) (f : T → MH → RL) : RL := match r with
  | .ok t h => f t h
  | .ex x h => .ex x h
  | .stuck => .stuck
theorem wpI.ext {Rr : It → Hp → Prop} {g g' : G} {r : RL} (h : wpI K mg W g σ Rr r) (e : Ext g g') : wpI K mg W g' σ Rr r := by
  cases r with
  | ok t h' => exact fun g2 v q e2 => h g2 v q (e.trans e2)
  | ex x h' => exact fun g2 c d q e2 => h g2 c d q (e.trans e2)
  | stuck => exact h
theorem wpI_bind {Rr : It → Hp → Prop} {Q' : VK} {r : R} {f : T → MH → RL} (h : wpI K mg W g σ Rr (r.bindL f)) (k : ∀ g' t v, Ext g g' → Rel K mg g' → Rep K mg g' t v → wpI K mg W g' σ Rr (f t g'.h) → Q' v g'.H) : wpR K mg W g σ Q' r := by
  cases r with
  | ok t h' => exact fun g' v q e R r => k g' t v e R r (by subst q; exact wpI.ext h e)
  | ex x h' => exact h
  | stuck => exact h
def mSrc (ma : ME) : MI := fun s h => (ma s h).bindL iS
theorem si_src {tg : Expr} (ha : SE X W a ma) : SI X W tg a (mSrc ma) := by
  refine weakI (pi_src ha) ?_
  rintro σ H Rr ⟨g, s, rfl, R, S, h⟩
  refine ⟨g, s, rfl, R, S, wpI_bind h fun g1 t v e1 R1 r1 h1 => ?_⟩
  unfold iS at h1
  split at h1
  · rename_i xs q
    obtain ⟨sk, vs, e, l, hs⟩ := sk_sub r1 q
    refine ⟨sk, vs, e, hs g1 ⟨fun _ _ h => h, fun _ _ h n => ⟨h, n⟩⟩, h1 g1 _ rfl (Ext.refl _) R1 (jsk_ok l hs)⟩
  · exact h1.elim
end
end Mi
namespace PySem
open Sem (wp)
section
variable {prog : Program} {w : World} {A : Around} {E : Value → Shared → Prop} {s : Shared}
end
end PySem
namespace Mi
open PySem PySem.Spec PyProof.Rows L2
section
variable {X : Cx} {W : WX} {a b : Expr} {ma mb : ME} {mr : MA} {p pos tpos : Pos} {K : PySem.W.Frag} {mg : Str → Option Value} {g : G} {σ : L2.St} {elts : List Expr} {kk : Nat}
def iZipG (K : PySem.W.Frag) (ta : TA) : TI := fun σ H R => ta σ H fun us H1 => ∃ (sk sk2 : Sk) (vs ws : List V), us = [sk.v, sk2.v] ∧ sk.at K H1 vs ∧ sk2.at K H1 ws ∧ R (JZ K sk sk2 vs ws) H1
theorem pi_zipG {ta : TA} (hm : X.mg "zip" = none) (ha : PA X [a, b] ta) (hg : Gl X "zip" := by rfl)
    (hs : starEach [a, b] X.env = (false, eval a X.env) :: starEach [b] X.env := by rfl) (hpl : (backTo pos (starEach [b] X.env)).any (·.1) = false := by rfl) :
    PI X (.Tuple elts kk tpos) (.Call (.Name "zip" p) [a, b] [] pos) (iZipG X.K ta) := by
  refine ⟨fun pins s σ H R I h => ?_⟩
  refine Call_ (ld_blt I hg hm PyProof.Rows.boot_zip (PyProof.Rows.callWith_type1 (thn (ha.run pos pins s σ H _ I h) fun us s1 ⟨vs, H1, I1, r1, q1⟩ => ?_) hs hpl))
  obtain ⟨sk, sk2, xs, ys, ex, hqx, hqy, q⟩ := q1
  subst ex
  cases r1 with
  | cons r rr =>
    cases rr with
    | cons r' rr =>
      cases rr
      obtain ⟨o, Hb, B, hB, hit⟩ := sk_begins I1 hqx r
      obtain ⟨o2, Hb2, B2, hB2, hit2⟩ := sk_begins I1 hqy r'
      refine PySem.zip_begins2 B B2 hB hB2 fun h' hz hTI hTO h1 h2 hsz hk => wpAny_pyIter_zip hz ?_
      have I2 : Inv X pins σ H1 { s1 with heap := h' } := I1.kept (t' := s1.toks) hk
      refine ⟨s1.heap.objs.size + 4, [s1.heap.objs.size + 4, s1.heap.objs.size + 2, s1.heap.objs.size + 3, s1.heap.objs.size, s1.heap.objs.size + 1], _, _, H1, rfl, I2, turn_zipG sk sk2 xs ys _ _ _ _ _ (by simp), ⟨Nat.zero_le _, Nat.zero_le _, hz, hTI, ⟨_, _, hTO⟩, hit h' _ h1, hit2 h' _ h2⟩, fun c hcm => ?_, q⟩
      have e' : c = s1.heap.objs.size + 4 ∨ c = s1.heap.objs.size + 2 ∨ c = s1.heap.objs.size + 3 ∨ c = s1.heap.objs.size ∨ c = s1.heap.objs.size + 1 := by simpa using hcm
      have hle : s1.heap.objs.size ≤ c := by
        rcases e' with z | z | z | z | z
        · rw [z]; exact Nat.le_add_right _ _
        · rw [z]; exact Nat.le_add_right _ _
        · rw [z]; exact Nat.le_add_right _ _
        · rw [z]; exact Nat.le_refl _
        · rw [z]; exact Nat.le_add_right _ _
      exact I1.fpOk hle (I1.hok.fresh hle)
theorem yld_tup {R : Rel K mg g} {p : Addr} {xs : List T} {vs : List V} (hp : g.H p = none) (r : RepL K mg g xs vs) : ∃ g', g'.H = upd g.H p (.tup vs) ∧ g'.h = g.h ∧ Ext g g' ∧ Rel K mg g' ∧ Rep K mg g' (.tpl xs) (.ref p) :=
  ⟨g.lay p (.tup vs), rfl, rfl, lay_ext R hp, R.lay hp, rep_tpl R hp r⟩
def zipT (xs ys : List T) : List T := (xs.zip ys).map fun q => .tpl [q.1, q.2]
theorem jz_ok {sk sk2 : Sk} {vs ws : List V} {xs ys : List T} (r : RepL K mg g xs vs) (r2 : RepL K mg g ys ws) (hs : ∀ g' : G, Sub g g' → sk.at K g'.H vs) (hs2 : ∀ g' : G, Sub g g' → sk2.at K g'.H ws) : ItOk K mg g (zipT xs ys) (JZ K sk sk2 vs ws) := by
  have ln : (zipT xs ys).length = min vs.length ws.length := by unfold zipT; rw [List.length_map, List.length_zip, r.length, r2.length]
  refine ⟨fun i g1 s R l => ⟨hs g1 s, hs2 g1 s, by omega, by omega⟩, fun i g1 x H' s R il y => ?_, fun i g1 s R l => ⟨hs g1 s, hs2 g1 s, by omega⟩⟩
  obtain ⟨q, z, z2, rfl, hq, rfl, hz, hz2⟩ := y
  obtain ⟨t, e1, r1⟩ := (r.sub s).get' hz
  obtain ⟨t2, f1, rr1⟩ := (r2.sub s).get' hz2
  obtain ⟨g', e2, e3, e4, R', r'⟩ := yld_tup (R := R) (xs := [t, t2]) hq (RepL.cons r1 (RepL.cons rr1 RepL.nil))
  refine ⟨g', e2, e3, e4, R', _, ?_, r'⟩
  unfold zipT
  have z : (xs.zip ys)[i]? = some (t, t2) := List.getElem?_zip_eq_some.mpr ⟨e1, f1⟩
  rw [List.getElem?_map, z]
  rfl
def RL.bindL (r : RL) (f : List T → MH → RL) : RL := match r with
  | .ok t h => f t h
  | .ex x h => .ex x h
  | .stuck => .stuck
theorem wpI_bindL {Rr : It → Hp → Prop} {Q' : List V → Hp → Prop} {r : RL} {f : List T → MH → RL} (h : wpI K mg W g σ Rr (r.bindL f)) (k : ∀ g' ts vs, Ext g g' → Rel K mg g' → RepL K mg g' ts vs → wpI K mg W g' σ Rr (f ts g'.h) → Q' vs g'.H) : wpL K mg W g σ Q' r := by
  cases r with
  | ok t h' => exact fun g' v q e R r => k g' t v e R r (by subst q; exact wpI.ext h e)
  | ex x h' => exact h
  | stuck => exact h
def iZp : List T → MH → RL := fun ts h => match ts with
  | [t, u] => match srcOf t, srcOf u with
    | some xs, some ys => .ok (zipT xs ys) h
    | _, _ => .stuck
  | _ => .stuck
def mIA (f : List T → MH → RL) (mr : MA) : MI := fun s h => (mr s h).bindL f
theorem sub_refl (g : G) : Sub g g := ⟨fun _ _ h => h, fun _ _ h n => ⟨h, n⟩⟩
theorem si_zip (hm : X.mg "zip" = none) (ha : SA X W [a, b] mr) (hg : Gl X "zip" := by rfl)
    (hs : starEach [a, b] X.env = (false, eval a X.env) :: starEach [b] X.env := by rfl) (hpl : (backTo pos (starEach [b] X.env)).any (·.1) = false := by rfl) :
    SI X W (.Tuple elts kk tpos) (.Call (.Name "zip" p) [a, b] [] pos) (mIA iZp mr) := by
  refine weakI (pi_zipG hm ha hg hs hpl) ?_
  rintro σ H Rr ⟨g, s, rfl, R, S, h⟩
  refine ⟨g, s, rfl, R, S, wpI_bindL h fun g1 ts vs e1 R1 r1 h1 => ?_⟩
  unfold iZp at h1
  split at h1
  · simp only [RepL] at r1
    obtain ⟨v, w', rfl, rv, v2, w2, rfl, rv2, rfl⟩ := r1
    split at h1
    · rename_i xs ys q q2
      obtain ⟨sk, ws, e, l, hs⟩ := sk_sub rv q
      obtain ⟨sk2, ws2, e2, l2, hs2⟩ := sk_sub rv2 q2
      exact ⟨sk, sk2, ws, ws2, by rw [e, e2], hs g1 (sub_refl _), hs2 g1 (sub_refl _), h1 g1 _ rfl (Ext.refl _) R1 (jz_ok l l2 hs hs2)⟩
    · exact h1.elim
  · exact h1.elim
/-! ### range -/
def intsT (lo : Int) : Nat → List T
  | 0 => []
  | n + 1 => .int lo :: intsT (lo + 1) n
theorem intsT_len : ∀ (n : Nat) (lo : Int), (intsT lo n).length = n
  | 0, _ => rfl
  | n + 1, lo => by simp [intsT, intsT_len n (lo + 1)]
theorem intsT_get : ∀ (n : Nat) (lo : Int) (i : Nat), i < n → (intsT lo n)[i]? = some (.int (lo + i))
  | 0, _, _, h => absurd h (Nat.not_lt_zero _)
  | n + 1, lo, 0, h => by simp [intsT]
  | n + 1, lo, i + 1, h => by
    simp only [intsT, List.getElem?_cons_succ]
    rw [intsT_get n (lo + 1) i (by omega)]
    have : lo + 1 + (i : Int) = lo + ((i + 1 : Nat) : Int) := by omega
    rw [this]
theorem jr_ok {lo : Int} {n : Nat} : ItOk K mg g (intsT lo n) (Itr lo n) := by
  refine ⟨fun i g1 s R l => by rw [intsT_len] at l; exact l, fun i g1 x H' s R il y => ?_, fun i g1 s R l => by rw [intsT_len] at l; exact l⟩
  obtain ⟨rfl, rfl⟩ := y
  rw [intsT_len] at il
  exact ⟨g1, rfl, rfl, Ext.refl _, R, _, intsT_get n lo i il, rInt⟩
def rgOk (i : Int) : Bool := decide (-1000000 ≤ i) && decide (i ≤ 1000000)
def iRg1 : List T → MH → RL := fun ts h => match ts with
  | [.int n] => if rgOk n then .ok (intsT 0 n.toNat) h else .stuck
  | _ => .stuck
theorem rg_b {i : Int} (h : rgOk i = true) : -(2 ^ 62) ≤ i ∧ i < 2 ^ 62 := by
  unfold rgOk at h
  simp only [Bool.and_eq_true, decide_eq_true_eq] at h
  omega
theorem si_range1 {tg : Expr} (hm : X.mg "range" = none) (ha : SA X W [a] mr) (hg : Gl X "range" := by rfl) (hs : starEach [a] X.env = [(false, eval a X.env)] := by rfl) :
    SI X W tg (.Call (.Name "range" p) [a] [] pos) (mIA iRg1 mr) := by
  refine weakI (pi_range1 hg hm ha hs) ?_
  rintro σ H Rr ⟨g, s, rfl, R, S, h⟩
  refine ⟨g, s, rfl, R, S, wpI_bindL h fun g1 ts vs e1 R1 r1 h1 => ?_⟩
  unfold iRg1 at h1
  split at h1
  · rename_i n
    obtain ⟨v, rfl, rv⟩ := r1.one
    rw [rep_int rv]
    split at h1
    · rename_i q
      obtain ⟨b1, b2⟩ := rg_b q
      exact ⟨n, rfl, b1, b2, h1 g1 _ rfl (Ext.refl _) R1 jr_ok⟩
    · exact h1.elim
  · exact h1.elim
end
end Mi
end part_Mi4
section part_Mi5
set_option maxRecDepth 100000
set_option maxHeartbeats 2000000
/-! Mi, part 5: targets, comprehensions, statements. -/
namespace Mi
open PySem PySem.Spec PyProof.Rows L2
inductive GR where
  | ok (s : SM) (h : MH) | stuck
abbrev MG := T → SM → MH → GR
section
variable {X : Cx} {K : PySem.W.Frag} {mg : Str → Option Value} {W : WX} {g : G} {σ : L2.St} {Q : VK} {D : Ends}
variable {a b c e : Expr} {ma mb mc me mt : ME} {mr : MA} {pos p : Pos} {es : List Expr} {x : Str}
/-! ### targets -/
def wpG (K : PySem.W.Frag) (mg : Str → Option Value) (tl : List Nat) (g : G) (σ : L2.St) (Q : L2.St → Hp → Prop) : GR → Prop
  | .ok s' h' => ∀ g' σ', g'.h = h' → Ext g g' → Rel K mg g' → RepS K mg g' s' σ' → (∀ vs : List Nat, (∀ i ∈ tl, i ∈ vs) → wipe σ' vs = wipe σ vs) → Q σ' g'.H
  | .stuck => False
def tMG (K : PySem.W.Frag) (mg : Str → Option Value) (tl : List Nat) (m : MG) : TG := fun v σ H Q => ∃ g s t, g.H = H ∧ Rel K mg g ∧ RepS K mg g s σ ∧ Rep K mg g t v ∧ wpG K mg tl g σ Q (m t s g.h)
abbrev SG (X : Cx) (tg : Expr) (tl : List Nat) (m : MG) : Prop := PG X tg (tMG X.K X.mg tl m)
theorem weakG {X : Cx} {e : Expr} {t t' : TG} (h : PG X e t) (k : ∀ v σ H Q, t' v σ H Q → t v σ H Q) : PG X e t' := ⟨fun pins s σ H v u Q I r q => h.run pins s σ H v u Q I r (k v σ H Q q)⟩
theorem set_none_comm (σ : L2.St) (i j : Nat) (v : Option V) (h : i ≠ j) : (σ.set i v).set j none = (σ.set j none).set i v := by
  apply List.ext_getElem?
  intro k
  simp only [List.getElem?_set, List.length_set]
  by_cases h1 : j = k <;> by_cases h2 : i = k
  · exact absurd (h2.trans h1.symm) h
  · simp [h1, h2]
  · simp [h1, h2]
  · simp [h1, h2]
theorem wipe_set {σ : L2.St} {i : Nat} {v : Option V} : ∀ {vs : List Nat}, i ∈ vs → wipe (σ.set i v) vs = wipe σ vs
  | [], h => by cases h
  | j :: vs, h => by
    show (wipe (σ.set i v) vs).set j none = (wipe σ vs).set j none
    by_cases hi : i ∈ vs
    · rw [wipe_set hi]
    · have e : i = j := (List.mem_cons.mp h).resolve_right hi
      subst e
      have key : ∀ (ws : List Nat), i ∉ ws → wipe (σ.set i v) ws = (wipe σ ws).set i v := by
        intro ws
        induction ws with
        | nil => intro _; rfl
        | cons w ws ih =>
          intro hw
          show (wipe (σ.set i v) ws).set w none = ((wipe σ ws).set w none).set i v
          rw [ih (fun z => hw (List.mem_cons_of_mem _ z)), set_none_comm _ _ _ _ (fun z => hw (by rw [z]; exact List.mem_cons_self))]
      rw [key vs hi, List.set_set]
theorem wipe_wipe (σ : L2.St) : ∀ vs ws : List Nat, (∀ i ∈ ws, i ∈ vs) → wipe (wipe σ ws) vs = wipe σ vs
  | vs, [], _ => rfl
  | vs, w :: ws, h => by
    show wipe ((wipe σ ws).set w none) vs = wipe σ vs
    rw [wipe_set (h w List.mem_cons_self), wipe_wipe σ vs ws fun i hi => h i (List.mem_cons_of_mem _ hi)]
def gN (i : Nat) : MG := fun t s h => .ok (s.set i (some t)) h
theorem sg_name {i : Nat} (hN : X.N.Nodup) (hi : X.N[i]? = some x := by rfl) (hx : Loc X.env.scope x := by first | exact Or.inl rfl | exact Or.inr rfl) (hf : X.fn x = true ∨ X.env.scope.names.lookup x = some .local := by first | exact .inl rfl | exact .inr rfl) : SG X (.Name x pos) [i] (gN i) := by
  refine weakG (pg_name hN hi hx hf) ?_
  rintro v σ H Q ⟨g, s, t, rfl, R, S, r, h⟩
  exact h g (σ.set i (some v)) rfl (Ext.refl g) R (S.set r i) fun vs hv => wipe_set (hv i List.mem_cons_self)
abbrev MGs := List T → SM → MH → GR
def tMGs (K : PySem.W.Frag) (mg : Str → Option Value) (tl : List Nat) (m : MGs) : TGs := fun vs σ H Q => ∃ g s ts, g.H = H ∧ Rel K mg g ∧ RepS K mg g s σ ∧ RepL K mg g ts vs ∧ wpG K mg tl g σ Q (m ts s g.h)
abbrev SGs (X : Cx) (tg : List Expr) (tl : List Nat) (m : MGs) : Prop := PGs X tg (tMGs X.K X.mg tl m)
theorem weakGs {X : Cx} {e : List Expr} {t t' : TGs} (h : PGs X e t) (k : ∀ v σ H Q, t' v σ H Q → t v σ H Q) : PGs X e t' := ⟨fun pins s σ H v u Q I r q => h.run pins s σ H v u Q I r (k v σ H Q q)⟩
def gsNil : MGs := fun ts s h => match ts with
  | [] => .ok s h
  | _ => .stuck
def gsCons (m : MG) (ms : MGs) : MGs := fun ts s h => match ts with
  | t :: r => match m t s h with
    | .ok s1 h1 => ms r s1 h1
    | .stuck => .stuck
  | [] => .stuck
theorem sgs_nil : SGs X [] [] gsNil := by
  refine weakGs pgs_nil ?_
  rintro vs σ H Q ⟨g, s, ts, rfl, R, S, r, h⟩
  unfold gsNil at h
  split at h
  · simp only [RepL] at r
    exact ⟨r, h g σ rfl (Ext.refl g) R S fun vs _ => rfl⟩
  · exact h.elim
theorem sgs_cons {m : MG} {ms : MGs} {tl tl2 : List Nat} (h1 : SG X e tl m) (h2 : SGs X es tl2 ms) (hs : (assignEach (e :: es) X.env).map (·.2) = assign e X.env :: (assignEach es X.env).map (·.2) := by rfl) : SGs X (e :: es) (tl ++ tl2) (gsCons m ms) := by
  refine weakGs (pgs_cons h1 h2 hs) ?_
  rintro vs σ H Q ⟨g, s, ts, rfl, R, S, r, h⟩
  unfold gsCons at h
  split at h
  · rename_i t r'
    simp only [RepL] at r
    obtain ⟨v, w, rfl, r1, r2⟩ := r
    refine ⟨v, w, rfl, g, s, t, rfl, R, S, r1, ?_⟩
    cases q : m t s g.h with
    | ok s1 h1 =>
      rw [q] at h
      dsimp only at h
      intro g1 σ1 q1 e1 R1 S1 w1
      refine ⟨g1, s1, r', rfl, R1, S1, r2.mono e1, ?_⟩
      rw [q1]
      cases q2 : ms r' s1 h1 with
      | ok s2 h2 =>
        rw [q2] at h
        exact fun g2 σ2 q3 e2 R2 S2 w2 => h g2 σ2 q3 (e1.trans e2) R2 S2 fun vs hv => (w2 vs fun i hi => hv i (List.mem_append_right _ hi)).trans (w1 vs fun i hi => hv i (List.mem_append_left _ hi))
      | stuck => rw [q2] at h; exact h.elim
    | stuck => rw [q] at h; exact h.elim
  · exact h.elim
def gT (n : Nat) (ms : MGs) : MG := fun t s h => match t with
  | .tup xs => if xs.length = n then ms xs s h else .stuck
  | .tpl xs => if xs.length = n then ms xs s h else .stuck
  | _ => .stuck
theorem sg_tup {ms : MGs} {tl : List Nat} {k n : Nat} (hc : X.calm = true) (h : SGs X es tl ms) (hn : (assignEach es X.env).length = n := by rfl) (hst : (assignEach es X.env).findIdx? (·.1) = none := by rfl) : SG X (.Tuple es k pos) tl (gT n ms) := by
  refine weakG (pg_tup hc h hn hst) ?_
  rintro v σ H Q ⟨g, s, t, rfl, R, S, r, h⟩
  unfold gT at h
  split at h
  · rename_i xs
    split at h
    · rename_i q
      obtain ⟨p, vs, rfl, h1, l1⟩ := r.sqT
      exact ⟨p, vs, rfl, h1, by rw [← l1.length]; exact q, g, s, xs, rfl, R, S, l1, h⟩
    · exact h.elim
  · rename_i xs
    split at h
    · rename_i q
      obtain ⟨p, vs, rfl, h1, l1⟩ := r.sqP
      exact ⟨p, vs, rfl, h1, by rw [← l1.length]; exact q, g, s, xs, rfl, R, S, l1, h⟩
    · exact h.elim
  · exact h.elim
/-! ### comprehensions -/
def wipeM (s : SM) : List Nat → SM
  | [] => s
  | v :: vs => (wipeM s vs).set v none
theorem RepS.wipe {s : SM} (S : RepS K mg g s σ) : ∀ vs : List Nat, RepS K mg g (wipeM s vs) (L2.wipe σ vs)
  | [] => S
  | v :: vs => by
    have S1 := RepS.wipe S vs
    refine ⟨by show ((wipeM s vs).set v none).length = ((L2.wipe σ vs).set v none).length; rw [List.length_set, List.length_set, S1.1], fun i t h => ?_⟩
    have h' : ((wipeM s vs).set v none)[i]? = some (some t) := h
    by_cases e : v = i
    · subst e
      rw [List.getElem?_set] at h'
      split at h'
      · split at h' <;> cases h'
      · rename_i q; exact absurd rfl q
    · rw [List.getElem?_set_ne e] at h'
      obtain ⟨w, h1, h2⟩ := S1.2 i t h'
      refine ⟨w, ?_, h2⟩
      show ((L2.wipe σ vs).set v none)[i]? = some (some w)
      rw [List.getElem?_set_ne e]; exact h1
def lcFrom (mgt : MG) (mt me : ME) (s0 : SM) : List T → List T → MH → R
  | [], acc, h => .ok (.lst acc) h
  | x :: xs, acc, h => match mgt x s0 h with
    | .ok s1 h1 => match mt s1 h1 with
      | .ok (.bl true) h2 => match me s1 h2 with
        | .ok y h3 => if acc.length < big then lcFrom mgt mt me s0 xs (acc ++ [y]) h3 else .stuck
        | _ => .stuck
      | .ok (.bl false) h2 => lcFrom mgt mt me s0 xs acc h2
      | _ => .stuck
    | .stuck => .stuck
def mLc (mi : MI) (mgt : MG) (mt me : ME) (own : List Nat) : ME := fun s h => (mi s h).bind fun xs h1 => lcFrom mgt mt me (wipeM s own) xs [] h1
def W0 : WX := fun _ _ _ _ => False
/-- a state of a comprehension's walk -/
structure LcAt (K : PySem.W.Frag) (mg : Str → Option Value) (W : WX) (g1 : G) (Dl : Addr) (σ : L2.St) (Q : VK) (r : List T → List T → MH → R) (xs : List T) (i : Nat) (H : Hp) : Prop where
  ex : ∃ (gi : G) (acc : List T) (accV : List V), gi.H = H ∧ Rel K mg gi ∧ Sub g1 gi ∧ gi.pv = Dl :: g1.pv ∧ (∀ a ∈ g1.pv, gi.H a = g1.H a) ∧ gi.H Dl = some (.lst accV) ∧ RepL K mg gi acc accV ∧ i ≤ xs.length ∧ wpR K mg W g1 σ Q (r (xs.drop i) acc gi.h)
theorem blk_ne {g1 : G} {Dl : Addr} (R : Rel K mg g1) (hD : g1.H Dl = none) : ∀ a ∈ g1.pv, a ≠ Dl := fun a ha e => by
  obtain ⟨u, q⟩ := R.pvt a ha
  rw [e, hD] at q; cases q
/-- an object kept apart is written -/
theorem pv_put {Dl : Addr} {o : HO} (R : Rel K mg g) (hD : Dl ∈ g.pv) : Sub g { g with H := upd g.H Dl o } ∧ Rel K mg { g with H := upd g.H Dl o } := by
  have hs : Sub g { g with H := upd g.H Dl o } := ⟨fun _ _ h => h, fun a u h n => ⟨by
    show upd g.H Dl o a = some u
    rw [upd_ne (fun e => n (.inl (by rw [e]; exact hD)))]; exact h, n⟩⟩
  refine ⟨hs, R.len, R.inj, R.npv, fun a ha => ?_, fun i a ha => ?_, fun i a w h1 h2 => ?_⟩
  rotate_left
  rotate_left
  · by_cases wd : w = MO.dead
    · subst wd; trivial
    refine (R.obj i a w h1 h2).sub hs fun u hu => ?_
    have e : a ≠ Dl := fun e => R.npv Dl hD i (by rw [← e]; exact ⟨h1, w, h2, wd⟩)
    show upd g.H Dl o a = some u
    rw [upd_ne e]; exact hu
  · by_cases e : a = Dl
    · subst e; exact ⟨o, upd_same⟩
    · obtain ⟨u, q⟩ := R.pvt a ha; exact ⟨u, by show upd g.H Dl o a = some u; rw [upd_ne e]; exact q⟩
  · obtain ⟨u, q⟩ := R.tr i a ha
    have e : a ≠ Dl := fun e => R.npv Dl hD i (by rw [← e]; exact ha)
    exact ⟨u, by show upd g.H Dl o a = some u; rw [upd_ne e]; exact q⟩
/-- a new object is kept apart -/
theorem pv_new {Dl : Addr} {o : HO} (R : Rel K mg g) (hD : g.H Dl = none) : Sub g ⟨g.rho, g.h, Dl :: g.pv, upd g.H Dl o⟩ ∧ Rel K mg ⟨g.rho, g.h, Dl :: g.pv, upd g.H Dl o⟩ := by
  have hs : Sub g ⟨g.rho, g.h, Dl :: g.pv, upd g.H Dl o⟩ := ⟨fun _ _ h => h, fun a u h n => ⟨by
    show upd g.H Dl o a = some u
    rw [upd_ne (ne_of_none h hD)]; exact h, fun z => by
      rcases z with z | z
      · rcases List.mem_cons.mp z with e | z
        · rw [e, hD] at h; cases h
        · exact n (.inl z)
      · exact n (.inr z)⟩⟩
  have hn : ∀ (i : Nat) a, g.live i a → a ≠ Dl := fun i a ha e => by
    obtain ⟨u, q⟩ := R.tr i a ha
    rw [e, hD] at q; cases q
  refine ⟨hs, R.len, R.inj, fun a ha i hm => ?_, fun a ha => ?_, fun i a ha => ?_, fun i a w h1 h2 => (R.obj i a w h1 h2).sub hs fun u hu => ?_⟩
  · rcases List.mem_cons.mp (show a ∈ Dl :: g.pv from ha) with e | z
    · exact hn i a hm e
    · exact R.npv a z i hm
  · rcases List.mem_cons.mp (show a ∈ Dl :: g.pv from ha) with e | z
    · subst e; exact ⟨o, upd_same⟩
    · obtain ⟨u, q⟩ := R.pvt a z
      exact ⟨u, by show upd g.H Dl o a = some u; rw [upd_ne (ne_of_none q hD)]; exact q⟩
  · obtain ⟨u, q⟩ := R.tr i a ha
    exact ⟨u, by show upd g.H Dl o a = some u; rw [upd_ne (hn i a ha)]; exact q⟩
  · show upd g.H Dl o a = some u
    rw [upd_ne (ne_of_none hu hD)]; exact hu
/-- what was kept apart becomes a value -/
theorem pv_out {Dl : Addr} {ps : List Addr} (R : Rel K mg g) (hp : g.pv = Dl :: ps) (hn : Dl ∉ ps) : Sub g { g with pv := ps } ∧ Rel K mg { g with pv := ps } ∧ ¬ G.hid { g with pv := ps } Dl := by
  have hs : Sub g { g with pv := ps } := ⟨fun _ _ h => h, fun a u h n => ⟨h, fun z => n (by
    rcases z with z | z
    · exact .inl (by rw [hp]; exact List.mem_cons_of_mem _ z)
    · exact .inr z)⟩⟩
  refine ⟨hs, ⟨R.len, R.inj, fun a ha => R.npv a (by rw [hp]; exact List.mem_cons_of_mem _ ha), fun a ha => R.pvt a (by rw [hp]; exact List.mem_cons_of_mem _ ha), R.tr, fun i a w h1 h2 => (R.obj i a w h1 h2).sub hs fun u hu => hu⟩, ?_⟩
  rintro (z | ⟨i, o, h1, h2, h3⟩)
  · exact hn z
  · exact R.npv Dl (by rw [hp]; exact List.mem_cons_self) i ⟨h1, o, h2, h3⟩
theorem lc_run {mgt : MG} {tl vs : List Nat} {J : It} {xs : List T} {g1 : G} {s : SM} (R1 : Rel K mg g1) (S1 : RepS K mg g1 s σ) (it : ItOk K mg g1 xs J) (htl : ∀ i ∈ tl, i ∈ vs)
    (h : wpR K mg W g1 σ Q (lcFrom mgt mt me (wipeM s vs) xs [] g1.h)) (Dl : Addr) (hD : g1.H Dl = none) :
    ∃ Wd : Nat → Nat → Hp → Prop, (∃ m, Wd 0 m (upd g1.H Dl (.lst []))) ∧ ∀ i m H, Wd i m H →
      (J.stop i H ∧ Q (.ref Dl) H) ∨ (J.go i H ∧ ∃ Nx : Hp → Prop, (∀ H', Nx H' → ∃ m', m' < m ∧ Wd (i + 1) m' H') ∧ ∀ x H', J.yld i H x H' → tMG K mg tl mgt x (wipe σ vs) H' fun σ2 H2 => wipe σ2 vs = wipe σ vs ∧ tMT K mg W0 mt σ2 H2 fun b H3 =>
        if b = true then tM K mg W0 me σ2 H3 fun y H4 => ∃ acc, H4 Dl = some (.lst acc) ∧ acc.length < sizeLine ∧ Nx (upd H4 Dl (.lst (acc ++ [y]))) else Nx H3) := by
  have hpn : Dl ∉ g1.pv := fun z => blk_ne R1 hD Dl z rfl
  refine ⟨fun i m H => m = xs.length - i ∧ LcAt K mg W g1 Dl σ Q (lcFrom mgt mt me (wipeM s vs)) xs i H, ⟨xs.length, rfl, ?_⟩, fun i m H hW => ?_⟩
  · obtain ⟨s1, r1⟩ := pv_new (o := .lst []) R1 hD
    exact ⟨⟨_, [], [], rfl, r1, s1, rfl, fun a ha => by
      show upd g1.H Dl (.lst []) a = g1.H a
      rw [upd_ne (blk_ne R1 hD a ha)], upd_same, RepL.nil, Nat.zero_le _, by rw [List.drop_zero]; exact h⟩⟩
  · obtain ⟨rfl, ⟨gi, acc, accV, rfl, Ri, si, hpv, hpk, hDi, la, hi, hw⟩⟩ := hW
    by_cases hlt : i < xs.length
    · refine .inr ⟨it.go i gi si Ri hlt, fun H' => LcAt K mg W g1 Dl σ Q (lcFrom mgt mt me (wipeM s vs)) xs (i + 1) H', fun H' hn => ⟨xs.length - (i + 1), by omega, rfl, hn⟩, fun x H' hy => ?_⟩
      obtain ⟨g', rfl, eh, e1, R', t, ht, rt⟩ := it.yld i gi x H' si Ri hlt hy
      have edrop : xs.drop i = t :: xs.drop (i + 1) := by
        rw [List.drop_eq_getElem_cons hlt]
        have : xs[i] = t := by
          have := List.getElem?_eq_getElem hlt
          rw [ht] at this; exact (Option.some.inj this).symm
        rw [this]
      rw [edrop] at hw
      unfold lcFrom at hw
      have S' : RepS K mg g' (wipeM s vs) (wipe σ vs) := ((S1.sub si).mono e1).wipe vs
      refine ⟨g', wipeM s vs, t, rfl, R', S', rt, ?_⟩
      rw [eh]
      cases q : mgt t (wipeM s vs) gi.h with
      | stuck => rw [q] at hw; exact hw.elim
      | ok s2 h2 =>
        rw [q] at hw
        dsimp only at hw
        intro g2 σ2 q2 e2 R2 S2 w2
        refine ⟨(w2 vs htl).trans (wipe_wipe σ vs vs fun _ z => z), g2, s2, rfl, R2, S2, ?_⟩
        rw [q2]
        have chain : ∀ g3 : G, Ext g' g3 → Sub g1 g3 ∧ g3.pv = Dl :: g1.pv ∧ (∀ a ∈ g1.pv, g3.H a = g1.H a) ∧ g3.H Dl = some (.lst accV) ∧ RepL K mg g3 acc accV := fun g3 e3 => by
          have e := e1.trans e3
          refine ⟨⟨fun i a z => e.rho i a (si.rho i a z), fun a u z n => let ⟨z1, n1⟩ := si.keep a u z n; e.keep a u z1 n1⟩, e.pv.trans hpv, fun a ha => (e.pvk a (by rw [hpv]; exact List.mem_cons_of_mem _ ha)).trans (hpk a ha), (e.pvk Dl (by rw [hpv]; exact List.mem_cons_self)).trans hDi, la.mono e⟩
        cases q3 : mt s2 h2 with
        | stuck => rw [q3] at hw; exact hw.elim
        | ex x h3 => rw [q3] at hw; exact hw.elim
        | ok tb h3 =>
          cases tb with
          | bl bb =>
            rw [q3] at hw
            intro g3 q4 e3 R3
            cases bb with
            | false =>
              refine iteF ?_
              obtain ⟨c1, c2, c3, c4, c5⟩ := chain g3 (e2.trans e3)
              exact ⟨⟨g3, acc, accV, rfl, R3, c1, c2, c3, c4, c5, hlt, by rw [q4]; exact hw⟩⟩
            | true =>
              refine iteT ⟨g3, s2, rfl, R3, S2.mono e3, ?_⟩
              rw [q4]
              dsimp only at hw
              cases q5 : me s2 h3 with
              | stuck => rw [q5] at hw; exact hw.elim
              | ex x h4 => rw [q5] at hw; exact hw.elim
              | ok y h4 =>
                rw [q5] at hw
                dsimp only at hw
                intro g4 v q6 e4 R4 r4
                split at hw
                · rename_i hl
                  obtain ⟨c1, c2, c3, c4, c5⟩ := chain g4 ((e2.trans e3).trans e4)
                  refine ⟨accV, c4, big_lt (by rw [← la.length]; exact hl), ?_⟩
                  obtain ⟨s5, R5⟩ := pv_put (o := .lst (accV ++ [v])) R4 (by rw [c2]; exact List.mem_cons_self)
                  refine ⟨⟨_, acc ++ [y], accV ++ [v], rfl, R5, ⟨fun i a z => s5.rho i a (c1.rho i a z), fun a u z n => let ⟨z1, n1⟩ := c1.keep a u z n; s5.keep a u z1 n1⟩, c2, fun a ha => ?_, upd_same, (c5.sub s5).append (RepL.cons (Rep.sub s5 y v r4) RepL.nil), hlt, ?_⟩⟩
                  · show upd g4.H Dl _ a = g1.H a
                    rw [upd_ne (blk_ne R1 hD a ha)]; exact c3 a ha
                  · show wpR K mg W g1 σ Q (lcFrom mgt mt me (wipeM s vs) (xs.drop (i + 1)) (acc ++ [y]) g4.h)
                    rw [q6]; exact hw
                · exact hw.elim
          | _ => rw [q3] at hw; exact hw.elim
    · have e : i = xs.length := by omega
      subst e
      refine .inl ⟨it.stop _ gi si Ri (Nat.le_refl _), ?_⟩
      rw [List.drop_length] at hw
      unfold lcFrom at hw
      obtain ⟨s5, R5, n5⟩ := pv_out Ri hpv hpn
      refine hw { gi with pv := g1.pv } (.ref Dl) rfl ⟨si.rho, rfl, hpk, fun a u z n => let ⟨z1, n1⟩ := si.keep a u z n; s5.keep a u z1 n1⟩ R5 ?_
      simp only [Rep]
      exact ⟨Dl, accV, rfl, ⟨hDi, n5⟩, la.sub s5⟩
theorem wpI_lc {r : RL} {f : List T → MH → R} {Rr : It → Hp → Prop} (h : wpR K mg W g σ Q (r.bind f)) (k : ∀ g' xs J, Ext g g' → Rel K mg g' → ItOk K mg g' xs J → wpR K mg W g' σ Q (f xs g'.h) → Rr J g'.H) : wpI K mg W g σ Rr r := by
  cases r with
  | ok t h' => exact fun g' J q e R it => k g' t J e R it (by subst q; exact wpR.ext h e)
  | ex x h' => exact h
  | stuck => exact h
theorem use_lc {mi : MI} {mgt : MG} {tl vs : List Nat} (htl : ∀ i ∈ tl, i ∈ vs) {H : Hp} (h : tM K mg W (mLc mi mgt mt me vs) σ H Q) : tLc (tMI K mg W mi) (tMG K mg tl mgt) (tMT K mg W0 mt) (tM K mg W0 me) vs σ H Q := by
  obtain ⟨g, s, rfl, R, S, h⟩ := h
  exact ⟨g, s, rfl, R, S, wpI_lc h fun g1 xs J e1 R1 it h1 => fun Dl hD => lc_run R1 (S.mono e1) it htl h1 Dl hD⟩
def subN (a b : List Nat) : Bool := a.all fun i => b.contains i
theorem subN_ok {a b : List Nat} (h : subN a b = true) : ∀ i ∈ a, i ∈ b := fun i hi => by
  have := List.all_eq_true.mp h i hi
  simpa using this
theorem se_lc {elt tg iter : Expr} {ifs : List Expr} {scope : Scope} {own : List (Str × Nat)} {mi : MI} {mgt : MG} {tl : List Nat} (hc : X.calm = true) (hN : X.N.Nodup) (hi : SI X W tg iter mi) (ok : BlkOk X.N X.env.scope scope own) (htl : subN tl (own.map (·.2)) = true)
    (hg : ∀ (s : Shared) (H : Hp) (C : Addr) (cl : List (Str × Addr)) (fp : List Addr), SG (X.blk s H scope (compEnvC scope cl C X.env) fp) tg tl mgt)
    (ht : ∀ (s : Shared) (H : Hp) (C : Addr) (cl : List (Str × Addr)) (fp : List Addr), PTs (X.blk s H scope (compEnvC scope cl C X.env) fp) ifs (tMT X.K X.mg W0 mt))
    (he : ∀ (s : Shared) (H : Hp) (C : Addr) (cl : List (Str × Addr)) (fp : List Addr), SE (X.blk s H scope (compEnvC scope cl C X.env) fp) W0 elt me) (hs : ∀ x, foldedSetIterable iter X.env x = pure x := by intro _; rfl) :
    SE X W (.ListComp elt [⟨tg, iter, ifs, 0⟩] scope pos) (mLc mi mgt mt me (own.map (·.2))) :=
  weakE (pe_lc hc hN hi ok hg ht he hs) fun _ _ _ h => use_lc (subN_ok htl) h
theorem weakTs {X : Cx} {ifs : List Expr} {t t' : TT} (h : PTs X ifs t) (k : ∀ σ H Q, t' σ H Q → t σ H Q) : PTs X ifs t' := ⟨fun pins s σ H Q I q => h.run pins s σ H Q I (k σ H Q q)⟩
theorem sts_nil : PTs X [] (tMT X.K X.mg W (mC (.bl true))) := by
  refine weakTs pts_nil ?_
  rintro σ H Q ⟨g, s, rfl, R, S, h⟩
  exact wpT_here h R
theorem sts_one (h : ST X W c mc) : PTs X [c] (tMT X.K X.mg W mc) := pts_one h
end
end Mi
end part_Mi5
section part_Mi6
set_option maxRecDepth 100000
set_option maxHeartbeats 2000000
/-! Mi, part 6: statements, defs, calls. -/
namespace Mi
open PySem PySem.Spec PyProof.Rows L2
section
variable {X : Cx} {K : PySem.W.Frag} {mg : Str → Option Value} {W : WX} {g g' : G} {σ : L2.St} {Q : VK} {D : Ends}
variable {a b c e : Expr} {ma mb mc me mt : ME} {mr : MA} {pos p : Pos} {es : List Expr} {x : Str} {st : Stmt} {rest : List Stmt} {m m' : MS}
abbrev SS (X : Cx) (W : WX) (st : Stmt) (m : MS) : Prop := PS X st (tSM X.K X.mg W m)
abbrev SSs (X : Cx) (W : WX) (sts : List Stmt) (m : MS) : Prop := PSs X sts (tSM X.K X.mg W m)
/-- an expression's outcome within a statement -/
def R.toS (r : R) (s : SM) (f : T → MH → SR) : SR := match r with
  | .ok t h => f t h
  | .ex x h => .ex x s h
  | .stuck => .stuck
theorem wpS_bind {r : R} {s : SM} {f : T → MH → SR} {Q' : VK} (S : RepS K mg g s σ) (h : wpS K mg W g D (r.toS s f)) (k : ∀ g' t v, Ext g g' → Rel K mg g' → Rep K mg g' t v → wpS K mg W g' D (f t g'.h) → Q' v g'.H) : wpR K mg W g σ Q' r := by
  cases r with
  | ok t h' => exact fun g' v q e R r => k g' t v e R r (by subst q; exact wpS.ext h e)
  | ex x h' => exact fun g' cls d q e R r => h g' σ cls d q e R (S.mono e) r
  | stuck => exact h
theorem wpS_bindT {r : R} {s : SM} {f : T → MH → SR} {Q' : Bool → Hp → Prop} (S : RepS K mg g s σ) (h : wpS K mg W g D (r.toS s f)) (hb : ∀ t h, (∀ b, t ≠ .bl b) → f t h = .stuck) (k : ∀ g' b, Ext g g' → Rel K mg g' → wpS K mg W g' D (f (.bl b) g'.h) → Q' b g'.H) : wpT K mg W g σ Q' r := by
  cases r with
  | ok t h' =>
    by_cases hx : ∃ b, t = .bl b
    · obtain ⟨b, rfl⟩ := hx
      exact fun g' q e R => k g' b e R (by subst q; exact wpS.ext h e)
    · have z := hb t h' (fun b e => hx ⟨b, e⟩)
      have h2 : wpS K mg W g D (f t h') := h
      rw [z] at h2
      exact h2.elim
  | ex x h' => exact fun g' cls d q e R r => h g' σ cls d q e R (S.mono e) r
  | stuck => exact h
def mNx : MS := fun s h => .nx s h
theorem sss_nil : SSs X W [] mNx := by
  refine weakSs pss_nil ?_
  rintro D σ H ⟨g, s, rfl, R, S, h⟩
  exact h g σ rfl (Ext.refl g) R S
def mSq (m m' : MS) : MS := fun s h => match m s h with
  | .nx s1 h1 => m' s1 h1
  | r => r
theorem sss_cons (h1 : SS X W st m) (h2 : SSs X W rest m') : SSs X W (st :: rest) (mSq m m') := by
  refine weakSs (pss_cons h1 h2) ?_
  rintro D σ H ⟨g, s, rfl, R, S, h⟩
  refine ⟨g, s, rfl, R, S, ?_⟩
  unfold mSq at h
  cases q : m s g.h with
  | nx s1 h1 =>
    rw [q] at h
    intro g1 σ1 q1 e1 R1 S1
    exact ⟨g1, s1, rfl, R1, S1, by rw [q1]; exact wpS.ext h e1⟩
  | rt t h1 => rw [q] at h; exact h
  | bk s1 h1 => rw [q] at h; exact h
  | ct s1 h1 => rw [q] at h; exact h
  | ex x s1 h1 => rw [q] at h; exact h
  | stuck => rw [q] at h; exact h.elim
def mPass : MS := mNx
def mBk : MS := fun s h => .bk s h
def mCt : MS := fun s h => .ct s h
def mEx (me : ME) : MS := fun s h => (me s h).toS s fun _ h1 => .nx s h1
theorem ss_expr (he : SE X W e me) (hs : swapsWith e none pos.line X.env = pure false := by rfl) : SS X W (.Expr e pos) (mEx me) := by
  refine weakS (ps_expr he hs) ?_
  rintro D σ H ⟨g, s, rfl, R, S, h⟩
  exact ⟨g, s, rfl, R, S, wpS_bind S h fun g1 t v e1 R1 r1 h1 => h1 g1 σ rfl (Ext.refl _) R1 (S.mono e1)⟩
def mRet (me : ME) : MS := fun s h => (me s h).toS s fun t h1 => .rt t h1
theorem ss_ret (he : SE X W e me) : SS X W (.Return (some e) pos) (mRet me) := by
  refine weakS (ps_ret he) ?_
  rintro D σ H ⟨g, s, rfl, R, S, h⟩
  exact ⟨g, s, rfl, R, S, wpS_bind S h fun g1 t v e1 R1 r1 h1 => h1 g1 v rfl (Ext.refl _) R1 r1⟩
def mRetN : MS := fun s h => .rt .non h
def fIfS (m m' : MS) (s : SM) : T → MH → SR := fun t h => match t with
  | .bl true => m s h
  | .bl false => m' s h
  | _ => .stuck
def mIfS (mc : ME) (m m' : MS) : MS := fun s h => (mc s h).toS s (fIfS m m' s)
theorem ss_if {A B : List Stmt} (hc : ST X W c mc) (ha : SSs X W A m) (hb : SSs X W B m') : SS X W (.If c A B pos) (mIfS mc m m') := by
  refine weakS (ps_if hc ha hb) ?_
  rintro D σ H ⟨g, s, rfl, R, S, h⟩
  refine ⟨g, s, rfl, R, S, wpS_bindT S h (fun t h k => by cases t <;> first | exact absurd rfl (k _) | rfl) fun g1 b e1 R1 h1 => ?_⟩
  cases b with
  | true => exact iteT ⟨g1, s, rfl, R1, S.mono e1, h1⟩
  | false => exact iteF ⟨g1, s, rfl, R1, S.mono e1, h1⟩
/-! ### assignment -/
def mSet (i : Nat) (me : ME) : MS := fun s h => (me s h).toS s fun t h1 => .nx (s.set i (some t)) h1
theorem use_set {i : Nat} {H : Hp} (h : tSM K mg W (mSet i me) D σ H) : tAsg (tM K mg W me) (gName i) D σ H := by
  obtain ⟨g, s, rfl, R, S, h⟩ := h
  exact ⟨g, s, rfl, R, S, wpS_bind S h fun g1 t v e1 R1 r1 h1 => h1 g1 _ rfl (Ext.refl _) R1 ((S.mono e1).set r1 i)⟩
theorem ss_set {i : Nat} {pos' : Pos} (hN : X.N.Nodup) (he : SE X W e me) (hi : X.N[i]? = some x := by rfl) (hx : Loc X.env.scope x := by first | exact Or.inl rfl | exact Or.inr rfl) (hs : swapsWith e (some (.Name x pos')) pos.line X.env = pure false := by rfl) (hf : X.fn x = true ∨ X.env.scope.names.lookup x = some .local := by first | exact .inl rfl | exact .inr rfl) :
    SS X W (.Assign [.Name x pos'] e pos) (mSet i me) := weakS (ps_set hN hi hx he hs hf) fun _ _ _ h => use_set h
theorem ss_setLc {i : Nat} {py : Pos} {tg iter : Expr} {ifs : List Expr} {scope : Scope} {own : List (Str × Nat)} {mi : MI} {mgt : MG} {tl : List Nat} (hc : X.calm = true) (hN : X.N.Nodup) (hi : SI X W tg iter mi) (ok : BlkOk X.N X.env.scope scope own) (htl : subN tl (own.map (·.2)) = true)
    (hg : ∀ (s : Shared) (H : Hp) (C : Addr) (cl : List (Str × Addr)) (fp : List Addr), SG (X.blk s H scope (compEnvC scope cl C X.env) fp) tg tl mgt)
    (ht : ∀ (s : Shared) (H : Hp) (C : Addr) (cl : List (Str × Addr)) (fp : List Addr), PTs (X.blk s H scope (compEnvC scope cl C X.env) fp) ifs (tMT X.K X.mg W0 mt))
    (he : ∀ (s : Shared) (H : Hp) (C : Addr) (cl : List (Str × Addr)) (fp : List Addr), SE (X.blk s H scope (compEnvC scope cl C X.env) fp) W0 e me)
    (hsw : swapsWith (.ListComp e [⟨tg, iter, ifs, 0⟩] scope p) (some (.Name x py)) pos.line X.env = pure true) (hy : X.N[i]? = some x := by rfl) (hyl : X.env.scope.names.lookup x = some .local := by rfl) (hs : ∀ x, foldedSetIterable iter X.env x = pure x := by intro _; rfl) :
    SS X W (.Assign [.Name x py] (.ListComp e [⟨tg, iter, ifs, 0⟩] scope p) pos) (mSet i (mLc mi mgt mt me (own.map (·.2)))) :=
  weakS (ps_setLc hc hN hy hyl hsw hi ok hg ht he hs) fun D σ H h => use_set (me := mLc mi mgt mt me (own.map (·.2))) h |> fun z => by
    obtain ⟨g, s, rfl, R, S, h⟩ := h
    exact use_lc (W := W) (subN_ok htl) ⟨g, s, rfl, R, S, wpS_bind S h fun g1 t v e1 R1 r1 h1 => h1 g1 _ rfl (Ext.refl _) R1 ((S.mono e1).set r1 i)⟩
/-- a, b = x, y with plain local names -/
def mPar (i j : Nat) (mr : MA) : MS := fun s h => match mr s h with
  | .ok [t, u] h1 => .nx ((s.set i (some t)).set j (some u)) h1
  | .ok _ _ => .stuck
  | .ex x h1 => .ex x s h1
  | .stuck => .stuck
/-- target = value -/
def mAs (me : ME) (mgt : MG) : MS := fun s h => (me s h).toS s fun t h1 => match mgt t s h1 with
  | .ok s1 h2 => .nx s1 h2
  | .stuck => .stuck
theorem ss_asg {tg : Expr} {tl : List Nat} {mgt : MG} (he : SE X W e me) (hg : SG X tg tl mgt) (hs : swapsWithSole [tg] e pos.line X.env = pure false := by rfl) (hw : swappedStores [tg] e X.env = pure none := by rfl)
    (h1 : (assignEach [tg] X.env).map (·.2) = [assign tg X.env] := by rfl) : SS X W (.Assign [tg] e pos) (mAs me mgt) := by
  refine weakS (ps_asg he hg hs hw h1) ?_
  rintro D σ H ⟨g, s, rfl, R, S, h⟩
  refine ⟨g, s, rfl, R, S, wpS_bind S h fun g1 t v e1 R1 r1 h1 => ⟨g1, s, t, rfl, R1, S.mono e1, r1, ?_⟩⟩
  cases q : mgt t s g1.h with
  | ok s1 h2 =>
    rw [q] at h1
    exact fun g2 σ2 q2 e2 R2 S2 _ => h1 g2 σ2 q2 e2 R2 S2
  | stuck => rw [q] at h1; exact h1.elim
/-! ### for -/
def forFrom (mgt : MG) (mb : MS) : List T → SM → MH → SR
  | [], s, h => .nx s h
  | x :: xs, s, h => match mgt x s h with
    | .ok s1 h1 => match mb s1 h1 with
      | .nx s2 h2 => forFrom mgt mb xs s2 h2
      | .ct s2 h2 => forFrom mgt mb xs s2 h2
      | .bk s2 h2 => .nx s2 h2
      | r => r
    | .stuck => .stuck
def mFor (mi : MI) (mgt : MG) (mb : MS) : MS := fun s h => match mi s h with
  | .ok xs h1 => forFrom mgt mb xs s h1
  | .ex x h1 => .ex x s h1
  | .stuck => .stuck
structure FoAt (K : PySem.W.Frag) (mg : Str → Option Value) (W : WX) (g1 : G) (D : Ends) (r : List T → SM → MH → SR) (xs : List T) (i : Nat) (σ : L2.St) (H : Hp) : Prop where
  ex : ∃ (gi : G) (s : SM), gi.H = H ∧ Rel K mg gi ∧ Ext g1 gi ∧ RepS K mg gi s σ ∧ i ≤ xs.length ∧ wpS K mg W gi D (r (xs.drop i) s gi.h)
theorem for_run {mgt : MG} {mb : MS} {tl : List Nat} {J : It} {xs : List T} {g1 : G} {s : SM} (R1 : Rel K mg g1) (S1 : RepS K mg g1 s σ) (it : ItOk K mg g1 xs J) (h : wpS K mg W g1 D (forFrom mgt mb xs s g1.h)) :
    ∃ Wd : Nat → Nat → L2.St → Hp → Prop, (∃ m, Wd 0 m σ g1.H) ∧ ∀ i m σ H, Wd i m σ H →
      (J.stop i H ∧ D.nx σ H) ∨ (J.go i H ∧ ∃ N : L2.St → Hp → Prop, (∀ σ' H', N σ' H' → ∃ m', m' < m ∧ Wd (i + 1) m' σ' H') ∧ ∀ x H', J.yld i H x H' → tMG K mg tl mgt x σ H' fun σ2 H2 => tSM K mg W mb { D with nx := N, ct := N, bk := D.nx } σ2 H2) := by
  refine ⟨fun i m σ H => m = xs.length - i ∧ FoAt K mg W g1 D (forFrom mgt mb) xs i σ H, ⟨xs.length, rfl, ⟨g1, s, rfl, R1, Ext.refl _, S1, Nat.zero_le _, by rw [List.drop_zero]; exact h⟩⟩, fun i m σ H hW => ?_⟩
  obtain ⟨rfl, ⟨gi, s, rfl, Ri, ei, Si, hi, hw⟩⟩ := hW
  by_cases hlt : i < xs.length
  · refine .inr ⟨it.go i gi ei.sub Ri hlt, fun σ' H' => FoAt K mg W g1 D (forFrom mgt mb) xs (i + 1) σ' H', fun σ' H' hn => ⟨xs.length - (i + 1), by omega, rfl, hn⟩, fun x H' hy => ?_⟩
    obtain ⟨g', rfl, eh, e1, R', t, ht, rt⟩ := it.yld i gi x H' ei.sub Ri hlt hy
    have edrop : xs.drop i = t :: xs.drop (i + 1) := by
      rw [List.drop_eq_getElem_cons hlt]
      have : xs[i] = t := by
        have := List.getElem?_eq_getElem hlt
        rw [ht] at this; exact (Option.some.inj this).symm
      rw [this]
    rw [edrop] at hw
    unfold forFrom at hw
    refine ⟨g', s, t, rfl, R', Si.mono e1, rt, ?_⟩
    rw [eh]
    cases q : mgt t s gi.h with
    | stuck => rw [q] at hw; exact hw.elim
    | ok s2 h2 =>
      rw [q] at hw
      dsimp only at hw
      intro g2 σ2 q2 e2 R2 S2 _
      refine ⟨g2, s2, rfl, R2, S2, ?_⟩
      rw [q2]
      cases q3 : mb s2 h2 with
      | nx s3 h3 =>
        rw [q3] at hw
        exact fun g3 σ3 q4 e3 R3 S3 => ⟨g3, s3, rfl, R3, ((ei.trans e1).trans e2).trans e3, S3, hlt, by rw [q4]; exact wpS.ext hw ((e1.trans e2).trans e3)⟩
      | ct s3 h3 =>
        rw [q3] at hw
        exact fun g3 σ3 q4 e3 R3 S3 => ⟨g3, s3, rfl, R3, ((ei.trans e1).trans e2).trans e3, S3, hlt, by rw [q4]; exact wpS.ext hw ((e1.trans e2).trans e3)⟩
      | bk s3 h3 =>
        rw [q3] at hw
        exact fun g3 σ3 q4 e3 R3 S3 => hw g3 σ3 q4 ((e1.trans e2).trans e3) R3 S3
      | rt t3 h3 =>
        rw [q3] at hw
        exact fun g3 v q4 e3 R3 r3 => hw g3 v q4 ((e1.trans e2).trans e3) R3 r3
      | ex x3 s3 h3 =>
        rw [q3] at hw
        exact fun g3 σ3 cls d q4 e3 R3 S3 r3 => hw g3 σ3 cls d q4 ((e1.trans e2).trans e3) R3 S3 r3
      | stuck => rw [q3] at hw; exact hw.elim
  · have e : i = xs.length := by omega
    subst e
    refine .inl ⟨it.stop _ gi ei.sub Ri (Nat.le_refl _), ?_⟩
    rw [List.drop_length] at hw
    exact hw gi σ rfl (Ext.refl _) Ri Si
theorem ss_for {tg iter : Expr} {body : List Stmt} {mi : MI} {mgt : MG} {tl : List Nat} {mb : MS} (hp : PassesOwn (model X.prog X.w) X.A X.env X.xe) (hc : X.calm = true) (hi : SI X W tg iter mi) (hg : SG X tg tl mgt) (hb : SSs X W body mb)
    (hs : ∀ x, foldedSetIterable iter X.env x = pure x := by intro _; rfl) : SS X W (.For tg iter body [] pos) (mFor mi mgt mb) := by
  refine weakS (ps_for hp hc hi hg hb hs) ?_
  rintro D σ H ⟨g, s, rfl, R, S, h⟩
  refine ⟨g, s, rfl, R, S, ?_⟩
  unfold mFor at h
  cases q : mi s g.h with
  | ok xs h1 =>
    rw [q] at h
    exact fun g1 J q1 e1 R1 it => for_run R1 (S.mono e1) it (by rw [q1]; exact wpS.ext h e1)
  | ex x h1 =>
    rw [q] at h
    exact fun g1 cls d q1 e1 R1 r1 => h g1 σ cls d q1 e1 R1 (S.mono e1) r1
  | stuck => rw [q] at h; exact h.elim
/-! ### while: by fuel -/
end
end Mi
end part_Mi6
section part_Mi7
set_option maxRecDepth 100000
set_option maxHeartbeats 2000000
/-! Mi, part 7: defs and calls. -/
namespace Mi
open PySem PySem.Spec PyProof.Rows L2
mutual
def closed : T → Bool
  | .non => true
  | .bl _ => true
  | .int _ => true
  | .str _ => true
  | .tup xs => closedL xs
  | .lst xs => closedL xs
  | .frl xs => closedL xs
  | .dct _ vs => closedL vs
  | .obj _ _ vs => closedL vs
  | .ref _ => false
  | .exn _ _ vs => closedL vs
  | .cls _ => true
  | .fn _ _ _ => true
  | .fnc _ _ _ _ => false
  | .tpl _ => false
def closedL : List T → Bool
  | [] => true
  | t :: ts => closed t && closedL ts
end
theorem closedL_mem : ∀ {ts : List T}, closedL ts = true → ∀ t ∈ ts, closed t = true
  | [], _, t, h => by cases h
  | u :: ts, h, t, ht => by
    simp only [closedL, Bool.and_eq_true] at h
    rcases List.mem_cons.mp ht with e | e
    · rw [e]; exact h.1
    · exact closedL_mem h.2 t e
section
variable {X : Cx} {K : PySem.W.Frag} {mg : Str → Option Value} {W : WX} {g g' : G} {σ : L2.St} {Q : VK} {D : Ends}
variable {a b c e : Expr} {ma mb mc me mt : ME} {mr : MA} {pos p : Pos} {es : List Expr} {x : Str}
theorem RepL.monoC {P : T → Prop} : ∀ {ts : List T} {vs : List V}, (∀ t ∈ ts, P t) → (∀ t ∈ ts, P t → ∀ v, Rep K mg g t v → Rep K mg g' t v) → RepL K mg g ts vs → RepL K mg g' ts vs
  | [], vs, _, _, h => by simpa only [RepL] using h
  | t :: ts, vs, hp, f, h => by
    simp only [RepL] at h ⊢
    obtain ⟨v, r, e, h1, h2⟩ := h
    exact ⟨v, r, e, f t List.mem_cons_self (hp t List.mem_cons_self) v h1, RepL.monoC (fun t ht => hp t (List.mem_cons_of_mem _ ht)) (fun t ht => f t (List.mem_cons_of_mem _ ht)) h2⟩
/-- a closed tree's representation leans on no changeable object's number -/
theorem Rep.subC (k : ∀ a o, g.H a = some o → ¬ g.hid a → g'.H a = some o ∧ ¬ g'.hid a) : ∀ t, closed t = true → ∀ v, Rep K mg g t v → Rep K mg g' t v := by
  intro t
  induction t using T.ind with
  | non => intro _ v h; simpa only [Rep] using h
  | bl b => intro _ v h; simpa only [Rep] using h
  | int i => intro _ v h; simpa only [Rep] using h
  | str s => intro _ v h; simpa only [Rep] using h
  | tup xs ih =>
    intro c v h; simp only [Rep] at h ⊢; simp only [closed] at c
    obtain ⟨p, vs, e1, h1, h2⟩ := h
    refine ⟨p, vs, e1, ?_, RepL.monoC (closedL_mem c) ih h2⟩
    rcases h1 with ⟨⟨o, h1, hd⟩, n⟩ | h1
    · exact .inl ⟨⟨o, (k _ _ h1 n).1, hd⟩, (k _ _ h1 n).2⟩
    · exact .inr h1
  | tpl xs _ => intro c; simp only [closed] at c; cases c
  | lst xs ih =>
    intro c v h; simp only [Rep] at h ⊢; simp only [closed] at c
    obtain ⟨p, vs, e1, ⟨h1, n⟩, h2⟩ := h
    exact ⟨p, vs, e1, k _ _ h1 n, RepL.monoC (closedL_mem c) ih h2⟩
  | frl xs ih =>
    intro c v h; simp only [Rep] at h ⊢; simp only [closed] at c
    obtain ⟨p, vs, e1, h1, h2⟩ := h
    refine ⟨p, vs, e1, ?_, RepL.monoC (closedL_mem c) ih h2⟩
    rcases h1 with ⟨⟨o, h1⟩, n⟩ | h1
    · exact .inl ⟨⟨o, (k _ _ h1 n).1⟩, (k _ _ h1 n).2⟩
    · exact .inr h1
  | dct ks vs ih1 ih2 =>
    intro c v h; simp only [Rep] at h ⊢; simp only [closed] at c
    obtain ⟨p, kvs, e1, ⟨⟨o, h1⟩, n⟩, e2, h2⟩ := h
    exact ⟨p, kvs, e1, ⟨⟨o, (k _ _ h1 n).1⟩, (k _ _ h1 n).2⟩, e2, RepL.monoC (closedL_mem c) ih2 h2⟩
  | obj cc ns vs ih =>
    intro c v h; simp only [Rep] at h ⊢; simp only [closed] at c
    obtain ⟨p, C, dx, fs, e1, ⟨h1, n⟩, e2, e3, h2⟩ := h
    exact ⟨p, C, dx, fs, e1, k _ _ h1 n, e2, e3, RepL.monoC (closedL_mem c) ih h2⟩
  | ref i => intro c; simp only [closed] at c; cases c
  | cls c => intro _ v h; simpa only [Rep] using h
  | fn kk I C =>
    intro _ v h; simp only [Rep] at h ⊢
    exact h.subH fun a o z1 z2 _ => k a o z1 z2
  | fnc kk I C n => intro c; simp only [closed] at c; cases c
  | exn cc ns vs ih =>
    intro c v h; simp only [Rep] at h ⊢; simp only [closed] at c
    obtain ⟨p, C, d, fs, e1, ⟨h1, n⟩, ⟨h2, n2⟩, e2, e3, h3⟩ := h
    exact ⟨p, C, d, fs, e1, k _ _ h1 n, k _ _ h2 n2, e2, e3, RepL.monoC (closedL_mem c) ih h3⟩
theorem RepL.subC (k : ∀ a o, g.H a = some o → ¬ g.hid a → g'.H a = some o ∧ ¬ g'.hid a) {ts : List T} {vs : List V} (c : closedL ts = true) (h : RepL K mg g ts vs) : RepL K mg g' ts vs :=
  RepL.monoC (closedL_mem c) (fun t _ c v => Rep.subC k t c v) h
/-! ### the hidden places as a list -/
def liveAds : List Addr → List MO → List Addr
  | a :: as, .dead :: os => liveAds as os
  | a :: as, _ :: os => a :: liveAds as os
  | _, _ => []
theorem liveAds_mem : ∀ {as : List Addr} {os : List MO} {a : Addr}, a ∈ liveAds as os ↔ ∃ (i : Nat) (o : MO), as[i]? = some a ∧ os[i]? = some o ∧ o ≠ MO.dead
  | [], os, a => by simp [liveAds]
  | b :: as, [], a => by simp [liveAds]
  | b :: as, o :: os, a => by
    have ih := liveAds_mem (as := as) (os := os) (a := a)
    have split : (∃ (i : Nat) (o' : MO), (b :: as)[i]? = some a ∧ (o :: os)[i]? = some o' ∧ o' ≠ MO.dead) ↔ ((b = a ∧ o ≠ MO.dead) ∨ ∃ (i : Nat) (o' : MO), as[i]? = some a ∧ os[i]? = some o' ∧ o' ≠ MO.dead) := by
      constructor
      · rintro ⟨i, o', h1, h2, h3⟩
        cases i with
        | zero => simp at h1 h2; subst h1 h2; exact .inl ⟨rfl, h3⟩
        | succ i => exact .inr ⟨i, o', by simpa using h1, by simpa using h2, h3⟩
      · rintro (⟨e, h⟩ | ⟨i, o', h1, h2, h3⟩)
        · exact ⟨0, o, by simp [e], by simp, h⟩
        · exact ⟨i + 1, o', by simpa using h1, by simpa using h2, h3⟩
    rw [split, ← ih]
    cases o with
    | dead => simp [liveAds]
    | lst xs => simp [liveAds, eq_comm]
    | dct ks ts => simp [liveAds, eq_comm]
    | ins c ns ts => simp [liveAds, eq_comm]
    | tab q P => simp [liveAds, eq_comm]
    | cel ot => simp [liveAds, eq_comm]
    | dcn w kts => simp [liveAds, eq_comm]
def G.hidL (g : G) : List Addr := g.pv ++ liveAds g.rho g.h
theorem hidL_mem {a : Addr} : a ∈ g.hidL ↔ g.hid a := by
  unfold G.hidL G.hid
  rw [List.mem_append, liveAds_mem]
/-- the ghost of a call that sees no changeable object -/
def G.pure (g : G) : G := ⟨[], [], g.hidL, g.H⟩
theorem hid_pure {H : Hp} {a : Addr} : G.hid ⟨[], [], g.hidL, H⟩ a ↔ g.hid a := by
  constructor
  · rintro (h | ⟨i, o, h, _⟩)
    · exact hidL_mem.mp h
    · simp at h
  · exact fun h => .inl (hidL_mem.mpr h)
theorem Rel.hid_there (R : Rel K mg g) {a : Addr} (h : g.hid a) : ∃ o, g.H a = some o := by
  rcases h with h | ⟨i, o, h1, h2, h3⟩
  · exact R.pvt a h
  · exact R.tr i a ⟨h1, o, h2, h3⟩
theorem live_nil {l : List Addr} {H : Hp} {i : Nat} {a : Addr} : ¬ G.live ⟨[], [], l, H⟩ i a := fun ⟨h, _⟩ => by simp at h
theorem Rel.pure (R : Rel K mg g) : Rel K mg g.pure :=
  ⟨rfl, fun i j a h => (live_nil h).elim, fun a _ i h => live_nil h, fun a ha => R.hid_there (hidL_mem.mp ha), fun i a h => (live_nil h).elim, fun i a o h => by simp [G.pure] at h⟩
/-- behind such a call -/
theorem pure_back {gc : G} (R : Rel K mg g) (e : Ext g.pure gc) : Ext g { g with H := gc.H } ∧ Rel K mg { g with H := gc.H } := by
  have kp : ∀ a o, g.H a = some o → gc.H a = some o := fun a o h => by
    by_cases q : g.hid a
    · have := e.pvk a (show a ∈ g.pure.pv from hidL_mem.mpr q)
      rw [this]; exact h
    · exact (e.keep a o h (fun z => q (hid_pure.mp z))).1
  have hs : Sub g { g with H := gc.H } := ⟨fun _ _ h => h, fun a o h n => ⟨kp a o h, n⟩⟩
  refine ⟨⟨hs.rho, rfl, fun a ha => ?_, hs.keep⟩, R.len, R.inj, R.npv, fun a ha => ?_, fun i a ha => ?_, fun i a o h1 h2 => (R.obj i a o h1 h2).sub hs fun u hu => kp a u hu⟩
  · exact e.pvk a (show a ∈ g.pure.pv from hidL_mem.mpr (.inl ha))
  · obtain ⟨o, h⟩ := R.pvt a ha; exact ⟨o, kp a o h⟩
  · obtain ⟨o, h⟩ := R.tr i a ha; exact ⟨o, kp a o h⟩
theorem rep_back {gc : G} (e : Ext g.pure gc) {t : T} {v : V} (c : closed t = true) (r : Rep K mg gc t v) : Rep K mg { g with H := gc.H } t v :=
  Rep.subC (g := gc) (g' := { g with H := gc.H }) (fun a o h n => ⟨h, fun z => n (.inl (by rw [e.pv]; exact hidL_mem.mpr z))⟩) t c v r
theorem repL_fwd {ts : List T} {vs : List V} (c : closedL ts = true) (r : RepL K mg g ts vs) : RepL K mg g.pure ts vs :=
  RepL.subC (g := g) (g' := g.pure) (fun a o h n => ⟨h, fun z => n (hid_pure (g := g) (H := g.H) |>.mp z)⟩) c r
theorem repX_back {gc : G} (e : Ext g.pure gc) {x : Exc} {cls : Value} {d : Option Addr} (c : closedL x.vs = true) (r : RepX K mg gc x cls d) : RepX K mg { g with H := gc.H } x cls d := by
  obtain ⟨C, da, fs, e1, e2, e3, ⟨h1, n⟩, e4, h2⟩ := r
  have kn : ∀ a o, gc.H a = some o → ¬ gc.hid a → (G.mk g.rho g.h g.pv gc.H).H a = some o ∧ ¬ (G.mk g.rho g.h g.pv gc.H).hid a := fun a o h n => ⟨h, fun z => n (.inl (by rw [e.pv]; exact hidL_mem.mpr z))⟩
  exact ⟨C, da, fs, e1, e2, e3, kn _ _ h1 n, e4, RepL.subC kn c h2⟩
/-! ### promises -/
abbrev MF := List T → MH → R
def wpD (K : PySem.W.Frag) (mg : Str → Option Value) (g : G) (Q : VK) (E : XK) : R → Prop
  | .ok t h' => ∀ g' v, g'.h = h' → Ext g g' → Rel K mg g' → Rep K mg g' t v → Q v g'.H
  | .ex x h' => ∀ g' cls d, g'.h = h' → Ext g g' → Rel K mg g' → RepX K mg g' x cls d → E cls d g'.H
  | .stuck => False
def spM (K : PySem.W.Frag) (mg : Str → Option Value) (n : Nat) (m : MF) : Sp := fun vs H Q E => ∃ g ts, g.H = H ∧ Rel K mg g ∧ RepL K mg g ts vs ∧ ts.length = n ∧ wpD K mg g Q E (m ts g.h)
theorem spM_len {n : Nat} {m : MF} {vs : List V} {H : Hp} {E : XK} (h : spM K mg n m vs H Q E) : vs.length = n := by
  obtain ⟨g, ts, _, _, r, l, _⟩ := h
  rw [← r.length]; exact l
/-- a def's mirror, by its body's -/
def mDef (N : Nat) (mb : MS) : MF := fun ts h => match mb (ts.map some ++ List.replicate (N - ts.length) none) h with
  | .nx _ h1 => .ok .non h1
  | .rt t h1 => .ok t h1
  | .ex x _ h1 => .ex x h1
  | _ => .stuck
theorem repS_start {N : List Str} {ts : List T} {vs : List V} (r : RepL K mg g ts vs) : RepS K mg g (ts.map some ++ List.replicate (N.length - ts.length) none) (L2.start N vs) := by
  unfold L2.start
  refine ⟨by simp only [List.length_append, List.length_map, List.length_replicate, r.length], fun i t h => ?_⟩
  by_cases l : i < ts.length
  · rw [List.getElem?_append_left (by simpa using l)] at h
    rw [List.getElem?_append_left (by rw [List.length_map, ← r.length]; exact l)]
    rw [List.getElem?_map] at h ⊢
    cases q : ts[i]? with
    | none => rw [q] at h; cases h
    | some u =>
      rw [q] at h
      have h : some (some u) = some (some t) := h
      cases h
      obtain ⟨v, e, rv⟩ := r.get q
      exact ⟨v, by rw [e]; rfl, rv⟩
  · rw [List.getElem?_append_right (by simpa using Nat.le_of_not_lt l)] at h
    have := List.mem_of_getElem? h
    simp at this
/-- THE RULE for a def -/
theorem def_ok {P : Program} {w : World} {base : Heap} {x qual : Str} {params : Arguments} {body : List Stmt} {scope : Scope} {dvs : List V} {kws : List (Str × V)} {f : Addr} {fd : FuncData} {N ps : List Str} {k n : Nat} {mb : MS}
    (F : FunD K x qual params body scope dvs kws f fd) (S : FnScope N ps scope) (hn : ps.length = n)
    (hbody : ∀ (cdv : Value) (A : Around) (outer : List Env) (s : Shared) (H : Hp) (E : XK), Room k (A.deeper (envOfC qual scope s.heap.objs.size f cdv)) →
      SSs (cxOf (L2.CX P w) P w K mg base N qual scope f cdv A outer s H E) (fun cls d _ H => E cls d H) body mb) :
    FnOk P w K mg base (L2.CX P w) (k + 1) f fd ps (spM K mg n (mDef N.length mb)) := by
  refine F.ok S (fun vs H Q E h => (spM_len h).trans hn.symm) fun cdv A outer s H vs Q E hr h => ⟨_, hbody cdv A outer s H E hr, ?_⟩
  obtain ⟨g, ts, rfl, R, r, l, h⟩ := h
  refine ⟨g, _, rfl, R, repS_start r, ?_⟩
  unfold mDef at h
  cases q : mb (ts.map some ++ List.replicate (N.length - ts.length) none) g.h with
  | nx s' h' =>
    rw [q] at h
    exact fun g' σ' q1 e R' S' => h g' .non q1 e R' rNon
  | rt t h' => rw [q] at h; exact fun g' v q1 e R' r' => h g' v q1 e R' r'
  | bk s' h' => rw [q] at h; exact h.elim
  | ct s' h' => rw [q] at h; exact h.elim
  | ex y s' h' => rw [q] at h; exact fun g' σ' cls d q1 e R' S' r' => h g' cls d q1 e R' r'
  | stuck => rw [q] at h; exact h.elim
/-- a weaker level -/
theorem FnOk.up {P : Program} {w : World} {K : PySem.W.Frag} {mg : Str → Option Value} {base : Heap} {CX : CXT} {j k : Nat} {f : Addr} {fd : FuncData} {ps : List Str} {sp : Sp} (F : FnOk P w K mg base CX j f fd ps sp) (h : j ≤ k) : FnOk P w K mg base CX k f fd ps sp := F.mono h
/-! ### calls -/
abbrev FnM (X : Cx) (k : Nat) (f : Addr) (fd : FuncData) (ps : List Str) (n : Nat) (m : MF) : Prop := FnOk X.prog X.w X.K X.mg X.base (L2.CX X.prog X.w) k f fd ps (spM X.K X.mg n m)
/-- a call that may change what the caller sees -/
theorem call_st {n : Nat} {m : MF} {ts : List T} {vs : List V} (R : Rel K mg g) (r : RepL K mg g ts vs) (hn : ts.length = n) (h : wpR K mg W g σ Q (m ts g.h)) : spM K mg n m vs g.H Q (WE W σ) := by
  refine ⟨g, ts, rfl, R, r, hn, ?_⟩
  cases q : m ts g.h with
  | ok t h' => rw [q] at h; exact h
  | ex x h' => rw [q] at h; exact h
  | stuck => rw [q] at h; exact h
def pureR (r : R) (h : MH) : R := match r with
  | .ok t _ => if closed t then .ok t h else .stuck
  | .ex x _ => if closedL x.vs then .ex x h else .stuck
  | .stuck => .stuck
def fP (n : Nat) (m : MF) : List T → MH → R := fun ts h => if ts.length = n ∧ closedL ts = true then pureR (m ts []) h else .stuck
def fS (n : Nat) (m : MF) : List T → MH → R := fun ts h => if ts.length = n then m ts h else .stuck
theorem call_pu {n : Nat} {m : MF} {ts : List T} {vs : List V} (R : Rel K mg g) (r : RepL K mg g ts vs) (h : wpR K mg W g σ Q (fP n m ts g.h)) : spM K mg n m vs g.H Q (WE W σ) := by
  unfold fP at h
  split at h
  · rename_i q
    obtain ⟨hn, hc⟩ := q
    refine ⟨g.pure, ts, rfl, R.pure, repL_fwd hc r, hn, ?_⟩
    show wpD K mg g.pure Q (WE W σ) (m ts [])
    unfold pureR at h
    cases q2 : m ts [] with
    | ok t h' =>
      rw [q2] at h
      dsimp only at h
      split at h
      · rename_i ct
        intro gc v _ e _ rv
        obtain ⟨e1, R1⟩ := pure_back R e
        exact h { g with H := gc.H } v rfl e1 R1 (rep_back e ct rv)
      · exact h.elim
    | ex x h' =>
      rw [q2] at h
      dsimp only at h
      split at h
      · rename_i ct
        intro gc cls d _ e _ rv
        obtain ⟨e1, R1⟩ := pure_back R e
        exact h { g with H := gc.H } cls d rfl e1 R1 (repX_back e ct rv)
      · exact h.elim
    | stuck => rw [q2] at h; exact h.elim
  · exact h.elim
/-- how a value is called -/
def Calls2 (X : Cx) (W : WX) (n : Nat) (m : MF) (f : List T → MH → R) : Prop := ∀ g σ ts vs Q, Rel X.K X.mg g → RepL X.K X.mg g ts vs → wpR X.K X.mg W g σ Q (f ts g.h) → spM X.K X.mg n m vs g.H Q (WE W σ)
theorem calls_st {n : Nat} {m : MF} : Calls2 X W n m (fS n m) := fun g σ ts vs Q R r h => by
  unfold fS at h
  split at h
  · rename_i q; exact call_st R r q h
  · exact h.elim
theorem calls_pu {n : Nat} {m : MF} : Calls2 X W n m (fP n m) := fun g σ ts vs Q R r h => call_pu R r h
/-- the defaults that fill up -/
def withD (dts : List T) (f : List T → MH → R) : List T → MH → R := fun ts h => f (ts ++ dts) h
theorem se_call {f : Addr} {fd : FuncData} {ps : List Str} {n k : Nat} {m : MF} {fm : List T → MH → R} {ds : List Value} {dvs : List V} {dts : List T} (F : FnM X k f fd ps n m) (hr : Room k X.A) (tk : Takes X W) (hm : X.mg x = some (.ref f)) (hk : PySem.W.keepIn X.K (.ref f) = true) (hb : Binds X.K fd ps ds) (hd : Vals dvs ds)
    (hdt : ∀ g, RepL X.K X.mg g dts dvs) (cl : Calls2 X W n m fm) (ha : SA X W (e :: es) mr) (hg : Gl X x := by rfl)
    (hdb : (x == ("__debug__" : Str)) = false := by decide) (he : starEach (e :: es) X.env = (false, eval e X.env) :: starEach es X.env := by rfl) (hpl : (backTo pos (starEach es X.env)).any (·.1) = false := by rfl) :
    SE X W (.Call (.Name x p) (e :: es) [] pos) (mA (withD dts fm) mr) := by
  refine weakE (pe_callSD F hr hg hm hk hb hd (fun σ => passAt tk σ) ha hdb he hpl) ?_
  rintro σ H Q ⟨g, s, rfl, R, S, h⟩
  exact ⟨g, s, rfl, R, S, wpL_of h fun g1 ts vs e1 R1 r1 h1 => cl g1 σ (ts ++ dts) (vs ++ dvs) Q R1 (r1.append (hdt g1)) h1⟩
end
end Mi
end part_Mi7
section part_Mi8
set_option maxRecDepth 100000
set_option maxHeartbeats 2000000
/-! Mi, part 8: times, in, chains, f-strings, isinstance, index, live lists, calls by keywords, globals, freezing. -/
namespace Mi
open PySem PySem.Spec PyProof.Rows L2
section
variable {X : Cx} {K : PySem.W.Frag} {mg : Str → Option Value} {W : WX} {g g' : G} {σ : L2.St} {Q : VK} {D : Ends}
variable {a b c e : Expr} {ma mb mc me mt : ME} {mr : MA} {pos p : Pos} {es : List Expr} {x : Str} {m : MS} {sts : List Stmt}
/-! ### times -/
def mulOk (i j : Int) : Bool := (decide (-18446744073709551616 < i) && decide (i < 18446744073709551616)) || (decide (-18446744073709551616 < j) && decide (j < 18446744073709551616))
theorem mulOk_of {i j : Int} (h : mulOk i j = true) : CMul i j := by
  unfold mulOk at h
  simp only [Bool.or_eq_true, Bool.and_eq_true, decide_eq_true_eq] at h
  unfold CMul
  omega
def strMulOk (s : Str) (i : Int) : Bool := decide (s.length ≤ 1000) && decide (-1000 ≤ i) && decide (i ≤ 1000)
theorem op_mul_str : OpR X (binaryOp .Mult) (fun x y H Q => ∃ s i, x = .str s ∧ y = .int i ∧ strMulOk s i = true ∧ Q (.str (Txt.mul s i)) H) := by
  intro pins s σ H x y v u Q I rx ry h
  obtain ⟨z, i, rfl, rfl, hc, q⟩ := h
  obtain ⟨t, rfl⟩ := rx
  obtain ⟨t', rfl⟩ := ry
  unfold strMulOk at hc
  simp only [Bool.and_eq_true, decide_eq_true_eq] at hc
  obtain ⟨⟨h1, h2⟩, h3⟩ := hc
  exact PySem.SB.mul (PyProof.Rows.mulOk_of 1000 1000 h1 (by omega) (by omega) (by omega) (by omega)) fun t' k => ⟨.str _, H, I.tok _, ⟨_, rfl⟩, q⟩
def repOk (xs : List T) (i : Int) : Bool := decide (-1000 ≤ i) && decide (i ≤ 1000) && decide (xs.length ≤ 100)
def fMul : T → T → MH → R := fun t u h => match t, u with
  | .int i, .int j => if mulOk i j then .ok (.int (i * j)) h else .stuck
  | .str s, .int i => if strMulOk s i then .ok (.str (Txt.mul s i)) h else .stuck
  | .lst xs, .int i => if repOk xs i then .ok (.lst (List.replicate i.toNat xs).flatten) h else .stuck
  | _, _ => .stuck
abbrev rMulV : R2 := fun x y H Q => (rI CMul fun i j => .int (i * j)) x y H Q ∨ (fun x y H Q => (∃ s i, x = .str s ∧ y = .int i ∧ strMulOk s i = true ∧ Q (.str (Txt.mul s i)) H) ∨ rRep x y H Q) x y H Q
theorem op_mulV : OpR X (binaryOp .Mult) rMulV := op_mul.or (op_mul_str.or op_rep)
theorem RepL.rep {xs : List T} {vs : List V} (r : RepL K mg g xs vs) : ∀ n : Nat, RepL K mg g (List.replicate n xs).flatten (List.replicate n vs).flatten
  | 0 => RepL.nil
  | n + 1 => by
    rw [List.replicate_succ, List.replicate_succ, List.flatten_cons, List.flatten_cons]
    exact r.append (RepL.rep r n)
theorem mMulV : OpM X fMul rMulV := by
  intro W g σ t u x y Q R r1 r2 h
  unfold fMul at h
  split at h
  · rename_i i j
    rw [rep_int r1, rep_int r2]
    split at h
    · rename_i q; exact .inl ⟨i, j, rfl, rfl, mulOk_of q, wpR_here h R rInt⟩
    · exact h.elim
  · rename_i s i
    rw [rep_str r1, rep_int r2]
    split at h
    · rename_i q; exact .inr (.inl ⟨s, i, rfl, rfl, q, wpR_here h R rStr⟩)
    · exact h.elim
  · rename_i xs i
    rw [rep_int r2]
    obtain ⟨p, vs, rfl, h1, l1⟩ := rep_lst_at r1
    split at h
    · rename_i q
      unfold repOk at q
      simp only [Bool.and_eq_true, decide_eq_true_eq] at q
      obtain ⟨⟨q1, q2⟩, q3⟩ := q
      refine .inr (.inr ⟨p, i, vs, rfl, rfl, h1, by omega, by omega, ?_, fun p' hp => wpR_lst h R (l1.rep _) hp⟩)
      have h1 : vs.length ≤ 100 := by rw [← l1.length]; exact q3
      have h2 : i.toNat ≤ 1000 := by omega
      have := Nat.mul_le_mul h1 h2
      rw [sizeLine_eq]
      omega
    · exact h.elim
  · exact h.elim
/-! ### in -/
def rInDT (K : PySem.W.Frag) (neg : Bool) : R2 := fun x y H Q => ∃ d ds, Dp K H x d ∧ Dp K H y (.tuple ds) ∧ SeqAt.shaped d = true ∧ SeqAt.shaped (.tuple ds) = true ∧ Q (.bl (if neg then !(ds.any fun z => PyData.eqv z d) else ds.any fun z => PyData.eqv z d)) H
theorem op_inDT (hu : X.A.units + 65 < cLine) : OpR X (compareOp .In) (rInDT X.K false) := by
  intro pins s σ H x y v u Q I rx ry h
  obtain ⟨d, ds, hd, he, sd, se, q⟩ := h
  obtain ⟨as, r1⟩ := Dp.reads I d x v hd rx
  obtain ⟨bs, r2⟩ := Dp.reads I (.tuple ds) y u he ry
  exact SeqAt.in_tuple_reads r2 r1 (SeqAt.canLay_of_shaped se) (SeqAt.canLay_of_shaped sd) (room_in_shaped sd hu) ⟨.bl _, H, I, rfl, q⟩
def strIn (i j : Str) : Bool := match i.cps.toList with
  | [c] => decide (c ∈ j.cps.toList)
  | _ => !(Builtin.Str.occurrences j i 0 j.length 1).isEmpty
theorem strIn_eq (i j : Str) : strIn i j = !(Builtin.Str.occurrences j i 0 j.length 1).isEmpty := by
  unfold strIn
  split
  · rename_i c q
    have e : i = ⟨#[c]⟩ := by
      cases i with | mk z =>
      simp only at q
      congr 1
      exact Array.toList_inj.mp q
    rw [e]
    exact (PySem.StrLaws.found_one j c).symm
  · rfl
def fIn (neg : Bool) : T → T → MH → R := fun t u h => match u with
  | .str y => match t with
    | .str x => .ok (.bl (if neg then !strIn x y else strIn x y)) h
    | _ => .stuck
  | _ => match toD t, seqOf u h with
    | some d, some xs => match toDs xs with
      | some ds => if SeqAt.shaped d && SeqAt.shaped (.list ds) && SeqAt.shaped (.tuple ds) then .ok (.bl (if neg then !(ds.any fun z => PyData.eqv z d) else ds.any fun z => PyData.eqv z d)) h else .stuck
      | none => .stuck
    | _, _ => .stuck
abbrev rInV (K : PySem.W.Frag) (neg : Bool) : R2 := fun x y H Q => (∃ i j, x = .str i ∧ y = .str j ∧ Q (.bl (if neg then !strIn i j else strIn i j)) H) ∨ (fun x y H Q => (if neg then rNotInD K x y H Q else rInD K x y H Q) ∨ rInDT K neg x y H Q) x y H Q
theorem op_inV (hu : X.A.units + 65 < cLine) : OpR X (compareOp .In) (rInV X.K false) := by
  refine OpR.or ?_ ((op_inD hu).or (op_inDT hu))
  intro pins s σ H x y v u Q I rx ry h
  obtain ⟨i, j, e1, e2, q⟩ := h
  exact op_in_str pins s σ H x y v u Q I rx ry ⟨i, j, e1, e2, by rw [← strIn_eq]; exact q⟩
theorem dp_seq {t : T} {v : V} {xs : List T} {ds : List PyData} (R : Rel K mg g) (r : Rep K mg g t v) (h : seqOf t g.h = some xs) (hd : toDs xs = some ds) : Dp K g.H v (.list ds) ∨ Dp K g.H v (.tuple ds) := by
  obtain ⟨q, vs, rfl, h1, l1⟩ := seq_of R r h
  have z := dpAll_of (fun t _ v d r e => dp_of t v d r e) l1 hd
  rcases h1 with h1 | h1
  · exact .inl (.lst h1 z)
  · exact .inr (.tup h1 z)
theorem mInV {neg : Bool} : OpM X (fIn neg) (rInV X.K neg) := by
  intro W g σ t u x y Q R r1 r2 h
  unfold fIn at h
  split at h
  · rename_i j
    rw [rep_str r2]
    split at h
    · rename_i i
      rw [rep_str r1]
      exact .inl ⟨i, j, rfl, rfl, wpR_here h R rBl⟩
    · exact h.elim
  · split at h
    · rename_i d xs hd hs
      split at h
      · rename_i ds he
        split at h
        · rename_i q
          simp only [Bool.and_eq_true] at q
          obtain ⟨⟨q1, q2⟩, q3⟩ := q
          rcases dp_seq R r2 hs he with z | z
          · refine .inr (.inl ?_)
            cases neg with
            | false => exact ⟨d, ds, dp_of t x d r1 hd, z, q1, q2, wpR_here h R rBl⟩
            | true => exact ⟨d, ds, dp_of t x d r1 hd, z, q1, q2, wpR_here h R rBl⟩
          · exact .inr (.inr ⟨d, ds, dp_of t x d r1 hd, z, q1, q3, wpR_here h R rBl⟩)
        · exact h.elim
      · exact h.elim
    · exact h.elim
/-! ### chains -/
def mChain (f f' : T → T → MH → R) (ma mb mc : ME) : ME := fun s h => (ma s h).bind fun t h1 => (mb s h1).bind fun u h2 => (f t u h2).bind fun k h3 => match k with
  | .bl true => (mc s h3).bind fun w h4 => f' u w h4
  | .bl false => .ok (.bl false) h3
  | _ => .stuck
def BlM (f : T → T → MH → R) : Prop := ∀ t u h, (∃ b, f t u h = .ok (.bl b) h) ∨ f t u h = .stuck
theorem use_chain {f f' : T → T → MH → R} {r r' : R2} (hm : OpM X f r) (hm' : OpM X f' r') (hb : BlM f) {H : Hp} (h : tM X.K X.mg W (mChain f f' ma mb mc) σ H Q) : tChain r r' (tM X.K X.mg W ma) (tM X.K X.mg W mb) (tM X.K X.mg W mc) σ H Q := by
  obtain ⟨g, s, rfl, R, S, h⟩ := h
  refine ⟨g, s, rfl, R, S, wpR_bind h fun g1 t x e1 R1 r1 h1 => ⟨g1, s, rfl, R1, S.mono e1, wpR_bind h1 fun g2 u y e2 R2 r2 h2 => ?_⟩⟩
  refine hm W g2 σ t u x y _ R2 (r1.mono e2) r2 (wpR_bind h2 fun g3 k z e3 R3 r3 h3 => ?_)
  rcases hb t u g2.h with ⟨b, q⟩ | q
  · cases k with
    | bl kb =>
      refine ⟨kb, rep_bl r3, ?_⟩
      cases kb with
      | false => exact wpR_here h3 R3 rBl
      | true =>
        refine ⟨g3, s, rfl, R3, (S.mono (e1.trans e2)).mono e3, ?_⟩
        exact wpR_bind h3 fun g4 w wv e4 R4 r4 h4 => hm' W g4 σ u w y wv Q R4 ((r2.mono e3).mono e4) r4 h4
    | _ => exact h3.elim
  · rw [q] at h2; exact h2.elim
theorem se_chain {op op' : CmpOp} {f f' : T → T → MH → R} {r r' : R2} (ho : OpR X (compareOp op) r) (hm : OpM X f r) (hb' : BlM f) (ho' : OpR X (compareOp op') r') (hm' : OpM X f' r') (ha : SE X W a ma) (hb : SE X W b mb) (hc : SE X W c mc)
    (hk : lastMarks [op, op'] [b, c] = false := by with_unfolding_all rfl) : SE X W (.Compare a [op, op'] [b, c] pos) (mChain f f' ma mb mc) :=
  weakE (pe_chain ho ho' ha hb hc hk) fun _ _ _ h => use_chain hm hm' hb' h
/-! ### f-strings -/
/-! ### isinstance of a built-in type -/
inductive Ty5 where
  | non | bl | int | str | tup | lst | dct
  deriving DecidableEq
def Ty5.name : Ty5 → String
  | .non => "NoneType"
  | .bl => "bool"
  | .int => "int"
  | .str => "str"
  | .tup => "tuple"
  | .lst => "list"
  | .dct => "dict"
def tyOfT (t : T) (h : MH) : Option Ty5 := match t with
  | .non => some .non
  | .bl _ => some .bl
  | .int _ => some .int
  | .str _ => some .str
  | .tup _ => some .tup
  | .lst _ => some .lst
  | .frl _ => some .lst
  | .dct _ _ => none
  | .obj _ _ _ => none
  | .exn _ _ _ => none
  | .cls _ => none
  | .fn _ _ _ => none
  | .fnc _ _ _ _ => none
  | .tpl _ => none
  | .ref i => match h[i]? with
    | some (.lst _) => some .lst
    | some (.dct _ _) => some .dct
    | _ => none
def isi5 (a c : Ty5) : Bool := decide (a = c) || (decide (a = .bl) && decide (c = .int))
theorem isi5_ok (a c : Ty5) : kitB a.name c.name = some (isi5 a c) := by cases a <;> cases c <;> decide +kernel
theorem tyx_of {t : T} {v : V} {a : Ty5} (R : Rel K mg g) (r : Rep K mg g t v) (h : tyOfT t g.h = some a) : TyX K g.H v (.type a.name) := by
  unfold tyOfT at h
  cases t with
  | non => cases h; rw [rep_non r]; exact .base .non
  | bl b => cases h; rw [rep_bl r]; exact .base (.bl b)
  | int b => cases h; rw [rep_int r]; exact .base (.int b)
  | str b => cases h; rw [rep_str r]; exact .base (.str b)
  | tup xs =>
    cases h
    obtain ⟨q, vs, rfl, h1, l1⟩ := r.sqT
    rcases h1 with h1 | ⟨o, its, n, h1, h2, _⟩
    · rcases h1 with h1 | ⟨o, h1⟩
      · exact .base (.tup h1)
      · exact .fTuple h1
    · exact .kTuple h1 h2
  | lst xs =>
    cases h
    obtain ⟨q, vs, rfl, h1, l1⟩ := rep_lst_at r
    exact .base (.lst h1)
  | frl xs =>
    cases h
    obtain ⟨q, vs, rfl, h1, l1⟩ := r.sqF
    rcases h1 with h1 | ⟨o, its, n, h1, h2, _⟩
    · rcases h1 with h1 | ⟨o, h1⟩
      · exact .base (.lst h1)
      · exact .base (.frz h1)
    · exact .kList h1 h2
  | dct ks vs => cases h
  | obj c ns vs => cases h
  | exn c ns vs => cases h
  | cls c => cases h
  | fn k I C => cases h
  | fnc k I C n => cases h
  | tpl xs => cases h
  | ref i =>
    dsimp only at h
    split at h
    · rename_i xs q
      cases h
      obtain ⟨p, vs, rfl, _, h1, _⟩ := R.lst_at r q
      exact .base (.lst h1)
    · rename_i ks vs q
      cases h
      simp only [Rep] at r
      obtain ⟨p, rfl, hp⟩ := r
      obtain ⟨kvs, h1, _⟩ := R.obj i p _ hp q
      exact .base (.dK h1)
    · cases h
def fIsi (c : Ty5) : T → MH → R := fun t h => match tyOfT t h with
  | some a => .ok (.bl (isi5 a c)) h
  | none => .stuck
theorem se_isi {pa pc : Pos} {y : Str} (c : Ty5) (hmi : X.mg "isinstance" = none) (hmc : X.mg y = none) (ha : SE X W a ma) (hg : Gl X "isinstance" := by rfl) (hgc : Gl X y := by rfl) (hv : bootBuiltins y = some (.type c.name) := by decide +kernel)
    (hn : y ≠ "__name__" := by decide) (hdc : (y == ("__debug__" : Str)) = false := by decide)
    (he : starEach [a, .Name y pc] X.env = (false, eval a X.env) :: starEach [.Name y pc] X.env := by rfl) (he2 : starEach [.Name y pc] X.env = [(false, eval (.Name y pc) X.env)] := by rfl) (hpl : (backTo pos (starEach [.Name y pc] X.env)).any (·.1) = false := by rfl) :
    SE X W (.Call (.Name "isinstance" pa) [a, .Name y pc] [] pos) (m1 (fIsi c) ma) := by
  refine weakE (pe_callB (id := "isinstance") call_isi hg hmi (by decide +kernel) (pa_cons ha (pa_cons (pe_bltn hgc hmc hv (v := .ty c.name) rfl hn hdc) pa_nil he2) he) (by decide) (by decide) he hpl) ?_
  rintro σ H Q ⟨g, s, rfl, R, S, h⟩
  refine ⟨g, s, rfl, R, S, wpR_bind h fun g1 t x e1 R1 r1 h1 => ?_⟩
  unfold fIsi at h1
  split at h1
  · rename_i a' q
    exact ⟨x, .ty c.name, .type a'.name, .type c.name, isi5 a' c, rfl, .ty _, tyx_of R1 r1 q, kit_ty (isi5_ok a' c), wpR_here h1 R1 rBl⟩
  · exact h1.elim
end
end Mi
end part_Mi8
section part_Mi9
set_option maxRecDepth 100000
set_option maxHeartbeats 2000000
/-! Mi, part 9: index, live lists, stores, calls by keywords, globals, freezing. -/
namespace Mi
open PySem PySem.Spec PyProof.Rows L2
section
variable {X : Cx} {K : PySem.W.Frag} {mg : Str → Option Value} {W : WX} {g g' : G} {σ : L2.St} {Q : VK} {D : Ends}
variable {a b c e : Expr} {ma mb mc me mt : ME} {mr : MA} {pos p : Pos} {es : List Expr} {x : Str} {m : MS} {sts : List Stmt}
/-! ### l.index(x) -/
def idxD (d : PyData) : List PyData → Option Nat
  | [] => none
  | z :: ds => if PyData.eqv z d then some 0 else (idxD d ds).map (· + 1)
def fIndex : T → List T → MH → R := fun t ts h => match ts with
  | [u] => if isTupT t then .stuck else match toD u, seqOf t h with
    | some d, some xs => match toDs xs with
      | some ds => if SeqAt.shaped d && SeqAt.shaped (.list ds) then (match idxD d ds with
        | some j => .ok (.int (j : Nat)) h
        | none => .stuck) else .stuck
      | none => .stuck
    | _, _ => .stuck
  | _ => .stuck
/-! ### a new changeable list -/
theorem wpR_new {xs : List T} {vs : List V} {p : Addr} (h : wpR K mg W g σ Q (.ok (.ref g.h.length) (g.h ++ [.lst xs]))) (R : Rel K mg g) (r : RepL K mg g xs vs) (hp : g.H p = none) : Q (.ref p) (upd g.H p (.lst vs)) := by
  obtain ⟨g', e1, e2, ex, R', rr⟩ := ref_lay (o := .lst xs) (ho := .lst vs) R hp (fun g2 s2 hq => ⟨vs, hq, r.sub s2⟩) (by intro z; cases z)
  rw [← e1]
  exact h g' _ e2 ex R' rr
def fLstN : List T → MH → R := fun ts h => if ts.length ≤ big then .ok (.ref h.length) (h ++ [.lst ts]) else .stuck
theorem se_lstN {es : List Expr} {mr : MA} (h : SA X W es mr) : SE X W (.List es pos) (mA fLstN mr) := by
  refine weakE (pe_lst h) ?_
  rintro σ H Q ⟨g, s, rfl, R, S, h⟩
  refine ⟨g, s, rfl, R, S, wpL_of h fun g1 ts vs e1 R1 r1 h1 => ?_⟩
  unfold fLstN at h1
  split at h1
  · rename_i q; exact ⟨big_le (by rw [← r1.length]; exact q), fun p hp => wpR_new h1 R1 r1 hp⟩
  · exact h1.elim
/-! ### l[i] = v of a changeable list -/
def gSt (mo mi : ME) : MG := fun t s h => match mo s h with
  | .ok o h1 => match mi s h1 with
    | .ok (.int k) h2 => match liveL o h2 with
      | some (j, xs) => match ixN xs.length k with
        | some n => .ok s (h2.set j (.lst (xs.set n t)))
        | none => .stuck
      | none => .stuck
    | _ => .stuck
  | _ => .stuck
theorem sg_sub {o i : Expr} {mo mi : ME} (ho : SE X W0 o mo) (hi : SE X W0 i mi)
    (ha : ∀ v, assign (.Subscript o i pos) X.env v = (do
      let ov ← holding [v] (eval o X.env)
      let iv ← holding [v, ov] (eval i X.env)
      standAt pos
      holding [v, ov, iv] (setItem ov iv v)
      release [v, ov, iv] []) := by intro _; rfl) : SG X (.Subscript o i pos) [] (gSt mo mi) := by
  refine weakG (pg_sub ho hi set_list ha) ?_
  rintro v σ H Q ⟨g, s, t, rfl, R, S, rv, h⟩
  refine ⟨g, s, rfl, R, S, ?_⟩
  unfold gSt at h
  cases q : mo s g.h with
  | ok to h1 =>
    rw [q] at h
    dsimp only at h
    rintro g1 vo rfl e1 R1 r1
    refine ⟨g1, s, rfl, R1, S.mono e1, ?_⟩
    cases q2 : mi s g1.h with
    | ok ti h2 =>
      rw [q2] at h
      rintro g2 vi rfl e2 R2 r2
      split at h
      · rename_i k _ q3
        cases q3
        split at h
        · rename_i j xs hl
          split at h
          · rename_i n hn
            obtain ⟨pl, vs, rfl, hp, hh, hH, l1⟩ := live_of R2 (r1.mono e2) hl
            have rv2 := (rv.mono e1).mono e2
            refine ⟨pl, vs, k, n, rfl, rep_int r2, hH, by rw [← l1.length]; exact hn, ?_⟩
            obtain ⟨g3, z1, z2, ex, R'⟩ := R2.put (o' := .lst (xs.set n t)) (ho := .lst (vs.set n v)) hp hh (by intro z; cases z) (by intro z; cases z) (fun g4 s4 hq => ⟨_, hq, (l1.sub s4).set n (Rep.sub s4 t v rv2)⟩)
            rw [← z1]
            exact h g3 σ z2 ((e1.trans e2).trans ex) R' (((S.mono e1).mono e2).mono ex) fun _ _ => rfl
          · exact h.elim
        · exact h.elim
      · exact h.elim
    | ex y h2 => rw [q2] at h; exact h.elim
    | stuck => rw [q2] at h; exact h.elim
  | ex y h1 => rw [q] at h; exact h.elim
  | stuck => rw [q] at h; exact h.elim
end
end Mi
end part_Mi9
section part_Mi10
set_option maxRecDepth 100000
set_option maxHeartbeats 2000000
/-! Mi, part 10: freezing, globals, what a def is (Has), calls by position, by keywords. -/
namespace Mi
open PySem PySem.Spec PyProof.Rows L2
section
variable {X : Cx} {K : PySem.W.Frag} {mg : Str → Option Value} {W : WX} {g g' : G} {σ : L2.St} {Q : VK} {D : Ends}
variable {a b c e : Expr} {ma mb mc me mt : ME} {mr mk : MA} {pos p : Pos} {es : List Expr} {x : Str} {m : MS} {st : Stmt} {sts : List Stmt} {kws : List Keyword}
/-! ### freezing -/
theorem frz_g (R : Rel K mg g) {j : Nat} {q : Addr} {o : MO} (h1 : g.rho[j]? = some q) (h2 : g.h[j]? = some o) (h3 : o ≠ MO.dead) :
    let g' : G := ⟨g.rho, g.h.set j .dead, g.pv, g.H⟩
    Ext g g' ∧ Rel K mg g' ∧ ¬ g'.hid q := by
  intro g'
  have hh : ∀ a, g'.hid a → g.hid a := by
    rintro a (z | ⟨i, o', z1, z2, z3⟩)
    · exact .inl z
    · have z2' : (g.h.set j .dead)[i]? = some o' := z2
      by_cases e : j = i
      · subst e
        rw [List.getElem?_set] at z2'
        split at z2'
        · split at z2'
          · cases z2'; exact absurd rfl z3
          · cases z2'
        · rename_i w; exact absurd rfl w
      · rw [List.getElem?_set_ne e] at z2'
        exact .inr ⟨i, o', z1, z2', z3⟩
  have hv : ∀ i a, g'.live i a → g.live i a := by
    rintro i a ⟨z1, o', z2, z3⟩
    have z2' : (g.h.set j .dead)[i]? = some o' := z2
    by_cases e : j = i
    · subst e
      rw [List.getElem?_set] at z2'
      split at z2'
      · split at z2'
        · cases z2'; exact absurd rfl z3
        · cases z2'
      · rename_i w; exact absurd rfl w
    · rw [List.getElem?_set_ne e] at z2'
      exact ⟨z1, o', z2', z3⟩
  have hs : Sub g g' := ⟨fun _ _ h => h, fun a u h n => ⟨h, fun z => n (hh a z)⟩⟩
  refine ⟨⟨hs.rho, rfl, fun _ _ => rfl, hs.keep⟩, ⟨?_, fun i j a z1 z2 => R.inj i j a (hv i a z1) (hv j a z2), fun a ha i z => R.npv a ha i (hv i a z), R.pvt, fun i a z => R.tr i a (hv i a z), ?_⟩, ?_⟩
  · show g.rho.length = (g.h.set j .dead).length
    rw [List.length_set]; exact R.len
  · intro i a u z1 z2
    have z2' : (g.h.set j .dead)[i]? = some u := z2
    by_cases e : j = i
    · subst e
      rw [List.getElem?_set] at z2'
      split at z2'
      · split at z2'
        · cases z2'; trivial
        · cases z2'
      · rename_i w; exact absurd rfl w
    · rw [List.getElem?_set_ne e] at z2'
      exact (R.obj i a u z1 z2').sub hs fun w hw => hw
  · rintro (z | ⟨i, o', z1, z2, z3⟩)
    · exact R.npv q z j ⟨h1, o, h2, h3⟩
    · have e : i = j := R.inj i j q (hv i q ⟨z1, o', z2, z3⟩) ⟨h1, o, h2, h3⟩
      subst e
      have z2' : (g.h.set i .dead)[i]? = some o' := z2
      rw [List.getElem?_set] at z2'
      split at z2'
      · split at z2'
        · cases z2'; exact z3 rfl
        · cases z2'
      · rename_i w; exact w rfl
/-- a changeable object as a value, its number dead -/
def fzT (t : T) (h : MH) : T × MH := match t with
  | .ref j => match h[j]? with
    | some (.lst xs) => (.lst xs, h.set j .dead)
    | some (.ins c ns vs) => (.obj c ns vs, h.set j .dead)
    | _ => (t, h)
  | _ => (t, h)
theorem fz_ok (R : Rel K mg g) {t : T} {v : V} (r : Rep K mg g t v) : ∃ g' : G, g'.H = g.H ∧ g'.h = (fzT t g.h).2 ∧ Ext g g' ∧ Rel K mg g' ∧ Rep K mg g' (fzT t g.h).1 v := by
  unfold fzT
  split
  · rename_i j
    simp only [Rep] at r
    obtain ⟨q, rfl, hq⟩ := r
    split
    · rename_i xs z
      obtain ⟨vs, h1, l1⟩ := R.obj j q _ hq z
      obtain ⟨e, R', n⟩ := frz_g R hq z (by intro w; cases w)
      exact ⟨⟨g.rho, g.h.set j .dead, g.pv, g.H⟩, rfl, rfl, e, R', by simp only [Rep]; exact ⟨q, vs, rfl, ⟨h1, n⟩, l1.mono e⟩⟩
    · rename_i cc ns ts z
      obtain ⟨C, dx, fs, h1, h2, h3, l1⟩ := R.obj j q _ hq z
      obtain ⟨e, R', n⟩ := frz_g R hq z (by intro w; cases w)
      exact ⟨⟨g.rho, g.h.set j .dead, g.pv, g.H⟩, rfl, rfl, e, R', by simp only [Rep]; exact ⟨q, C, dx, fs, rfl, ⟨h1, n⟩, h2, h3, l1.mono e⟩⟩
    · exact ⟨g, rfl, rfl, Ext.refl g, R, by simp only [Rep]; exact ⟨q, rfl, hq⟩⟩
  · exact ⟨g, rfl, rfl, Ext.refl g, R, r⟩
/-- the slot i is frozen ahead -/
def mFz (i : Nat) (m : MS) : MS := fun s h => match s[i]? with
  | some (some t) => m (s.set i (some (fzT t h).1)) (fzT t h).2
  | _ => m s h
theorem sss_fz (i : Nat) (hm : SSs X W sts m) : SSs X W sts (mFz i m) := by
  refine weakSs hm ?_
  rintro D σ H ⟨g, s, rfl, R, S, h⟩
  unfold mFz at h
  split at h
  · rename_i t q
    obtain ⟨v, e1, r⟩ := S.2 i t q
    obtain ⟨g', e2, e3, ex, R', r'⟩ := fz_ok R r
    refine ⟨g', _, e2, R', ?_, by rw [e3]; exact h.ext ex⟩
    have := (S.mono ex).set r' i
    have e4 : σ.set i (some v) = σ := by
      apply List.ext_getElem?
      intro k
      by_cases w : i = k
      · subst w
        rw [List.getElem?_set]
        split
        · split
          · exact e1.symm
          · rename_i w1 w2
            have := (List.getElem?_eq_some_iff.mp e1).1
            exact absurd this w2
        · rename_i w1; exact absurd rfl w1
      · rw [List.getElem?_set_ne w]
    rw [e4] at this
    exact this
  · exact ⟨g, s, rfl, R, S, h⟩
/-- return, the value frozen -/
def mRetF (me : ME) : MS := fun s h => (me s h).toS s fun t h1 => .rt (fzT t h1).1 (fzT t h1).2
theorem ss_retF (he : SE X W e me) : SS X W (.Return (some e) pos) (mRetF me) := by
  refine weakS (ss_ret he) ?_
  rintro D σ H ⟨g, s, rfl, R, S, h⟩
  refine ⟨g, s, rfl, R, S, ?_⟩
  unfold mRetF at h
  unfold mRet
  cases q : me s g.h with
  | ok t h1 =>
    rw [q] at h
    intro g1 v e1 ex R1 r1
    have e1' : g1.h = h1 := e1
    obtain ⟨g', e2, e3, ex', R', r'⟩ := fz_ok R1 r1
    rw [← e2]
    exact h g' v (by rw [e3, e1']) (ex.trans ex') R' (by rw [← e1']; exact r')
  | ex y h1 => rw [q] at h; exact h
  | stuck => rw [q] at h; exact h
/-! ### globals -/
theorem se_glob {t : T} {v : V} {u : Value} (hm : X.mg x = some u) (hr : RelV v u) (r : ∀ g, Rep X.K X.mg g t v) (hg : Gl X x := by rfl) (hd : (x == ("__debug__" : Str)) = false := by decide) : SE X W (.Name x pos) (mC t) :=
  se_c (pe_glob hg hm hr hd) r
/-! ### defs -/
def Has (P : Program) (w : World) (K : PySem.W.Frag) (mg : Str → Option Value) (base : Heap) (k : Nat) (x qual : Str) (st : Stmt) (ps : List Str) (m : MF) : Prop :=
  ∃ (f : Addr) (fd : FuncData), FunD K x qual (defArgs st) (defBody st) (defScope st) [] [] f fd ∧ mg x = some (.ref f) ∧ FnOk P w K mg base (L2.CX P w) k f fd ps (spM K mg ps.length m)
abbrev HasX (X : Cx) := Has X.prog X.w X.K X.mg X.base
theorem Has.up {P : Program} {w : World} {K : PySem.W.Frag} {mg : Str → Option Value} {base : Heap} {j k : Nat} {x qual : Str} {st : Stmt} {ps : List Str} {m : MF} (h : Has P w K mg base j x qual st ps m) (l : j ≤ k) : Has P w K mg base k x qual st ps m := by
  obtain ⟨f, fd, F, hm, ok⟩ := h
  exact ⟨f, fd, F, hm, ok.mono l⟩
abbrev PosB (st : Stmt) (x qual : Str) (ps : List Str) : Prop := ∀ (kV doc pm : Value) (an : Option Addr) (cdv ct : Value) (us : List Value), us.length = ps.length → bindArgs (PySem.W.fnOf x qual (defArgs st) (defBody st) (defScope st) .none kV doc pm an cdv ct) ⟨us, []⟩ = pure (ps.zip us)
/-- THE RULE for a call by position -/
theorem se_hcall {k : Nat} {qual : Str} {st : Stmt} {ps : List Str} {mf : MF} {fm : List T → MH → R} (h : HasX X k x qual st ps mf) (hr : Room k X.A) (tk : Takes X W) (cl : Calls2 X W ps.length mf fm) (hb : PosB st x qual ps) (ha : SA X W (e :: es) mr) (hg : Gl X x := by rfl)
    (hdb : (x == ("__debug__" : Str)) = false := by decide) (he : starEach (e :: es) X.env = (false, eval e X.env) :: starEach es X.env := by rfl) (hpl : (backTo pos (starEach es X.env)).any (·.1) = false := by rfl) :
    SE X W (.Call (.Name x p) (e :: es) [] pos) (mA fm mr) := by
  obtain ⟨f, fd, F, hm, ok⟩ := h
  have := se_call (dts := []) (p := p) (pos := pos) ok hr tk hm F.kp (F.bindsN hb) .nil (fun _ => RepL.nil) cl ha hg hdb he hpl
  have e1 : withD [] fm = fm := by
    funext ts h
    show fm (ts ++ []) h = fm ts h
    rw [List.append_nil]
  rw [e1] at this
  exact this
/-! ### keywords -/
def pick {α : Type} (is : List Nat) (l : List α) : List α := is.filterMap fun i => l[i]?
theorem pick_vals {vs : List V} {us : List Value} (r : Vals vs us) : ∀ is : List Nat, Vals (pick is vs) (pick is us)
  | [] => .nil
  | i :: is => by
    unfold pick
    simp only [List.filterMap_cons]
    have hl := r.length
    by_cases l : i < vs.length
    · rw [List.getElem?_eq_getElem l, List.getElem?_eq_getElem (by omega)]
      refine .cons ?_ (pick_vals r is)
      obtain ⟨u, e, z⟩ := r.get (List.getElem?_eq_getElem l)
      rw [List.getElem?_eq_getElem (by omega)] at e
      cases e
      exact z
    · rw [List.getElem?_eq_none (by omega), List.getElem?_eq_none (by omega)]
      exact pick_vals r is
theorem pick_repL {ts : List T} {vs : List V} (r : RepL K mg g ts vs) : ∀ is : List Nat, RepL K mg g (pick is ts) (pick is vs)
  | [] => RepL.nil
  | i :: is => by
    unfold pick
    simp only [List.filterMap_cons]
    have hl := r.length
    by_cases l : i < ts.length
    · obtain ⟨v, e, z⟩ := r.get (List.getElem?_eq_getElem l)
      rw [List.getElem?_eq_getElem l, e]
      exact RepL.cons z (pick_repL r is)
    · rw [List.getElem?_eq_none (by omega), List.getElem?_eq_none (by omega)]
      exact pick_repL r is
abbrev SK (X : Cx) (W : WX) (kws : List Keyword) (m : MA) : Prop := PK X kws (tMA X.K X.mg W m)
variable {nm : Option Str} {kpos : Pos}
theorem sk_nil : SK X W [] aNil := by
  refine ⟨fun pos pins s σ H Q I h => pk_nil.run pos pins s σ H Q I ?_⟩
  obtain ⟨g, s', rfl, R, S, h⟩ := h
  exact h g [] rfl (Ext.refl g) R RepL.nil
theorem use_cons {H : Hp} {Q : List V → Hp → Prop} (h : tMA K mg W (aCons ma mr) σ H Q) : tCons (tM K mg W ma) (tMA K mg W mr) σ H Q := by
  obtain ⟨g, s, rfl, R, S, h⟩ := h
  refine ⟨g, s, rfl, R, S, ?_⟩
  unfold aCons at h
  cases q : ma s g.h with
  | ok t h1 =>
    rw [q] at h
    intro g1 v e1 ex R1 r1
    refine ⟨g1, s, rfl, R1, S.mono ex, ?_⟩
    dsimp only at h
    rw [e1]
    cases q2 : mr s h1 with
    | ok ts h2 =>
      rw [q2] at h
      intro g2 vs e2 ex2 R2 r2
      exact h g2 (v :: vs) e2 (ex.trans ex2) R2 (RepL.cons (r1.mono ex2) r2)
    | ex x h2 => 
      rw [q2] at h
      exact fun g2 cls d e2 ex2 R2 r2 => h g2 cls d e2 (ex.trans ex2) R2 r2
    | stuck => rw [q2] at h; exact h.elim
  | ex x h1 => rw [q] at h; exact h
  | stuck => rw [q] at h; exact h.elim
theorem sk_cons (ha : SE X W e me) (hr : SK X W kws mk) : SK X W (⟨nm, e, kpos⟩ :: kws) (aCons me mk) :=
  ⟨fun pos pins s σ H Q I h => (pk_cons ha hr).run pos pins s σ H Q I (use_cons h)⟩
def mKw (n nk : Nat) (is : List Nat) (fm : List T → MH → R) (mr mk : MA) : ME := fun s h => (mr s h).bind fun ts h1 => (mk s h1).bind fun us h2 => if ts.length = n ∧ us.length = nk then fm (pick is (ts ++ us)) h2 else .stuck
section
variable {k n : Nat} {f : Addr} {fd : FuncData} {ps ks : List Str} {sp : Sp} {E : L2.St → XK} {gg : List Value → List Value → List Value} {gV : List V → List V → List V} {CX : CXT} {t tk : TA}
end
end
end Mi
end part_Mi10
section part_Mi11
set_option maxRecDepth 100000
set_option maxHeartbeats 2000000
/-! Mi, part 11: small things for printed walks. -/
namespace Mi
open PySem PySem.Spec PyProof.Rows L2
theorem hu65 {k : Nat} {A : Around} (r : Room k A) : A.units + 65 < cLine := by have := r.un; omega
theorem blCmp {fi : Int → Int → Bool} {fs : List Nat → List Nat → Bool} : BlM (fCmp fi fs) := fun t u h => by
  unfold fCmp
  split
  · exact .inl ⟨_, rfl⟩
  · exact .inl ⟨_, rfl⟩
  · exact .inr rfl
theorem blLt : BlM fLt := blCmp
theorem blLe : BlM fLe := blCmp
theorem blGt : BlM fGt := blCmp
theorem blGe : BlM fGe := blCmp
theorem blEq : BlM fEq := fun t u h => by
  unfold fEq with2
  repeat' split
  all_goals first | exact .inl ⟨_, rfl⟩ | exact .inr rfl
theorem blNe : BlM fNe := fun t u h => by
  unfold fNe with2
  repeat' split
  all_goals first | exact .inl ⟨_, rfl⟩ | exact .inr rfl
theorem blIs {neg : Bool} : BlM (fIs neg) := fun t u h => by
  unfold fIs
  repeat' split
  all_goals first | exact .inl ⟨_, rfl⟩ | exact .inr rfl
theorem blIn {neg : Bool} : BlM (fIn neg) := fun t u h => by
  unfold fIn
  repeat' split
  all_goals first | exact .inl ⟨_, rfl⟩ | exact .inr rfl
/-- nothing is promised -/
theorem fnOk_stuck {P : Program} {w : World} {K : PySem.W.Frag} {mg : Str → Option Value} {base : Heap} {x qual : Str} {params : Arguments} {body : List Stmt} {scope : Scope} {dvs : List V} {kws : List (Str × V)} {f : Addr} {fd : FuncData} {N ps : List Str} {k : Nat}
    (F : FunD K x qual params body scope dvs kws f fd) (S : FnScope N ps scope) : FnOk P w K mg base (L2.CX P w) (k + 1) f fd ps (spM K mg ps.length fun _ _ => .stuck) :=
  F.ok S (fun vs H Q E h => spM_len h) fun cdv A outer s H vs Q E hr h => by
    obtain ⟨g, ts, _, _, _, _, h⟩ := h
    exact h.elim
theorem blkOk_at {X : Cx} {N : List Str} {sc scope : Scope} {own : List (Str × Nat)} (hN : X.N = N) (hs : X.env.scope = sc) (h : blkC N sc scope own = true) : BlkOk X.N X.env.scope scope own := by
  subst hN hs
  exact blkOk_by h
/-- def_ok, what every body wants at hand -/
theorem def_ok2 {P : Program} {w : World} {K : PySem.W.Frag} {mg : Str → Option Value} {base : Heap} {x qual : Str} {params : Arguments} {body : List Stmt} {scope : Scope} {dvs : List V} {kws : List (Str × V)} {f : Addr} {fd : FuncData} {N ps : List Str} {k n : Nat} {mb : MS}
    (F : FunD K x qual params body scope dvs kws f fd) (S : FnScope N ps scope) (hn : ps.length = n)
    (hbody : ∀ (cdv : Value) (A : Around) (outer : List Env) (s : Shared) (H : Hp) (E : XK), Room k (A.deeper (envOfC qual scope s.heap.objs.size f cdv)) →
      Takes (cxOf (L2.CX P w) P w K mg base N qual scope f cdv A outer s H E) (fun cls d _ H => E cls d H) →
      PassesOwn (model P w) (A.deeper (envOfC qual scope s.heap.objs.size f cdv)) (envOfC qual scope s.heap.objs.size f cdv) (cxOf (L2.CX P w) P w K mg base N qual scope f cdv A outer s H E).xe →
      SSs (cxOf (L2.CX P w) P w K mg base N qual scope f cdv A outer s H E) (fun cls d _ H => E cls d H) body mb) :
    FnOk P w K mg base (L2.CX P w) (k + 1) f fd ps (spM K mg n (mDef N.length mb)) :=
  def_ok F S hn fun cdv A outer s H E hr => hbody cdv A outer s H E hr (takes_of rfl rfl rfl rfl) (passes_of rfl)
end Mi
end part_Mi11
section part_Mi12
set_option maxRecDepth 100000
set_option maxHeartbeats 2000000
/-! Mi, part 12: constants of the module, the law's promise, the head's facts. -/
namespace Mi
open PySem PySem.Spec PyProof.Rows L2
/-! the value u, read in K, is the tree t -/
theorem bb {a b : Bool} (h : (a && b) = true) : a = true ∧ b = true := Bool.and_eq_true_iff.mp h
theorem kTs_of {K : PySem.W.Frag} {mg : Str → Option Value} : ∀ {ts : List T} {us : List Value}, (∀ t ∈ ts, ∀ u, kT K t u = true → ∃ v, RelV v u ∧ ∀ g, Rep K mg g t v) → kTs K ts us = true → ∃ vs, Vals vs us ∧ ∀ g, RepL K mg g ts vs
  | [], [], _, _ => ⟨[], .nil, fun _ => RepL.nil⟩
  | [], _ :: _, _, h => by simp [kTs] at h
  | _ :: _, [], _, h => by simp [kTs] at h
  | t :: ts, u :: us, f, h => by
    simp only [kTs] at h
    obtain ⟨h1, h2⟩ := bb h
    obtain ⟨v, r, q⟩ := f t List.mem_cons_self u h1
    obtain ⟨vs, rs, qs⟩ := kTs_of (fun t ht => f t (List.mem_cons_of_mem _ ht)) h2
    exact ⟨v :: vs, .cons r rs, fun g => RepL.cons (q g) (qs g)⟩
theorem kT_of {K : PySem.W.Frag} {mg : Str → Option Value} : ∀ (t : T) (u : Value), kT K t u = true → ∃ v, RelV v u ∧ ∀ g, Rep K mg g t v := by
  intro t
  induction t using T.ind with
  | non => intro u h; cases u <;> first | exact ⟨.non, rfl, fun g => rNon⟩ | (simp [kT] at h)
  | bl b => intro u h; cases u <;> first | (simp [kT] at h; subst h; exact ⟨.bl _, rfl, fun g => rBl⟩) | (simp [kT] at h)
  | int i => intro u h; cases u <;> first | (simp [kT] at h; subst h; exact ⟨.int _, ⟨_, rfl⟩, fun g => rInt⟩) | (simp [kT] at h)
  | str x => intro u h; cases u <;> first | (simp [kT] at h; subst h; exact ⟨.str _, ⟨_, rfl⟩, fun g => rStr⟩) | (simp [kT] at h)
  | tup xs ih =>
    intro u h
    cases u with
    | ref a =>
      simp only [kT] at h
      split at h
      · rename_i c its n sl q
        obtain ⟨h1, h2⟩ := bb h
        obtain ⟨h2, h3⟩ := bb h2
        obtain ⟨vs, rs, qs⟩ := kTs_of ih h3
        refine ⟨.ref a, rfl, fun g => ?_⟩
        simp only [Rep]
        exact ⟨a, vs, rfl, .inr ⟨_, its, n, q, congrArg Value.type (of_decide_eq_true h1), rfl, rfl, of_decide_eq_true h2, rs⟩, qs g⟩
      · cases h
    | _ => simp [kT] at h
  | lst xs ih => intro u h; cases u <;> simp [kT] at h
  | frl xs ih =>
    intro u h
    cases u with
    | ref a =>
      simp only [kT] at h
      split at h
      · rename_i c its n sl q
        obtain ⟨h1, h2⟩ := bb h
        obtain ⟨h2, h3⟩ := bb h2
        obtain ⟨vs, rs, qs⟩ := kTs_of ih h3
        refine ⟨.ref a, rfl, fun g => ?_⟩
        simp only [Rep]
        exact ⟨a, vs, rfl, .inr ⟨_, its, n, q, congrArg Value.type (of_decide_eq_true h1), rfl, rfl, of_decide_eq_true h2, rs⟩, qs g⟩
      · cases h
    | _ => simp [kT] at h
  | dct ks vs _ _ => intro u h; cases u <;> simp [kT] at h
  | obj c ns vs _ => intro u h; cases u <;> simp [kT] at h
  | ref i => intro u h; cases u <;> simp [kT] at h
  | exn c ns vs _ => intro u h; cases u <;> simp [kT] at h
  | cls c => intro u h; cases u <;> simp [kT] at h
  | fn k I C => intro u h; cases u <;> simp [kT] at h
  | fnc k I C n => intro u h; cases u <;> simp [kT] at h
  | tpl xs _ => intro u h; cases u <;> simp [kT] at h
abbrev GlobAt (K : PySem.W.Frag) (mg : Str → Option Value) (x : Str) (t : T) : Prop := ∃ (v : V) (u : Value), mg x = some u ∧ RelV v u ∧ ∀ g, Rep K mg g t v
theorem kV_of {K : PySem.W.Frag} {mg : Str → Option Value} {h : Heap} {x : Str} {t : T} (X : K.In h) (G : h.Ns mainGlobals mg) (e : kV K x t = true) : GlobAt K mg x t := by
  unfold kV at e
  split at e
  · rename_i u q
    obtain ⟨v, r, z⟩ := kT_of t u e
    exact ⟨v, u, PySem.W.mg_of X G q, r, z⟩
  · cases e
/-- a def without exceptions -/
theorem fnOk_nox {P : Program} {w : World} {K : PySem.W.Frag} {mg : Str → Option Value} {base : Heap} {k : Nat} {f : Addr} {fd : FuncData} {ps : List Str} {sp : Sp} (F : FnOk P w K mg base (L2.CX P w) k f fd ps sp) :
    FnOk P w K mg base CX0 k f fd ps (fun vs H Q _ => sp vs H Q fun _ _ _ => False) :=
  ⟨fun vs H Q E q => F.len vs H Q _ q, fun A outer s H args us vs Q E hr he hb hv hs => codeAny_mono (F.run A outer s H args us vs Q _ hr he hb hv hs) fun r s' hq => by
    cases r with
    | ok fl => cases fl <;> exact hq
    | error e =>
      obtain ⟨_, _, _, _, _, _, _, _, _, _, _, _, z⟩ := hq
      exact z.elim⟩
theorem funD_one {K : PySem.W.Frag} {x qual : Str} {params : Arguments} {body : List Stmt} {scope : Scope} {dvs dvs' : List V} {kws kws' : List (Str × V)} {f : Addr} {fd fd' : FuncData} (F : FunD K x qual params body scope dvs kws f fd) (F' : FunD K x qual params body scope dvs' kws' f fd') : fd = fd' := by
  obtain ⟨_, _, _, _, _, _, _, _, _, _, rfl, h, _⟩ := F.ex
  obtain ⟨_, _, _, _, _, _, _, _, _, _, rfl, h', _⟩ := F'.ex
  rw [h] at h'
  injection h' with h'
  injection h' with _ _ h' _
  injection h'
/-! ### the head's facts -/
end Mi
end part_Mi12
section part_Mi38
set_option maxRecDepth 100000
set_option maxHeartbeats 2000000
/-! Mi, part 38: lambdas are made. -/
namespace MiLam
open PySem PySem.Spec PySem.Calls PyProof.Rows PySem.W
section
variable {M : Model} {A : Around} {E : Value → Shared → Prop} {s : Shared} {name qual : Str} {params : Arguments} {body : Expr} {scope : Scope} {env : Env} {c P : Addr} {ps : Array Value} {pos : Pos} {firstLine : Nat} {mg : Str → Option Value}
  {clos : List (Str × Addr)} {Q : Value → Shared → Prop} {dv : Value}
abbrev fdOf (name qual : Str) (params : Arguments) (body : Expr) (scope : Scope) (cl : List (Str × Addr)) (dv pm cdv ct : Value) : FuncData := { kla_fn name qual params body scope cl pm cdv ct with defaults := dv }
abbrev objOf (fd : FuncData) : Obj := { cls := .type "function", data := .func fd }
theorem tail_new (hcl : closureFor scope env = pure clos) (hge0 : env.globals = mainGlobals) (hg : s.heap.Ns mainGlobals mg) (hcode : env.code = .ref c) (C : CodeHd s.heap c P) (hP : s.heap.get? P = some (tabObj ps)) (ht : TriplesOk ps.toList)
    (hnf : codeAmong pos ps.toList = none) (hgP : mainGlobals ≠ P) (hb : s.heap.BuiltinsAt mg P)
    (h : ∀ c' ctv h' tk, Heap.ExtBut P s.heap h' → s.heap.objs.size ≤ c' → c' < h'.objs.size → h'.CodeRec (.ref c') qual → h'.get? P = some (tabObj (ps ++ #[rawInt pos.line, rawInt pos.col, .ref c'])) →
      Q (.ref h'.objs.size) { s with heap := h'.push (objOf (fdOf name qual params body scope clos dv ((mg "__name__").getD .none) (.ref c') ctv)), toks := tk }) :
    wpAny M A (makeTail name qual params (.expr body) scope env dv .none none pos firstLine) Q E s := by
  obtain ⟨bm, ob, hbm, hne0, _, hneP, hbo, hcls, hdict, hdata⟩ := hb
  unfold makeTail
  rw [hcl, hge0]
  refine wpAny_bind (wpAny_pure ?_)
  cases clos with
  | nil =>
    simp only [List.isEmpty_nil, if_true]
    refine wpAny_bind (wpAny_pure ?_)
    refine wpAny_bind (wpAny_functionCodeX hcode (C.code hP ht) (C.tab hP) hnf fun c' h' tk hx hge hlt _ hrec htb _ => ?_)
    have hg' := hg.extBut hx hgP
    refine wpAny_bind (wpAny_builtinsFor hg' hbm hne0 (hx _ _ hneP hbo) hcls hdict hdata ?_)
    refine wpAny_bind (wpAny_nsGet hg' ?_)
    exact wpAny_bind (wpAny_pure (wpAny_newObj_type (h c' .none h' tk hx hge hlt hrec htb.2) (by size_fits)))
  | cons q r =>
    simp only [List.isEmpty_cons, Bool.false_eq_true, if_false]
    refine wpAny_bind (wpAny_newTextTuple ?_)
    refine wpAny_bind (wpAny_functionCodeX hcode ((C.keeps fun b o e => Heap.get?_push_of_some _ e).code (Heap.get?_push_of_some _ hP) ht) ((C.keeps fun b o e => Heap.get?_push_of_some _ e).tab (Heap.get?_push_of_some _ hP)) hnf fun c' h' tk hx hge hlt _ hrec htb _ => ?_)
    have hg' := (hg.push _).extBut hx hgP
    have hx' : Heap.ExtBut P s.heap h' := fun b o hb' e => hx b o hb' (Heap.get?_push_of_some _ e)
    have hge' : s.heap.objs.size ≤ c' := Nat.le_trans (by rw [Heap.size_push]; omega) hge
    refine wpAny_bind (wpAny_builtinsFor hg' hbm hne0 (hx' _ _ hneP hbo) hcls hdict hdata ?_)
    refine wpAny_bind (wpAny_nsGet hg' ?_)
    exact wpAny_bind (wpAny_pure (wpAny_newObj_type (h c' _ h' tk hx' hge' hlt hrec htb.2) (by size_fits)))
theorem tail_hit {cv : Value} (hcl : closureFor scope env = pure clos) (hge0 : env.globals = mainGlobals) (hg : s.heap.Ns mainGlobals mg) (hcode : env.code = .ref c) (C : CodeHd s.heap c P) (hP : s.heap.get? P = some (tabObj ps)) (ht : TriplesOk ps.toList)
    (hf : codeAmong pos ps.toList = some cv) (hb : s.heap.BuiltinsAt mg P)
    (h : ∀ (ctv : Value) (h' : Heap) (tk : Tok), (∀ b o, s.heap.get? b = some o → h'.get? b = some o) → s.heap.objs.size ≤ h'.objs.size →
      Q (.ref h'.objs.size) { s with heap := h'.push (objOf (fdOf name qual params body scope clos dv ((mg "__name__").getD .none) cv ctv)), toks := tk }) :
    wpAny M A (makeTail name qual params (.expr body) scope env dv .none none pos firstLine) Q E s := by
  obtain ⟨bm, ob, hbm, hne0, _, hneP, hbo, hcls, hdict, hdata⟩ := hb
  unfold makeTail
  rw [hcl, hge0]
  refine wpAny_bind (wpAny_pure ?_)
  cases clos with
  | nil =>
    simp only [List.isEmpty_nil, if_true]
    refine wpAny_bind (wpAny_pure ?_)
    refine wpAny_bind (wpAny_functionCode_hit hcode (C.code hP ht) hf ?_)
    refine wpAny_bind (wpAny_builtinsFor hg hbm hne0 hbo hcls hdict hdata ?_)
    refine wpAny_bind (wpAny_nsGet hg ?_)
    exact wpAny_bind (wpAny_pure (wpAny_newObj_type (h .none s.heap s.toks (fun _ _ e => e) (Nat.le_refl _)) (by size_fits)))
  | cons q r =>
    simp only [List.isEmpty_cons, Bool.false_eq_true, if_false]
    refine wpAny_bind (wpAny_newTextTuple ?_)
    refine wpAny_bind (wpAny_functionCode_hit hcode ((C.keeps fun b o e => Heap.get?_push_of_some _ e).code (Heap.get?_push_of_some _ hP) ht) hf ?_)
    refine wpAny_bind (wpAny_builtinsFor (hg.push _) hbm hne0 (Heap.get?_push_of_some _ hbo) hcls hdict hdata ?_)
    refine wpAny_bind (wpAny_nsGet (hg.push _) ?_)
    have hsz : ∀ oT : Obj, s.heap.objs.size ≤ (s.heap.push oT).objs.size := fun oT => by rw [Heap.size_push]; omega
    exact wpAny_bind (wpAny_pure (wpAny_newObj_type (h _ _ s.toks (fun b o e => Heap.get?_push_of_some _ e) (hsz _)) (by size_fits)))
end
end MiLam
end part_Mi38
section part_Mi39
set_option maxRecDepth 100000
set_option maxHeartbeats 2000000
/-! Mi, part 39: lambdas as values. -/
namespace Mi
open PySem PySem.Spec PyProof.Rows L2
section
variable {X : Cx} {K : PySem.W.Frag} {mg : Str → Option Value} {W : WX} {g g' : G} {σ : L2.St} {Q : VK}
/-- the table is written, a code object is new -/
theorem g_table {P c' : Addr} {q : Str} {ps more : Array Value} (R : Rel K mg g) (h0 : g.rho[0]? = some P) (hh : g.h[0]? = some (.tab q P)) (eH : g.H P = some (.tbl ps)) (hn : g.H c' = none)
    (ht : TriplesOk (ps ++ more).toList) (ha : ∀ (pos : Pos) (cv : Value), codeAmong pos (ps ++ more).toList = some cv → codeAmong pos ps.toList = some cv ∨ cv = .ref c') :
    Ext g { g with H := upd (upd g.H P (.tbl (ps ++ more))) c' (LamX.CodeO c' q) } ∧ Rel K mg { g with H := upd (upd g.H P (.tbl (ps ++ more))) c' (LamX.CodeO c' q) } := by
  have lP : g.live 0 P := ⟨h0, _, hh, by intro e; cases e⟩
  have hP : g.hid P := .inr ⟨0, _, h0, hh, by intro e; cases e⟩
  have nPc : P ≠ c' := ne_of_none eH hn
  have at_ : ∀ b, b ≠ P → b ≠ c' → upd (upd g.H P (.tbl (ps ++ more))) c' (LamX.CodeO c' q) b = g.H b := fun b h1 h2 => by rw [upd_ne h2, upd_ne h1]
  have atP : upd (upd g.H P (.tbl (ps ++ more))) c' (LamX.CodeO c' q) P = some (.tbl (ps ++ more)) := by rw [upd_ne nPc, upd_same]
  have hs : Sub g { g with H := upd (upd g.H P (.tbl (ps ++ more))) c' (LamX.CodeO c' q) } := ⟨fun _ _ h => h, fun a o h n => ⟨by
    show upd (upd g.H P (.tbl (ps ++ more))) c' (LamX.CodeO c' q) a = some o
    rw [at_ a (fun e => n (by rw [e]; exact hP)) (ne_of_none h hn)]; exact h, n⟩⟩
  have pvP : ∀ a ∈ g.pv, a ≠ P := fun a ha e => R.npv a ha 0 (by rw [e]; exact lP)
  have nc : ¬ G.hid { g with H := upd (upd g.H P (.tbl (ps ++ more))) c' (LamX.CodeO c' q) } c' := fun z => R.nohid hn z
  have hid_c : ∀ c, ¬ g.hid c → ∀ (o : HO), g.H c = some o → c ≠ P → (G.mk g.rho g.h g.pv (upd (upd g.H P (.tbl (ps ++ more))) c' (LamX.CodeO c' q))).H c = some o := fun c _ o e n => by
    show upd (upd g.H P (.tbl (ps ++ more))) c' (LamX.CodeO c' q) c = some o
    rw [at_ c n (ne_of_none e hn)]; exact e
  refine ⟨⟨hs.rho, rfl, fun a ha => ?_, hs.keep⟩, R.len, R.inj, R.npv, fun a ha => ?_, fun i a ha => ?_, fun i a o z1 z2 => ?_⟩
  · obtain ⟨u, e⟩ := R.pvt a ha
    exact at_ a (pvP a ha) (ne_of_none e hn)
  · obtain ⟨u, e⟩ := R.pvt a ha
    exact ⟨u, (at_ a (pvP a ha) (ne_of_none e hn)).trans e⟩
  · obtain ⟨u, e⟩ := R.tr i a ha
    by_cases z : a = P
    · rw [z]; exact ⟨_, atP⟩
    · exact ⟨u, (at_ a z (ne_of_none e hn)).trans e⟩
  · by_cases wd : o = MO.dead
    · subst wd; trivial
    have la : g.live i a := ⟨z1, o, z2, wd⟩
    by_cases z : a = P
    · subst z
      have ei := R.inj i 0 a la lP
      subst ei
      have z2' : g.h[0]? = some o := z2
      rw [hh] at z2'
      cases z2'
      obtain ⟨_, ps', e1, e2, e3⟩ := R.obj 0 a _ h0 hh
      rw [eH] at e1
      cases e1
      refine ⟨rfl, _, atP, ht, fun pos cv hc => ?_⟩
      rcases ha pos cv hc with r | r
      · obtain ⟨c, r1, r2, r3⟩ := e3 pos cv r
        exact ⟨c, r1, (hs.keep _ _ r2 r3).1, (hs.keep _ _ r2 r3).2⟩
      · exact ⟨c', r, upd_same, nc⟩
    · refine (R.obj i a o z1 z2).sub hs fun u hu => ?_
      show upd (upd g.H P (.tbl (ps ++ more))) c' (LamX.CodeO c' q) a = some u
      rw [at_ a z (ne_of_none hu hn)]; exact hu
/-- a new thing that no changeable object is -/
theorem g_new {p : Addr} {o : HO} (R : Rel K mg g) (hp : g.H p = none) : Ext g (g.lay p o) ∧ Rel K mg (g.lay p o) ∧ ¬ (g.lay p o).hid p := ⟨lay_ext R hp, R.lay hp, R.nohid hp⟩
def mLam (k : Nat) (I : LamI) (C : List (Str × Addr)) (P : Addr) : ME := fun s h => match (h[0]? : Option MO) with
  | some (.tab q P') => if q = I.q ∧ P' = P then .ok (.fn k I C) h else .stuck
  | _ => .stuck
/-- what the words of a lambda must be like -/
def dfltOk (I : LamI) (env : Env) : Prop := (I.dflt = false ∧ defaultsOf I.params env = ([], [])) ∨ (I.dflt = true ∧ ∃ (j : Nat) (p : Pos), defaultsOf I.params env = ([eval (.Constant (.int 0) j p) env], []))
structure LamB (X : Cx) (I : LamI) (c P : Addr) : Prop where
  tb : LamX.TabB X.base X.mg c P
  code : X.env.code = .ref c
  q : I.q = X.env.qual ++ "<lambda>"
  free : ∀ y ∈ I.scope.names, y.2 = .free → X.env.scope.names.lookup y.1 = some .cell ∨ X.env.scope.names.lookup y.1 = some .free
  dflt : dfltOk I X.env
  kwo : I.params.kwonlyargs = []
theorem ObjOk_ext {P : Program} {w : World} {H : Hp} {h : Heap} {a : Addr} {φ : Heap → Prop} (h1 : φ h) (h2 : ∃ o, h.get? a = some o) (h3 : ∀ h1 h2 : Heap, φ h1 → (∀ o, h1.get? a = some o → h2.get? a = some o) → φ h2) : ObjOk P w H h a (.ext φ) := ⟨h1, h2, h3⟩
/-- the function object is laid -/
theorem lam_end {pins : List (Addr × Obj)} {s : Shared} {I : LamI} {k : Nat} {C : List (Str × Addr)} {c' : Addr} {dv pm ctv : Value} {tk : Nat} (R : Rel X.K X.mg g) (J : Inv X pins σ g.H s) (hc : g.H c' = some (LamX.CodeO c' I.q) ∧ ¬ g.hid c')
    (hd : (I.dflt = false ∧ dv = .none) ∨ (I.dflt = true ∧ ∃ dt, dv = .ref dt ∧ g.H dt = some (DfO dt) ∧ ¬ g.hid dt)) (hC : ∀ y ∈ I.scope.names, y.2 = .free → ∃ c, C.lookup y.1 = some c) (h : wpR X.K X.mg W g σ Q (.ok (.fn k I C) g.h)) :
    EP X pins σ Q (.ref s.heap.objs.size) { s with heap := s.heap.push (MiLam.objOf (lamFd I C c' dv pm ctv)), toks := tk } := by
  have nF : g.H s.heap.objs.size = none := J.hok.fresh (Nat.le_refl _)
  obtain ⟨e1, R1, n1⟩ := g_new (o := LamO s.heap.objs.size I C c' dv) R nF
  have J1 : Inv X pins σ (upd g.H s.heap.objs.size (LamO s.heap.objs.size I C c' dv)) { s with heap := s.heap.push (MiLam.objOf (lamFd I C c' dv pm ctv)), toks := tk } := by
    refine J.laid (fun b u e => Heap.get?_push_of_some _ e) (Nat.le_refl _) ?_
    have e : (s.heap.push (MiLam.objOf (lamFd I C c' dv pm ctv))).get? s.heap.objs.size = some (MiLam.objOf (lamFd I C c' dv pm ctv)) := Heap.get?_push_size _ rfl
    exact ObjOk_ext ⟨_, _, pm, ctv, e⟩ ⟨_, e⟩ fun h1 h2 ⟨od, sl, p, t, z⟩ st => ⟨od, sl, p, t, st _ z⟩
  refine ⟨.ref s.heap.objs.size, _, J1, rfl, h (g.lay s.heap.objs.size (LamO s.heap.objs.size I C c' dv)) (.ref s.heap.objs.size) rfl e1 R1 ?_⟩
  simp only [Rep]
  refine ⟨_, c', dv, rfl, ⟨upd_same, n1⟩, e1.keep _ _ hc.1 hc.2, hd.imp id fun ⟨z, dt, z1, z2, z3⟩ => ⟨z, dt, z1, e1.keep _ _ z2 z3⟩, hC⟩
/-- the code object is new, or found -/
theorem lam_tail {pins : List (Addr × Obj)} {s : Shared} {E : Value → Shared → Prop} {I : LamI} {k : Nat} {c P : Addr} {dv : Value} {pos : Pos} (B : LamB X I c P) (R : Rel X.K X.mg g) (J : Inv X pins σ g.H s) (h0 : g.h[0]? = some (.tab I.q P))
    (hd : (I.dflt = false ∧ dv = .none) ∨ (I.dflt = true ∧ ∃ dt, dv = .ref dt ∧ g.H dt = some (DfO dt) ∧ ¬ g.hid dt)) (h : wpR X.K X.mg W g σ Q (.ok (.fn k I X.env.cells) g.h)) :
    wpAny (model X.prog X.w) X.A (makeTail "<lambda>" (X.env.qual ++ "<lambda>") I.params (.expr I.body) I.scope X.env dv .none none pos pos.line) (EP X pins σ Q) E s := by
  have hl : 0 < g.rho.length := by rw [R.len]; exact (List.getElem?_eq_some_iff.mp h0).1
  have hr : g.rho[0]? = some g.rho[0] := List.getElem?_eq_getElem hl
  obtain ⟨eP, ps, hP, ht, ha⟩ := R.obj 0 _ _ hr h0
  rw [eP] at hr hP
  have hfree : ∀ y ∈ I.scope.names, y.2 = .free → ∃ c, X.env.cells.lookup y.1 = some c := fun y hy e => (B.free y hy e).elim (fun z => J.ok.has _ (.inl z)) fun z => J.ok.has _ (.inr z)
  have bP : s.heap.BuiltinsAt X.mg P := B.tb.bm.keeps J.bk
  have hP' : s.heap.get? P = some { cls := .none, data := .fields ps } := J.hok P _ hP
  rw [← B.q]
  cases hc : codeAmong pos ps.toList with
  | none =>
    refine MiLam.tail_new (mg := X.mg) (c := c) (P := P) (ps := ps) (closure_ok hfree) J.ok.glob (J.mod.glob.keeps J.bk) B.code (B.tb.code.keeps J.bk) hP' ht hc B.tb.gP bP fun c' ctv h' tk hx hge hlt hrec htb => ?_
    obtain ⟨c2, oc, vs, t, e2, hoc, hdt, hv⟩ := hrec
    cases e2
    have nC : g.H c' = none := J.hok.fresh hge
    have J1 := LamX.inv_table (t' := tk) (more := #[rawInt pos.line, rawInt pos.col, .ref c']) (h' := h') J hP (fun b o hb e => hx b o hb e) htb hge ⟨oc, vs, t, hoc, hdt, hv⟩
    have eL : (ps ++ #[rawInt pos.line, rawInt pos.col, .ref c']).toList = ps.toList ++ [rawInt pos.line, rawInt pos.col, .ref c'] := by simp
    obtain ⟨e1, R1⟩ := g_table (more := #[rawInt pos.line, rawInt pos.col, .ref c']) R hr h0 hP nC (by rw [eL]; exact PySem.TriplesOk_snoc _ _ _ _ ht) (fun p' cv hcv => by
      rw [eL] at hcv
      exact LamX.among_app _ ht hcv)
    have nh := R.nohid nC
    exact lam_end (g := { g with H := upd (upd g.H P (.tbl (ps ++ #[rawInt pos.line, rawInt pos.col, .ref c']))) c' (LamX.CodeO c' I.q) }) R1 J1 ⟨upd_same, nh⟩ (hd.imp id fun ⟨z, dt, z1, z2, z3⟩ => ⟨z, dt, z1, e1.keep _ _ z2 z3⟩) hfree (h.ext e1)
  | some cv =>
    obtain ⟨c', e, hco⟩ := ha pos cv hc
    subst e
    refine MiLam.tail_hit (mg := X.mg) (c := c) (P := P) (ps := ps) (closure_ok hfree) J.ok.glob (J.mod.glob.keeps J.bk) B.code (B.tb.code.keeps J.bk) hP' ht hc bP fun ctv h' tk hx hsz => ?_
    have J1 : Inv X pins σ g.H { s with heap := h', toks := tk } := J.kept hx
    exact lam_end R J1 hco hd hfree h
theorem se_lam {I : LamI} {k : Nat} {c P : Addr} {pos : Pos} (B : LamB X I c P) : SE X W (.Lambda I.params I.body I.scope pos) (mLam k I X.env.cells P) := by
  refine ⟨fun pins s σ H Q J h => ?_⟩
  obtain ⟨g, sm, rfl, R, S, h⟩ := h
  unfold mLam at h
  split at h
  · rename_i q P' h0
    split at h
    · rename_i z
      obtain ⟨rfl, rfl⟩ := z
      rw [arm_eval_Lambda]
      rcases B.dflt with ⟨d1, d2⟩ | ⟨d1, j, p, d2⟩
      · rw [d2]
        show wpAny _ _ (do let dv ← evalAll []; let kdv ← holding dv (evalAllOpt []); makeFunction "<lambda>" (X.env.qual ++ "<lambda>") I.params (.expr I.body) I.scope X.env dv kdv [] pos pos.line) _ _ _
        refine wpAny_bind (wpAny_pure (wpAny_bind (wpAny_holding (wpAny_pure ?_))))
        rw [makeFunction_eq]
        simp only [B.kwo, List.zip_nil_left, List.zip_nil_right, List.filterMap_nil, List.isEmpty_nil, if_true, pure_bind]
        exact lam_tail B R J h0 (.inl ⟨d1, rfl⟩) h
      · rw [d2]
        show wpAny _ _ (do let dv ← evalAll [eval (.Constant (.int 0) j p) X.env]; let kdv ← holding dv (evalAllOpt []); makeFunction "<lambda>" (X.env.qual ++ "<lambda>") I.params (.expr I.body) I.scope X.env dv kdv [] pos pos.line) _ _ _
        refine wpAny_bind ?_
        show wpAny _ _ (do let v ← eval (.Constant (.int 0) j p) X.env; return v :: (← holding [v] (evalAll []))) _ _ _
        refine wpAny_bind (wpAny_mono ((pe_int (i := 0) (j := j) (pos := p)).run pins s σ g.H (fun v H1 => v = .int 0 ∧ H1 = g.H) J ⟨rfl, rfl⟩) (fun u s1 hu => ?_) fun _ _ x => x)
        obtain ⟨v, H1, J1, r1, ev, eH⟩ := hu
        subst ev
        rw [eH] at J1
        obtain ⟨tk, rfl⟩ := (show ∃ tk, u = Value.int 0 tk from r1)
        refine wpAny_bind (wpAny_holding (wpAny_pure (wpAny_pure ?_)))
        refine wpAny_bind (wpAny_holding (wpAny_pure ?_))
        rw [makeFunction_eq]
        simp only [B.kwo, List.zip_nil_left, List.zip_nil_right, List.filterMap_nil, List.isEmpty_nil, List.isEmpty_cons, if_true, if_false, pure_bind, Bool.false_eq_true]
        refine wpAny_bind (wpAny_newTextTuple ?_)
        have nD : g.H s1.heap.objs.size = none := J1.hok.fresh (Nat.le_refl _)
        obtain ⟨e1, R1, n1⟩ := g_new (o := DfO s1.heap.objs.size) R nD
        have J2 : Inv X pins σ (upd g.H s1.heap.objs.size (DfO s1.heap.objs.size)) { s1 with heap := s1.heap.push { cls := .type "tuple", data := .seq [Value.int 0 tk].toArray }, toks := s1.toks } := by
          refine J1.laid (fun b u e => Heap.get?_push_of_some _ e) (Nat.le_refl _) ?_
          have e : (s1.heap.push ({ cls := .type "tuple", data := .seq [Value.int 0 tk].toArray } : Obj)).get? s1.heap.objs.size = some ({ cls := .type "tuple", data := .seq [Value.int 0 tk].toArray } : Obj) := Heap.get?_push_size _ rfl
          exact ObjOk_ext ⟨tk, e⟩ ⟨_, e⟩ fun h1 h2 ⟨t, z⟩ st => ⟨t, st _ z⟩
        exact lam_tail (g := g.lay s1.heap.objs.size (DfO s1.heap.objs.size)) B R1 J2 h0 (.inr ⟨d1, _, rfl, upd_same, n1⟩) (h.ext e1)
    · exact h.elim
  · exact h.elim
end
end Mi
end part_Mi39
section part_Mi40
set_option maxRecDepth 100000
set_option maxHeartbeats 2000000
/-! Mi, part 40: the cells of a frame, lent and taken back. -/
namespace Mi
open PySem PySem.Spec PyProof.Rows L2
/-! ### abstract heaps -/
def hMinus (H : Hp) (l : List Addr) : Hp := fun b => if b ∈ l then none else H b
def hPlus (H : Hp) (l : List Addr) (h : Heap) : Hp := fun b => if b ∈ l then (h.get? b).map (fun o => HO.frz o (.own 0)) else H b
theorem minus_in {H : Hp} {l : List Addr} {b : Addr} (h : b ∈ l) : hMinus H l b = none := if_pos h
theorem minus_out {H : Hp} {l : List Addr} {b : Addr} (h : b ∉ l) : hMinus H l b = H b := if_neg h
theorem plus_in {H : Hp} {l : List Addr} {h : Heap} {b : Addr} {o : Obj} (hb : b ∈ l) (e : h.get? b = some o) : hPlus H l h b = some (.frz o (.own 0)) := by
  unfold hPlus
  rw [if_pos hb, e] <;> rfl
theorem plus_out {H : Hp} {l : List Addr} {h : Heap} {b : Addr} (hb : b ∉ l) : hPlus H l h b = H b := if_neg hb
section
variable {P : Program} {w : World} {H H' : Hp} {h h' h0 : Heap} {l fs : List Addr}
theorem hok_minus (ok : HOk P w H h) (hl : ∀ c ∈ l, ∃ o, H c = some (.frz o (.own 0))) : HOk P w (hMinus H l) h := fun b o e => by
  by_cases hb : b ∈ l
  · rw [minus_in hb] at e; cases e
  · rw [minus_out hb] at e
    have ne : ∀ (b' : Addr) (u : HO), H b' = some u → (∀ ob, u ≠ .frz ob (.own 0)) → b' ∉ l := fun b' u q n z => by
      obtain ⟨ob, q2⟩ := hl b' z
      rw [q] at q2
      exact n ob (Option.some.inj q2)
    exact (ok b o e).stay (fun _ _ _ q => q) (fun b' q => by rw [minus_out (ne b' _ q fun ob z => by cases z)]; exact q) fun b' xs q => by rw [minus_out (ne b' _ q fun ob z => by cases z)]; exact q
theorem hok_plus (ok : HOk P w H h') (hn : ∀ c ∈ l, H c = none) (hx : ∀ c ∈ l, ∃ o, h0.get? c = some o ∧ h'.get? c = some o) : HOk P w (hPlus H l h0) h' := fun b o e => by
  by_cases hb : b ∈ l
  · obtain ⟨ob, e1, e2⟩ := hx b hb
    rw [plus_in hb e1] at e
    cases e
    exact ⟨e2, ob, e2⟩
  · rw [plus_out hb] at e
    have ne : ∀ (b' : Addr) (u : HO), H b' = some u → b' ∉ l := fun b' u q z => by rw [hn b' z] at q; cases q
    exact (ok b o e).stay (fun _ _ _ q => q) (fun b' q => by rw [plus_out (ne b' _ q)]; exact q) fun b' xs q => by rw [plus_out (ne b' _ q)]; exact q
/-- taken away for a call, behind it laid back -/
theorem un_plus (u : Un fs [] (hMinus H l) H' h h') (hl : ∀ c ∈ l, ∃ o, H c = some (.frz o (.own 0)) ∧ h.get? c = some o) : Un fs [] H (hPlus H' l h) h h' := by
  have out : ∀ (b : Addr), H b = none → b ∉ l := fun b q z => by
    obtain ⟨o, e, _⟩ := hl b z
    rw [q] at e; cases e
  have out2 : ∀ (b : Addr) (v : HO), H b = some v → (∀ ob, v ≠ .frz ob (.own 0)) → b ∉ l := fun b v q n z => by
    obtain ⟨o, e, _⟩ := hl b z
    rw [q] at e
    exact n o (Option.some.inj e)
  refine ⟨fun b o e n => u.keep b o e (by rw [minus_out (out b n)]; exact n), fun b o e n => u.slot b o e (by rw [minus_out (out b n)]; exact n), fun b o e n hx => ?_, u.there, fun b xs q => ?_, fun b ob v q => ?_, fun b ps q => ?_⟩
  · rw [plus_out (out b n)]
    exact u.free b o e (by rw [minus_out (out b n)]; exact n) hx
  · have z := out2 b _ q fun ob z => by cases z
    rw [plus_out z]
    exact u.tups b xs (by rw [minus_out z]; exact q)
  · by_cases z : b ∈ l
    · obtain ⟨o, e1, e2⟩ := hl b z
      rw [q] at e1
      cases e1
      exact plus_in z e2
    · rw [plus_out z]
      exact u.frzs b ob v (by rw [minus_out z]; exact q)
  · have z := out2 b _ q fun ob z => by cases z
    rw [plus_out z]
    exact u.tbls b ps (by rw [minus_out z]; exact q)
/-- lent to a call, behind it taken back -/
theorem un_minus (u : Un fs [] (hPlus H l h) H' h h') (ok : HOk P w H' h') (hn : ∀ c ∈ l, H c = none) (hx : ∀ c ∈ l, ∃ o, h.get? c = some o) : Un fs [] H (hMinus H' l) h h' := by
  have out : ∀ (b : Addr) (v : HO), H b = some v → b ∉ l := fun b v q z => by rw [hn b z] at q; cases q
  have same : ∀ b ∈ l, ∀ o, h.get? b = some o → h'.get? b = some o := fun b z o e => (ok b _ (u.frzs b o (.own 0) (plus_in z e))).1
  refine ⟨fun b o e n hf he => ?_, fun b o e n hf he => ?_, fun b o e n he => ?_, u.there, fun b xs q => ?_, fun b ob v q => ?_, fun b ps q => ?_⟩
  · by_cases z : b ∈ l
    · exact same b z o e
    · exact u.keep b o e (by rw [plus_out z]; exact n) hf he
  · by_cases z : b ∈ l
    · exact ⟨o.slots, same b z o e⟩
    · exact u.slot b o e (by rw [plus_out z]; exact n) hf he
  · by_cases z : b ∈ l
    · exact minus_in z
    · rw [minus_out z]
      exact u.free b o e (by rw [plus_out z]; exact n) he
  · have z := out b _ q
    rw [minus_out z]
    exact u.tups b xs (by rw [plus_out z]; exact q)
  · have z := out b _ q
    rw [minus_out z]
    exact u.frzs b ob v (by rw [plus_out z]; exact q)
  · have z := out b _ q
    rw [minus_out z]
    exact u.tbls b ps (by rw [plus_out z]; exact q)
end
/-! ### the mirror's heap -/
def putAt : MH → Nat → List MO → MH
  | h, _, [] => h
  | h, n, c :: cs => putAt (h.set n c) (n + 1) cs
theorem putAt_len : ∀ (h : MH) (n : Nat) (cs : List MO), (putAt h n cs).length = h.length
  | h, n, [] => rfl
  | h, n, c :: cs => by
    show (putAt (h.set n c) (n + 1) cs).length = _
    rw [putAt_len, List.length_set]
theorem putAt_lt : ∀ (cs : List MO) (h : MH) {n j : Nat}, j < n → (putAt h n cs)[j]? = h[j]?
  | [], h, n, j, _ => rfl
  | c :: cs, h, n, j, l => by
    show (putAt (h.set n c) (n + 1) cs)[j]? = _
    rw [putAt_lt cs _ (by omega), List.getElem?_set_ne (by omega)]
theorem putAt_ge : ∀ (cs : List MO) (h : MH) {n j : Nat}, n + cs.length ≤ j → (putAt h n cs)[j]? = h[j]?
  | [], h, n, j, _ => rfl
  | c :: cs, h, n, j, l => by
    simp only [List.length_cons] at l
    show (putAt (h.set n c) (n + 1) cs)[j]? = _
    rw [putAt_ge cs _ (by omega), List.getElem?_set_ne (by omega)]
theorem putAt_mid : ∀ (cs : List MO) (h : MH) {n i : Nat} {c : MO}, n + i < h.length → cs[i]? = some c → (putAt h n cs)[n + i]? = some c
  | [], h, n, i, c, _, e => by simp at e
  | d :: cs, h, n, 0, c, l, e => by
    simp at e
    subst e
    show (putAt (h.set n d) (n + 1) cs)[n + 0]? = _
    rw [putAt_lt cs _ (by omega), Nat.add_zero, List.getElem?_set_self (by omega)]
  | d :: cs, h, n, i + 1, c, l, e => by
    show (putAt (h.set n d) (n + 1) cs)[n + (i + 1)]? = _
    rw [show n + (i + 1) = (n + 1) + i by omega]
    exact putAt_mid cs _ (by rw [List.length_set]; omega) (by simpa using e)
/-! ### ghosts -/
abbrev adsOf (C : List (Str × Addr)) : List Addr := C.map (·.2)
theorem mem_ads {C : List (Str × Addr)} {a : Addr} : a ∈ adsOf C ↔ ∃ (i : Nat) (y : Str), C[i]? = some (y, a) := by
  unfold adsOf
  rw [List.mem_map]
  constructor
  · rintro ⟨⟨y, b⟩, h, rfl⟩
    obtain ⟨i, hi⟩ := List.mem_iff_getElem?.mp h
    exact ⟨i, y, hi⟩
  · rintro ⟨i, y, h⟩
    exact ⟨(y, a), List.mem_of_getElem? h, rfl⟩
section
variable {K : PySem.W.Frag} {mg : Str → Option Value} {g g' : G} {C : List (Str × Addr)} {n : Nat}
/-- the cells of C are the changeable objects from the n-th on -/
def CelsAt (g : G) (C : List (Str × Addr)) (n : Nat) : Prop := ∀ (i : Nat) y c, C[i]? = some (y, c) → g.rho[n + i]? = some c ∧ ∃ ot, g.h[n + i]? = some (.cel ot)
abbrev deads (C : List (Str × Addr)) : List MO := List.replicate C.length MO.dead
def G.kill (g : G) (C : List (Str × Addr)) (n : Nat) : G := ⟨g.rho, putAt g.h n (deads C), g.pv, hMinus g.H (adsOf C)⟩
theorem in_range {i : Nat} (h : n ≤ i ∧ i < n + C.length) : ∃ y c, C[i - n]? = some (y, c) ∧ n + (i - n) = i := by
  have l : i - n < C.length := by omega
  exact ⟨_, _, List.getElem?_eq_getElem l, by omega⟩
theorem CelsAt.live (F : CelsAt g C n) {i : Nat} {y : Str} {c : Addr} (h : C[i]? = some (y, c)) : g.live (n + i) c := by
  obtain ⟨h1, ot, h2⟩ := F i y c h
  exact ⟨h1, _, h2, by intro e; cases e⟩
theorem CelsAt.len (R : Rel K mg g) (F : CelsAt g C n) : C = [] ∨ n + C.length ≤ g.h.length := by
  cases C with
  | nil => exact .inl rfl
  | cons d C =>
    refine .inr ?_
    have l : C.length < (d :: C).length := by simp
    obtain ⟨h1, _, h2⟩ := F C.length _ _ (List.getElem?_eq_getElem l)
    have := (List.getElem?_eq_some_iff.mp h2).1
    simp only [List.length_cons]
    omega
theorem kill_live (R : Rel K mg g) (F : CelsAt g C n) {i : Nat} {a : Addr} (h : (g.kill C n).live i a) : g.live i a ∧ a ∉ adsOf C := by
  obtain ⟨h1, o, h2, h3⟩ := h
  have h2' : (putAt g.h n (deads C))[i]? = some o := h2
  have nr : ¬ (n ≤ i ∧ i < n + C.length) := fun r => by
    obtain ⟨y, c, e, ei⟩ := in_range r
    have l : n + (i - n) < g.h.length := by
      obtain ⟨_, _, z⟩ := F _ _ _ e
      exact (List.getElem?_eq_some_iff.mp z).1
    have q := putAt_mid (deads C) g.h (i := i - n) (c := MO.dead) l (by
      unfold deads
      rw [List.getElem?_replicate, if_pos (by omega)])
    rw [ei, h2'] at q
    exact h3 (Option.some.inj q)
  have e : (putAt g.h n (deads C))[i]? = g.h[i]? := by
    by_cases l : i < n
    · exact putAt_lt _ _ l
    · refine putAt_ge _ _ ?_
      unfold deads
      rw [List.length_replicate]; omega
  rw [e] at h2'
  have li : g.live i a := ⟨h1, o, h2', h3⟩
  refine ⟨li, fun z => ?_⟩
  obtain ⟨j, y, hj⟩ := mem_ads.mp z
  have ej := R.inj i (n + j) a li (F.live hj)
  have := (List.getElem?_eq_some_iff.mp hj).1
  exact nr ⟨by omega, by omega⟩
theorem CelsAt.hid (F : CelsAt g C n) {a : Addr} (h : a ∈ adsOf C) : g.hid a := by
  obtain ⟨i, y, hi⟩ := mem_ads.mp h
  obtain ⟨h1, o, h2, h3⟩ := F.live hi
  exact .inr ⟨_, o, h1, h2, h3⟩
theorem kill_ok (R : Rel K mg g) (F : CelsAt g C n) : Sub g (g.kill C n) ∧ Rel K mg (g.kill C n) := by
  have hid : ∀ a, (g.kill C n).hid a → g.hid a := by
    rintro a (z | ⟨i, o, z1, z2, z3⟩)
    · exact .inl z
    · obtain ⟨⟨h1, o', h2, h3⟩, _⟩ := kill_live R F (i := i) (a := a) ⟨z1, o, z2, z3⟩
      exact .inr ⟨i, o', h1, h2, h3⟩
  have hs : Sub g (g.kill C n) := ⟨fun _ _ h => h, fun a o h m => ⟨by
    show hMinus g.H (adsOf C) a = some o
    rw [minus_out fun z => m (F.hid z)]; exact h, fun z => m (hid a z)⟩⟩
  refine ⟨hs, ?_, fun i j a z1 z2 => R.inj i j a (kill_live R F z1).1 (kill_live R F z2).1, fun a ha i z => R.npv a ha i (kill_live R F z).1, fun a ha => ?_, fun i a z => ?_, fun i a o z1 z2 => ?_⟩
  · show g.rho.length = (putAt g.h n (deads C)).length
    rw [putAt_len]; exact R.len
  · obtain ⟨u, e⟩ := R.pvt a ha
    refine ⟨u, ?_⟩
    show hMinus g.H (adsOf C) a = some u
    rw [minus_out fun z => ?_]; exact e
    obtain ⟨i, y, hi⟩ := mem_ads.mp z
    exact R.npv a ha _ (F.live hi)
  · obtain ⟨l, m⟩ := kill_live R F z
    obtain ⟨u, e⟩ := R.tr i a l
    exact ⟨u, by show hMinus g.H (adsOf C) a = some u; rw [minus_out m]; exact e⟩
  · by_cases wd : o = MO.dead
    · subst wd; trivial
    obtain ⟨⟨h1, o', h2, h3⟩, m⟩ := kill_live R F (i := i) (a := a) ⟨z1, o, z2, wd⟩
    have z2' : (putAt g.h n (deads C))[i]? = some o := z2
    have e : (putAt g.h n (deads C))[i]? = g.h[i]? := by
      by_cases l : i < n
      · exact putAt_lt _ _ l
      · by_cases r : i < n + C.length
        · obtain ⟨y, c, e, ei⟩ := in_range (n := n) (C := C) (i := i) ⟨by omega, r⟩
          have q := putAt_mid (deads C) g.h (i := i - n) (c := MO.dead) (by rw [ei]; exact (List.getElem?_eq_some_iff.mp h2).1) (by
            unfold deads
            rw [List.getElem?_replicate, if_pos (by omega)])
          rw [ei, z2'] at q
          exact absurd (Option.some.inj q) wd
        · refine putAt_ge _ _ ?_
          unfold deads
          rw [List.length_replicate]; omega
    rw [e] at z2'
    exact (R.obj i a o h1 z2').sub hs fun u hu => by
      show hMinus g.H (adsOf C) a = some u
      rw [minus_out m]; exact hu
/-- behind the call the cells are laid back -/
def G.back (g' : G) (C : List (Str × Addr)) (n : Nat) (cs : List MO) (h0 : Heap) : G := ⟨g'.rho, putAt g'.h n cs, g'.pv, hPlus g'.H (adsOf C) h0⟩
theorem back_ok {cs : List MO} {h0 : Heap} (R : Rel K mg g) (F : CelsAt g C n) (hcs : cs.length = C.length) (hc : ∀ i < C.length, cs[i]? = g.h[n + i]?) (h0h : ∀ c ∈ adsOf C, ∀ o, g.H c = some (.frz o (.own 0)) → h0.get? c = some o)
    (R' : Rel K mg g') (e : Ext (g.kill C n) g') (hn : ∀ c ∈ adsOf C, g'.H c = none) : Ext g (g'.back C n cs h0) ∧ Rel K mg (g'.back C n cs h0) ∧ Sub g' (g'.back C n cs h0) := by
  have rho' : ∀ (i : Nat) y c, C[i]? = some (y, c) → g'.rho[n + i]? = some c := fun i y c h => e.rho _ _ (F i y c h).1
  have len' : ∀ (i : Nat) y c, C[i]? = some (y, c) → n + i < g'.h.length := fun i y c h => by
    rw [← R'.len]
    exact (List.getElem?_eq_some_iff.mp (rho' i y c h)).1
  have out' : ∀ (i : Nat) a, g'.live i a → a ∉ adsOf C := fun i a h z => by
    obtain ⟨u, q⟩ := R'.tr i a h
    rw [hn a z] at q; cases q
  have frz : ∀ c ∈ adsOf C, ∃ o, g.H c = some (.frz o (.own 0)) ∧ h0.get? c = some o := fun c hm => by
    obtain ⟨i, y, hi⟩ := mem_ads.mp hm
    obtain ⟨h1, ot, h2⟩ := F i y c hi
    obtain ⟨o, u, q, _⟩ := R.obj _ _ _ h1 h2
    exact ⟨o, q, h0h c hm o q⟩
  have get : ∀ (i : Nat) (o : MO), (putAt g'.h n cs)[i]? = some o → (∃ y c, C[i - n]? = some (y, c) ∧ n + (i - n) = i ∧ g.h[i]? = some o) ∨ g'.h[i]? = some o := fun i o h => by
    by_cases l : i < n
    · rw [putAt_lt _ _ l] at h; exact .inr h
    · by_cases r : i < n + C.length
      · obtain ⟨y, c, e1, ei⟩ := in_range (n := n) (C := C) (i := i) ⟨by omega, r⟩
        have q := hc (i - n) (by omega)
        rw [ei] at q
        obtain ⟨ot, q2⟩ := (F _ _ _ e1).2
        rw [ei] at q2
        have q3 := putAt_mid cs g'.h (i := i - n) (c := MO.cel ot) (len' _ _ _ e1) (by rw [q]; exact q2)
        rw [ei, h] at q3
        exact .inl ⟨y, c, e1, ei, by rw [q2]; exact q3.symm⟩
      · rw [putAt_ge _ _ (by omega)] at h; exact .inr h
  have lv : ∀ (i : Nat) a, (g'.back C n cs h0).live i a → (a ∈ adsOf C ∧ g.live i a) ∨ (g'.live i a ∧ a ∉ adsOf C) := by
    rintro i a ⟨z1, o, z2, z3⟩
    rcases get i o z2 with ⟨y, c, e1, ei, q⟩ | q
    · have z1' : g'.rho[i]? = some a := z1
      have q1 := rho' _ _ _ e1
      rw [ei, z1'] at q1
      cases q1
      have l := F.live e1
      rw [ei] at l
      exact .inl ⟨mem_ads.mpr ⟨_, y, e1⟩, l⟩
    · have l : g'.live i a := ⟨z1, o, q, z3⟩
      exact .inr ⟨l, out' i a l⟩
  have hid' : ∀ a, a ∉ adsOf C → (g'.back C n cs h0).hid a → g'.hid a := by
    rintro a m (z | ⟨i, o, z1, z2, z3⟩)
    · exact .inl z
    · rcases lv i a ⟨z1, o, z2, z3⟩ with ⟨q, _⟩ | ⟨⟨h1, o', h2, h3⟩, _⟩
      · exact absurd q m
      · exact .inr ⟨i, o', h1, h2, h3⟩
  have s1 : Sub g' (g'.back C n cs h0) := ⟨fun _ _ h => h, fun a o h m => by
    have z : a ∉ adsOf C := fun z => by rw [hn a z] at h; cases h
    exact ⟨by show hPlus g'.H (adsOf C) h0 a = some o; rw [plus_out z]; exact h, fun q => m (hid' a z q)⟩⟩
  have s0 : Sub g (g'.back C n cs h0) := ⟨fun i a h => e.rho i a h, fun a o h m => by
    obtain ⟨k1, k2⟩ := (kill_ok R F).1.keep a o h m
    obtain ⟨k3, k4⟩ := e.keep a o k1 k2
    exact s1.keep a o k3 k4⟩
  have pvo : ∀ a ∈ g'.pv, a ∉ adsOf C := fun a ha z => by
    obtain ⟨i, y, hi⟩ := mem_ads.mp z
    rw [e.pv] at ha
    exact R.npv a ha _ (F.live hi)
  refine ⟨⟨s0.rho, e.pv, fun a ha => ?_, s0.keep⟩, ⟨?_, fun i j a z1 z2 => ?_, fun a ha i z => ?_, fun a ha => ?_, fun i a z => ?_, fun i a o z1 z2 => ?_⟩, s1⟩
  · have z : a ∉ adsOf C := pvo a (by rw [e.pv]; exact ha)
    show hPlus g'.H (adsOf C) h0 a = g.H a
    rw [plus_out z, e.pvk a ha]
    exact minus_out z
  · show g'.rho.length = (putAt g'.h n cs).length
    rw [putAt_len]; exact R'.len
  · rcases lv i a z1 with ⟨p1, q1⟩ | ⟨p1, q1⟩ <;> rcases lv j a z2 with ⟨p2, q2⟩ | ⟨p2, q2⟩
    · exact R.inj i j a q1 q2
    · exact absurd p1 q2
    · exact absurd p2 q1
    · exact R'.inj i j a p1 p2
  · have z' := pvo a ha
    rcases lv i a z with ⟨p, _⟩ | ⟨p, _⟩
    · exact z' p
    · exact R'.npv a ha i p
  · obtain ⟨u, q⟩ := R'.pvt a ha
    exact ⟨u, by show hPlus g'.H (adsOf C) h0 a = some u; rw [plus_out (pvo a ha)]; exact q⟩
  · rcases lv i a z with ⟨p, _⟩ | ⟨p, q⟩
    · obtain ⟨o, _, e2⟩ := frz a p
      exact ⟨_, plus_in p e2⟩
    · obtain ⟨u, r⟩ := R'.tr i a p
      exact ⟨u, by show hPlus g'.H (adsOf C) h0 a = some u; rw [plus_out q]; exact r⟩
  · rcases get i o z2 with ⟨y, c, e1, ei, q⟩ | q
    · have z1' : g'.rho[i]? = some a := z1
      have q1 := rho' _ _ _ e1
      rw [ei, z1'] at q1
      cases q1
      have m : a ∈ adsOf C := mem_ads.mpr ⟨_, y, e1⟩
      obtain ⟨h1, ot, h2⟩ := F _ _ _ e1
      rw [ei] at h1 h2
      rw [q] at h2
      cases h2
      obtain ⟨ob, u, k1, k2, k3⟩ := R.obj _ _ _ h1 q
      exact ⟨ob, u, plus_in m (h0h a m ob k1), k2, fun t z => let ⟨v, u', w1, w2, w3⟩ := k3 t z; ⟨v, u', w1, w2, Rep.sub s0 t v w3⟩⟩
    · by_cases wd : o = MO.dead
      · subst wd; trivial
      have m := out' i a ⟨z1, o, q, wd⟩
      exact (R'.obj i a o z1 q).sub s1 fun u hu => by
        show hPlus g'.H (adsOf C) h0 a = some u
        rw [plus_out m]; exact hu
end
end Mi
end part_Mi40
section part_Mi41
set_option maxRecDepth 100000
set_option maxHeartbeats 2000000
/-! Mi, part 41: a lambda is called. -/
namespace Mi
open PySem PySem.Spec PyProof.Rows L2
/-- a lambda's mirror: its words, the names that it captures, their places among the maker's cells; on what they hold -/
structure LamE where
  I : LamI
  fr : List Str
  js : List Nat
  m : MF
def celVal (h : MH) (n j : Nat) : Option T := match (h[n + j]? : Option MO) with
  | some (.cel (some t)) => some t
  | _ => none
def celVals (h : MH) (n : Nat) : List Nat → Option (List T)
  | [] => some []
  | j :: js => match celVal h n j with
    | some t => match celVals h n js with
      | some ts => some (t :: ts)
      | none => none
    | none => none
def isCel (h : MH) (j : Nat) : Bool := match (h[j]? : Option MO) with
  | some (.cel _) => true
  | _ => false
def allCel (h : MH) (n m : Nat) : Bool := (List.range m).all fun i => isCel h (n + i)
/-- what is asked of the cells' names -/
def okC (C : List (Str × Addr)) (fr : List Str) (js : List Nat) : Bool := decide (C.map (·.1)).Nodup && decide (js.map (fun j => (C[j]?).map (·.1)) = fr.map some)
def actM (e : LamE) (C : List (Str × Addr)) (n : Nat) (h : MH) : R := if okC C e.fr e.js && allCel h n C.length then
    match celVals h n e.js with
    | some ts => match e.m ts (putAt h n (deads C)) with
      | .ok t h2 => .ok t (putAt h2 n ((h.drop n).take C.length))
      | .ex x h2 => .ex x (putAt h2 n ((h.drop n).take C.length))
      | .stuck => .stuck
    | none => .stuck
  else .stuck
open Classical in
noncomputable def actR (tab : List LamE) (k : Nat) (I : LamI) (C : List (Str × Addr)) (n : Nat) (h : MH) : R := match (tab[k]? : Option LamE) with
  | some e => if e.I = I then actM e C n h else .stuck
  | none => .stuck
noncomputable def mAct (tab : List LamE) (i : Nat) : ME := fun s h => match s[i]? with
  | some (some (.fnc k I C n)) => actR tab k I C n h
  | _ => .stuck
theorem allCel_at {h : MH} {n m i : Nat} (a : allCel h n m = true) (l : i < m) : ∃ ot, h[n + i]? = some (.cel ot) := by
  unfold allCel at a
  rw [List.all_eq_true] at a
  have z := a i (List.mem_range.mpr l)
  unfold isCel at z
  split at z
  · rename_i ot q; exact ⟨ot, q⟩
  · cases z
theorem lookup_at : ∀ {C : List (Str × Addr)} {j : Nat} {y : Str} {c : Addr}, (C.map (·.1)).Nodup → C[j]? = some (y, c) → C.lookup y = some c
  | [], j, y, c, _, e => by simp at e
  | (z, d) :: C, 0, y, c, nd, e => by
    simp at e
    obtain ⟨rfl, rfl⟩ := e
    simp [List.lookup]
  | (z, d) :: C, j + 1, y, c, nd, e => by
    have e' : C[j]? = some (y, c) := by simpa using e
    rw [List.map_cons, List.nodup_cons] at nd
    have ne : y ≠ z := fun q => nd.1 (by rw [← q]; exact List.mem_map.mpr ⟨(y, c), List.mem_of_getElem? e', rfl⟩)
    rw [List.lookup_cons, show (y == z) = false from by simpa using ne]
    exact lookup_at nd.2 e'
section
variable {P : Program} {w : World} {K : PySem.W.Frag} {mg : Str → Option Value} {base : Heap} {g g' : G}
/-- what a lambda promises; the maker's cells are not tracked while it runs -/
structure LOk (P : Program) (w : World) (K : PySem.W.Frag) (mg : Str → Option Value) (base : Heap) (k : Nat) (e : LamE) : Prop where
  frk : ∀ y ∈ e.fr, (y, NameKind.free) ∈ e.I.scope.names
  run : ∀ (A : Around) (outer : List Env) (s : Shared) (g : G) (f c' : Addr) (dv : Value) (C : List (Str × Addr)) (ts : List T) (vs : List V) (Q : VK) (E : XK), Room k A → Env0 P w K mg base A outer s g.H → Rel K mg g → RepL K mg g ts vs →
    g.H f = some (LamO f e.I C c' dv) → g.H c' = some (LamX.CodeO c' e.I.q) → ((e.I.dflt = false ∧ dv = .none) ∨ (e.I.dflt = true ∧ ∃ dt, dv = .ref dt ∧ g.H dt = some (DfO dt))) →
    NdefX.CellsAt (cloFrom C e.I.scope.names []) e.fr (vs.map some) s.heap g.H → wpD K mg g Q E (e.m ts g.h) → codeAny (model P w) A (.call (.ref f) ⟨[], []⟩) (CR (L2.CX P w) outer P w g.H s Q E) s
theorem cel_vals {s : Heap} {C : List (Str × Addr)} {n : Nat} (R : Rel K mg g) (F : CelsAt g C n) (ok : HOk P w g.H s) : ∀ {js : List Nat} {ts : List T}, celVals g.h n js = some ts → ∃ vs, RepL K mg g ts vs ∧ vs.length = js.length ∧ ∀ (i j : Nat) y c v, js[i]? = some j → C[j]? = some (y, c) → vs[i]? = some v → ∃ u, RelV v u ∧ s.IsCell c (some u)
  | [], ts, h => by
    simp only [celVals, Option.some.injEq] at h
    subst h
    exact ⟨[], RepL.nil, rfl, fun i j y c v h => by simp at h⟩
  | j :: js, ts, h => by
    unfold celVals at h
    split at h
    · rename_i t q
      split at h
      · rename_i ts' q2
        cases h
        obtain ⟨vs, r, l, hv⟩ := cel_vals R F ok q2
        unfold celVal at q
        split at q
        · rename_i t' q3
          cases q
          have hr : ∃ a, g.rho[n + j]? = some a := by
            have := (List.getElem?_eq_some_iff.mp q3).1
            exact ⟨_, List.getElem?_eq_getElem (by rw [R.len]; exact this)⟩
          obtain ⟨a, ha⟩ := hr
          obtain ⟨o, u, e1, e2, e3⟩ := R.obj _ _ _ ha q3
          obtain ⟨v, u', rfl, rv, rt⟩ := e3 t rfl
          refine ⟨v :: vs, RepL.cons rt r, by simp [l], fun i j' y c w h1 h2 h3 => ?_⟩
          cases i with
          | zero =>
            simp at h1 h3
            subst h1 h3
            have q4 := (F _ _ _ h2).1
            rw [ha] at q4
            cases q4
            exact ⟨u', rv, o, (ok _ _ e1).1, e2⟩
          | succ i => exact hv i j' y c w (by simpa using h1) h2 (by simpa using h3)
        · cases q
      · cases h
    · cases h
theorem RepX.sub (e : Sub g g') {x : Exc} {cls : Value} {d : Option Addr} (h : RepX K mg g x cls d) : RepX K mg g' x cls d := by
  obtain ⟨C, da, fs, e1, e2, e3, ⟨h1, n⟩, e4, h2⟩ := h
  exact ⟨C, da, fs, e1, e2, e3, e.keep _ _ h1 n, e4, h2.sub e⟩
theorem ub_plus {H H' : Hp} {h B h' : Heap} {l fs : List Addr} (u : UB fs (hMinus H l) H' h B h') (hl : ∀ c ∈ l, ∃ o, H c = some (.frz o (.own 0)) ∧ h.get? c = some o) : UB fs H (hPlus H' l h) h B h' := by
  have out : ∀ (b : Addr), H b = none → b ∉ l := fun b q z => by
    obtain ⟨o, e, _⟩ := hl b z
    rw [q] at e; cases e
  have out2 : ∀ (b : Addr) (v : HO), H b = some v → (∀ ob, v ≠ .frz ob (.own 0)) → b ∉ l := fun b v q n z => by
    obtain ⟨o, e, _⟩ := hl b z
    rw [q] at e
    exact n o (Option.some.inj e)
  refine ⟨fun b o e n => u.keep b o e (by rw [minus_out (out b n)]; exact n), u.slot, fun b o e n => ?_, u.there, fun b xs q => ?_, fun b ob v q => ?_, fun b ps q => ?_⟩
  · rw [plus_out (out b n)]
    exact u.free b o e (by rw [minus_out (out b n)]; exact n)
  · have z := out2 b _ q fun ob z => by cases z
    rw [plus_out z]
    exact u.tups b xs (by rw [minus_out z]; exact q)
  · by_cases z : b ∈ l
    · obtain ⟨o, e1, e2⟩ := hl b z
      rw [q] at e1
      cases e1
      exact plus_in z e2
    · rw [plus_out z]
      exact u.frzs b ob v (by rw [minus_out z]; exact q)
  · have z := out2 b _ q fun ob z => by cases z
    rw [plus_out z]
    exact u.tbls b ps (by rw [minus_out z]; exact q)
end
section
variable {X : Cx} {W : WX} {tab : List LamE} {i k : Nat} {a : Str} {p1 p2 : Pos}
/-- a(), a's value is one of the lambdas of the table -/
theorem se_act (hT : ∀ e ∈ tab, LOk X.prog X.w X.K X.mg X.base k e) (hr : Room k X.A) (tk : Takes X W) (hN : X.N[i]? = some a := by rfl) (hv : Vis X.env.scope a := by first | exact Or.inl rfl | exact Or.inr (Or.inl rfl) | exact Or.inr (Or.inr rfl))
    (hd : (a == ("__debug__" : Str)) = false := by decide) (hcd : (a == ("__classdict__" : Str)) = false := by decide) : SE X W (.Call (.Name a p1) [] [] p2) (mAct tab i) := by
  refine ⟨fun pins s σ H Q J h => ?_⟩
  obtain ⟨g, sm, rfl, R, S, h⟩ := h
  unfold mAct at h
  split at h
  case h_2 => exact h.elim
  rename_i kk I C n hs
  unfold actR at h
  split at h
  case h_2 => exact h.elim
  rename_i e he
  split at h
  case isFalse => exact h.elim
  rename_i eI
  subst eI
  unfold actM at h
  split at h
  case isFalse => exact h.elim
  rename_i hok
  rw [Bool.and_eq_true] at hok
  obtain ⟨okc, oka⟩ := hok
  split at h
  case h_2 => exact h.elim
  rename_i ts hts
  obtain ⟨v, hσ, rv⟩ := S.2 i _ hs
  simp only [Rep] at rv
  obtain ⟨⟨f, c', dv, rfl, ⟨hf, nf⟩, ⟨hc, nc⟩, hdv, hfree⟩, hrho⟩ := rv
  have F : CelsAt g C n := fun i y c hc => ⟨hrho i y c hc, allCel_at oka (List.getElem?_eq_some_iff.mp hc).1⟩
  unfold okC at okc
  rw [Bool.and_eq_true, decide_eq_true_eq, decide_eq_true_eq] at okc
  obtain ⟨ndC, hjs⟩ := okc
  have L := hT e (List.mem_of_getElem? he)
  refine wpAny_Call_Name_kw (thn ((pe_var (pos := p1) (i := i) hN hv hd hcd).run pins s σ g.H (fun v H1 => v = .ref f ∧ H1 = g.H) J ⟨.ref f, hσ, rfl, rfl⟩) fun u s1 ⟨v, H1, I1, r1, q1⟩ => ?_)
  obtain ⟨ev, eH⟩ := q1
  subst ev
  rw [eH] at I1
  obtain rfl : u = Value.ref f := r1
  have of1 : PySem.W.FnAt f s1.heap := by
    obtain ⟨⟨od, sl, pm, ctv, z⟩, _, _⟩ := I1.hok f _ hf
    exact ⟨_, od, _, sl, z⟩
  refine PySem.W.callWith_F0 (first := []) of1 ?_
  show wpAny _ _ (call (.ref f) []) _ _ _
  obtain ⟨sk, Rk⟩ := kill_ok R F
  obtain ⟨vs, rvs, lvs, hvs⟩ := cel_vals R F I1.hok hts
  have frz : ∀ c ∈ adsOf C, ∃ o, g.H c = some (.frz o (.own 0)) ∧ s1.heap.get? c = some o ∧ ∃ u, o.data = .cell u := fun c hm => by
    obtain ⟨i, y, hi⟩ := mem_ads.mp hm
    obtain ⟨h1, ot, h2⟩ := F i y c hi
    obtain ⟨o, u, q, qd, _⟩ := R.obj _ _ _ h1 h2
    exact ⟨o, q, (I1.hok c _ q).1, u, qd⟩
  have frz2 : ∀ c ∈ adsOf C, ∃ o, g.H c = some (.frz o (.own 0)) ∧ s1.heap.get? c = some o := fun c hm => let ⟨o, a, b, _⟩ := frz c hm; ⟨o, a, b⟩
  have out : ∀ b, ¬ g.hid b → b ∉ adsOf C := fun b nb z => nb (F.hid z)
  have nofr : ∀ c ∈ adsOf C, c ∉ frs X.stack := fun c hm z => by
    obtain ⟨o, q, _⟩ := frz2 c hm
    rw [I1.stkFree c z] at q; cases q
  have e0 : Env0 X.prog X.w X.K X.mg X.base X.A X.stack s1 (g.kill C n).H := by
    have e := I1.env0
    have none_ : ∀ b, g.H b = none → hMinus g.H (adsOf C) b = none := fun b q => by
      unfold hMinus
      split
      · rfl
      · exact q
    exact ⟨e.frames, e.mod, fun b o q => ⟨(e.bs b o q).1, none_ b (e.bs b o q).2⟩, e.bsz, e.funs, fun b hb => none_ b (e.frf b hb), hok_minus e.hok fun c hm => let ⟨o, q, _⟩ := frz2 c hm; ⟨o, q⟩, e.bare⟩
  have lk : ∀ {y c}, C.lookup y = some c → c ∈ adsOf C := fun {y c} q => List.mem_map.mpr ⟨(y, c), PySem.mem_of_lookup q, rfl⟩
  have CA : NdefX.CellsAt (cloFrom C e.I.scope.names []) e.fr (vs.map some) s1.heap (g.kill C n).H := by
    have ljs : e.js.length = e.fr.length := by simpa using congrArg List.length hjs
    refine ⟨by rw [List.length_map, lvs, ljs], fun y c q => ?_, fun x y c q1 q2 => ?_, fun j y q => ?_⟩
    · have m := lk (NdefX.clo_cm hfree q)
      obtain ⟨o, _, z, u, zd⟩ := frz c m
      exact ⟨minus_in m, u, o, z, zd⟩
    · obtain ⟨i1, h1⟩ := List.mem_iff_getElem?.mp (PySem.mem_of_lookup (NdefX.clo_cm hfree q1))
      obtain ⟨i2, h2⟩ := List.mem_iff_getElem?.mp (PySem.mem_of_lookup (NdefX.clo_cm hfree q2))
      have := R.inj _ _ c (F.live h1) (F.live h2)
      have e3 : i1 = i2 := by omega
      subst e3
      rw [h1] at h2
      cases h2
      rfl
    · have hj : (e.js.map fun j => (C[j]?).map (·.1))[j]? = some (some y) := by
        rw [hjs, List.getElem?_map, q] <;> rfl
      rw [List.getElem?_map] at hj
      cases ej : e.js[j]? with
      | none => rw [ej] at hj; cases hj
      | some j' =>
        rw [ej] at hj
        have hj : (C[j']?).map (·.1) = some y := Option.some.inj (show some ((C[j']?).map (·.1)) = some (some y) from hj)
        cases eC : C[j']? with
        | none => rw [eC] at hj; cases hj
        | some yc =>
          obtain ⟨y', c⟩ := yc
          rw [eC] at hj
          cases hj
          refine ⟨c, NdefX.clo_has hfree (L.frk y' (List.mem_of_getElem? q)) (lookup_at ndC eC), fun v hv => ?_⟩
          rw [List.getElem?_map] at hv
          cases ev : vs[j]? with
          | none => rw [ev] at hv; cases hv
          | some v' =>
            rw [ev] at hv
            cases hv
            exact hvs j j' y' c v ej eC ev
  have kp : ∀ b o, g.H b = some o → ¬ g.hid b → (g.kill C n).H b = some o := fun b o q nb => (sk.keep b o q nb).1
  have rc := L.run X.A X.stack s1 (g.kill C n) f c' dv C ts vs
    (fun v H' => ∃ g' t h2, e.m ts (g.kill C n).h = .ok t h2 ∧ g'.H = H' ∧ g'.h = h2 ∧ Ext (g.kill C n) g' ∧ Rel X.K X.mg g' ∧ Rep X.K X.mg g' t v)
    (fun cls d H' => ∃ g' x h2, e.m ts (g.kill C n).h = .ex x h2 ∧ g'.H = H' ∧ g'.h = h2 ∧ Ext (g.kill C n) g' ∧ Rel X.K X.mg g' ∧ RepX X.K X.mg g' x cls d)
    hr e0 Rk (rvs.sub sk) (kp _ _ hf nf) (kp _ _ hc nc) (hdv.imp id fun ⟨z, dt, z1, z2, z3⟩ => ⟨z, dt, z1, kp _ _ z2 z3⟩) CA (by
      cases q : e.m ts (g.kill C n).h with
      | ok t h2 => exact fun g' v e1 e2 R' r' => ⟨g', t, h2, rfl, rfl, e1, e2, R', r'⟩
      | ex x h2 => exact fun g' cls d e1 e2 R' r' => ⟨g', x, h2, rfl, rfl, e1, e2, R', r'⟩
      | stuck =>
        have q' : e.m ts (putAt g.h n (deads C)) = .stuck := q
        rw [q'] at h
        exact h.elim)
  have hcs : ((g.h.drop n).take C.length).length = C.length := by
    rcases CelsAt.len R F with z | z
    · subst z; simp
    · rw [List.length_take, List.length_drop]; omega
  have hcv : ∀ i < C.length, ((g.h.drop n).take C.length)[i]? = g.h[n + i]? := fun i l => by
    rw [List.getElem?_take_of_lt l, List.getElem?_drop]
  refine wpAny_call (codeAny_mono rc fun r s' hq => ?_)
  cases r with
  | error ee =>
    obtain ⟨ea, B, H', cls, d, rfl, fl, hokB, ub, na, os, ag, g', x, h2, em, rfl, eh, ex, R', r'⟩ := hq
    have em' : e.m ts (putAt g.h n (deads C)) = .ex x h2 := em
    rw [em'] at h
    have hnone : ∀ c ∈ adsOf C, g'.H c = none := fun c hm => by
      obtain ⟨o, _, z⟩ := frz2 c hm
      exact ub.free c o z (minus_in hm)
    obtain ⟨x1, x2, x3⟩ := back_ok (cs := (g.h.drop n).take C.length) (h0 := s1.heap) R F hcs hcv (fun c _ o q => (I1.hok c _ q).1) R' ex hnone
    have keepB : ∀ c ∈ adsOf C, ∃ o, s1.heap.get? c = some o ∧ B.get? c = some o := fun c hm => by
      obtain ⟨o, _, z⟩ := frz2 c hm
      exact ⟨o, z, ub.keep c o z (minus_in hm) (nofr c hm)⟩
    have na2 : ea ∉ adsOf C := fun z => by
      obtain ⟨o, _, q⟩ := keepB ea z
      rw [fl.2.1] at q; cases q
    refine passAt tk σ pins g.H s1 _ s' I1 ⟨ea, B, hPlus g'.H (adsOf C) s1.heap, cls, d, rfl, fl, hok_plus hokB hnone keepB, ub_plus ub frz2, by rw [plus_out na2]; exact na, os, ag, ?_⟩
    subst eh
    exact h (g'.back C n ((g.h.drop n).take C.length) s1.heap) cls d rfl x1 x2 (RepX.sub x3 r')
  | ok fl =>
    cases fl with
    | ret u =>
      obtain ⟨v, H', os, bare, un, hok', rv, g', t, h2, em, rfl, eh, ex, R', r'⟩ := hq
      have em' : e.m ts (putAt g.h n (deads C)) = .ok t h2 := em
      rw [em'] at h
      have hnone : ∀ c ∈ adsOf C, g'.H c = none := fun c hm => by
        obtain ⟨o, _, z⟩ := frz2 c hm
        exact un.free c o z (minus_in hm) (by simp)
      obtain ⟨x1, x2, x3⟩ := back_ok (cs := (g.h.drop n).take C.length) (h0 := s1.heap) R F hcs hcv (fun c _ o q => (I1.hok c _ q).1) R' ex hnone
      have keep : ∀ c ∈ adsOf C, ∃ o, s1.heap.get? c = some o ∧ s'.heap.get? c = some o := fun c hm => by
        obtain ⟨o, _, z⟩ := frz2 c hm
        exact ⟨o, z, un.keep c o z (minus_in hm) (nofr c hm) (by simp)⟩
      subst eh
      exact I1.after ⟨v, hPlus g'.H (adsOf C) s1.heap, os, bare, un_plus un frz2, hok_plus hok' hnone keep, rv, h (g'.back C n ((g.h.drop n).take C.length) s1.heap) v rfl x1 x2 (Rep.sub x3 t v r')⟩
    | next => exact False.elim hq
    | brk => exact False.elim hq
    | cont => exact False.elim hq
end
end Mi
end part_Mi41
section part_Mi42
set_option maxRecDepth 100000
set_option maxHeartbeats 2000000
/-! Mi, part 42: a lambda's promise by its body. -/
namespace Mi
open PySem PySem.Spec PyProof.Rows L2
/-- the mirror of a lambda: np parameters (each holds 0), then what it captures, then its own names -/
def mLamF (np N : Nat) (me : ME) : MF := fun ts h => me (List.replicate np (some (.int 0)) ++ (ts.map some ++ List.replicate (N - np - ts.length) none)) h
section
variable {K : PySem.W.Frag} {mg : Str → Option Value} {g : G}
theorem repS_lam {N : List Str} {np : Nat} {ts : List T} {vs : List V} (r : RepL K mg g ts vs) : RepS K mg g (List.replicate np (some (.int 0)) ++ (ts.map some ++ List.replicate (N.length - np - ts.length) none)) (NdefX.startF N (List.replicate np (.int 0)) (vs.map some)) := by
  unfold NdefX.startF
  refine ⟨by simp only [List.length_append, List.length_map, List.length_replicate, r.length], fun i t h => ?_⟩
  by_cases l : i < np
  · rw [List.getElem?_append_left (by simpa using l), List.getElem?_replicate, if_pos l] at h
    cases h
    rw [List.getElem?_append_left (by simpa using l), List.getElem?_map, List.getElem?_replicate, if_pos l]
    exact ⟨.int 0, rfl, by simp only [Rep]⟩
  · rw [List.getElem?_append_right (by simpa using Nat.le_of_not_lt l), List.length_replicate] at h
    have ll : (List.map some (List.replicate np (V.int 0))).length = np := by simp
    rw [List.getElem?_append_right (by simpa using Nat.le_of_not_lt l), ll]
    by_cases l2 : i - np < ts.length
    · rw [List.getElem?_append_left (by simpa using l2), List.getElem?_map] at h
      rw [List.getElem?_append_left (by rw [List.length_map, ← r.length]; exact l2), List.getElem?_map]
      cases q : ts[i - np]? with
      | none => rw [q] at h; cases h
      | some u =>
        rw [q] at h
        have h : some (some u) = some (some t) := h
        cases h
        obtain ⟨v, e, rv⟩ := r.get q
        exact ⟨v, by rw [e]; rfl, rv⟩
    · rw [List.getElem?_append_right (by simpa using Nat.le_of_not_lt l2)] at h
      have := List.mem_of_getElem? h
      simp at this
end
/-- the bare function of a lambda, for its context -/
abbrev lamNF (e : LamE) (C : List (Str × Addr)) (c' : Addr) : NdefX.NF := ⟨"<lambda>", e.I.q, e.I.params, [], e.I.scope, cloFrom C e.I.scope.names [], c'⟩
/-- how its parameters are bound: none, or the one that has the default 0 -/
def lamBinds (I : LamI) (ps : List Str) : Prop :=
  (I.dflt = false ∧ ps = [] ∧ ∀ (C : List (Str × Addr)) (c' : Addr) (pm ctv : Value), bindArgs (lamFd I C c' .none pm ctv) ⟨[], []⟩ = pure []) ∨
  (I.dflt = true ∧ ∃ a, ps = [a] ∧ ∀ (C : List (Str × Addr)) (c' : Addr) (dt : Addr) (pm ctv v : Value), ∃ k, bindArgs (lamFd I C c' (.ref dt) pm ctv) ⟨[], []⟩ = seqItems? (.ref dt) >>= k ∧ k (some #[v]) = pure [(a, v)])
section
variable {P : Program} {w : World} {K : PySem.W.Frag} {mg : Str → Option Value} {base : Heap}
theorem lok_of {e : LamE} {N ps : List Str} {k np : Nat} {me : ME} (S : NdefX.NScope N ps e.fr e.I.scope) (hp : ps.length = np) (hb : lamBinds e.I ps) (hm : e.m = mLamF np N.length me)
    (hbody : ∀ (f c' : Addr) (C : List (Str × Addr)) (A : Around) (outer : List Env) (s : Shared) (H : Hp) (E : XK), Room k (A.deeper (NdefX.envF (lamNF e C c') f s.heap.objs.size)) →
      Takes (NdefX.ncx (L2.CX P w) P w K mg base N (lamNF e C c') f A outer s H E) (fun cls d _ H => E cls d H) →
      SE (NdefX.ncx (L2.CX P w) P w K mg base N (lamNF e C c') f A outer s H E) (fun cls d _ H => E cls d H) e.I.body me) : LOk P w K mg base (k + 1) e := by
  refine ⟨fun y hy => PySem.mem_of_lookup (S.frk y hy), fun A outer s g f c' dv C ts vs Q E hr e0 R r hf hc hd CA h => ?_⟩
  have lim : s.heap.NoLimit := e0.mod.nolimit.keeps fun b o q => (e0.bs b o q).1
  obtain ⟨⟨od, sl, pm, ctv, ho⟩, _, _⟩ := e0.hok f _ hf
  have hcd : s.heap.CodeRec (.ref c') e.I.q := NdefX.codeO_at e0.hok hc
  refine PySem.W.kla_callFunE hr.depth ho rfl S.co S.gen rfl hcd ?_
  -- the parameters
  have key : ∀ (us : List Value), Vals (List.replicate np (V.int 0)) us → wpAny (model P w) A.in1 (newFunctionEnv e.I.scope mainGlobals (cloFrom C e.I.scope.names []) (ps.zip us) (e.I.q ++ ".<locals>.") (some f) (.ref c') none builtinsNs)
      (fun env s₂ => s₂.heap.NoLimit ∧ codeAny (model P w) A (.expr e.I.body env) (CR (L2.CX P w) outer P w g.H s Q E) s₂) (fun e' s' => CR (L2.CX P w) outer P w g.H s Q E (.error e') s') s := fun us hus => by
    refine wpAny_newFunctionEnv S.nocell (fun ⟨n, _⟩ hy => S.par n (List.of_mem_zip hy).1) (fun h₁ hns hsb => ⟨lim.fresh _ hsb, ?_⟩) S.kind
    show codeAny _ _ (.expr e.I.body (NdefX.envF (lamNF e C c') f s.heap.objs.size)) _ _
    have kp : ∀ b o, s.heap.get? b = some o → h₁.get? b = some o := fun b o q => hsb.extBut b o (Nat.ne_of_lt (Heap.lt_size q)) (Heap.get?_push_of_some _ q)
    have I : Inv (NdefX.ncx (L2.CX P w) P w K mg base N (lamNF e C c') f A outer s g.H E) [] (NdefX.startF N (List.replicate np (.int 0)) (vs.map some)) g.H { s with heap := h₁, toks := s.toks + (ps.zip us).length } :=
      NdefX.inv_startN (F := lamNF e C c') S hr.hd e0 (by rw [List.length_replicate, hp]) hus CA hns kp
    refine PySem.W.kla_codeExpr (wpAny_mono ((hbody f c' C A outer s g.H E (hr.deeper _) (takes_of rfl rfl rfl rfl)).run [] _ _ g.H Q I ⟨g, _, rfl, R, repS_lam r, ?_⟩) (fun v s' hq => ?_) fun e s' hq => hq)
    · rw [hm] at h
      unfold mLamF at h
      cases q : me (List.replicate np (some (.int 0)) ++ (ts.map some ++ List.replicate (N.length - np - ts.length) none)) g.h with
      | ok t h2 => rw [q] at h; exact h
      | ex x h2 => rw [q] at h; exact h
      | stuck => rw [q] at h; exact h.elim
    · obtain ⟨w', H', J', rv, q⟩ := hq
      exact ⟨w', H', J'.os, J'.bare, J'.base, J'.hok, rv, q⟩
  rcases hb with ⟨b1, b2, b3⟩ | ⟨b1, a, b2, b3⟩
  · subst b2
    rcases hd with ⟨_, d2⟩ | ⟨d1, _⟩
    · subst d2
      have e1 : bindArgs (lamFd e.I C c' .none pm ctv) ⟨[], []⟩ = pure [] := b3 C c' pm ctv
      show wpAny _ _ (bindArgs (lamFd e.I C c' .none pm ctv) ⟨[], []⟩) _ _ _
      rw [e1]
      simp at hp
      subst hp
      exact wpAny_pure (key [] .nil)
    · rw [b1] at d1; cases d1
  · subst b2
    rcases hd with ⟨d1, _⟩ | ⟨_, dt, d2, d3⟩
    · rw [b1] at d1; cases d1
    · subst d2
      obtain ⟨⟨tk, hdt⟩, _, _⟩ := e0.hok dt _ d3
      obtain ⟨kk, e1, e2⟩ := b3 C c' dt pm ctv (.int 0 tk)
      show wpAny _ _ (bindArgs (lamFd e.I C c' (.ref dt) pm ctv) ⟨[], []⟩) _ _ _
      rw [e1]
      refine wpAny_bind (wpAny_seqItems hdt rfl ?_)
      rw [e2]
      simp at hp
      subst hp
      exact wpAny_pure (key [.int 0 tk] (.cons ⟨tk, rfl⟩ .nil))
end
end Mi
end part_Mi42
section part_Mi43
set_option maxRecDepth 100000
set_option maxHeartbeats 2000000
/-! Mi, part 43: lambdas lent to a call. -/
namespace Mi
open PySem PySem.Spec PyProof.Rows L2
def closeV (C : List (Str × Addr)) (n : Nat) (t : T) : T := match t with
  | .fn k I C' => if C' = C then .fnc k I C n else .fn k I C'
  | t => t
def closeT (C : List (Str × Addr)) (n : Nat) (t : T) : T := match t with
  | .lst xs => .lst (xs.map (closeV C n))
  | t => closeV C n t
def slotOf (s : SM) (j : Nat) : Option T := match s[j]? with
  | some o => o
  | none => none
def celsOf (ix : List Nat) (s : SM) : List MO := ix.map fun j => .cel (slotOf s j)
def fLend (m : MF) (n0 : Nat) (C : List (Str × Addr)) (ix : List Nat) (s : SM) : List T → MH → R := fun ts h => if ts.length = n0 then
    match m (ts.map (closeT C h.length)) (h ++ celsOf ix s) with
    | .ok r h2 => if allCel h2 h.length C.length then .ok r (putAt h2 h.length (deads C)) else .stuck
    | _ => .stuck
  else .stuck
def mLend (m : MF) (n0 : Nat) (C : List (Str × Addr)) (ix : List Nat) (mr : MA) : ME := fun s h => (mr s h).bind (fLend m n0 C ix s)
section
variable {K : PySem.W.Frag} {mg : Str → Option Value} {g g' : G} {C : List (Str × Addr)} {n : Nat}
def G.lend (g : G) (C : List (Str × Addr)) (cs : List MO) (h0 : Heap) : G := ⟨g.rho ++ adsOf C, g.h ++ cs, g.pv, hPlus g.H (adsOf C) h0⟩
theorem lend_ok {cs : List MO} {h0 : Heap} (R : Rel K mg g) (inj : ∀ (i j : Nat) x y c, C[i]? = some (x, c) → C[j]? = some (y, c) → i = j) (hn : ∀ c ∈ adsOf C, g.H c = none) (hl : cs.length = C.length)
    (hcs : ∀ (i : Nat) y c, C[i]? = some (y, c) → ∃ o u ot, cs[i]? = some (.cel ot) ∧ h0.get? c = some o ∧ o.data = .cell u ∧ ∀ t, ot = some t → ∃ v u', u = some u' ∧ RelV v u' ∧ Rep K mg g t v) :
    Sub g (g.lend C cs h0) ∧ Rel K mg (g.lend C cs h0) ∧ CelsAt (g.lend C cs h0) C g.h.length := by
  have len := R.len
  have out : ∀ (b : Addr) (v : HO), g.H b = some v → b ∉ adsOf C := fun b v q z => by rw [hn b z] at q; cases q
  have rgt : ∀ (i : Nat) a, (g.rho ++ adsOf C)[i]? = some a → (i < g.rho.length ∧ g.rho[i]? = some a) ∨ (g.rho.length ≤ i ∧ ∃ y, C[i - g.rho.length]? = some (y, a)) := fun i a h => by
    by_cases l : i < g.rho.length
    · rw [List.getElem?_append_left l] at h; exact .inl ⟨l, h⟩
    · rw [List.getElem?_append_right (by omega), List.getElem?_map] at h
      cases e : C[i - g.rho.length]? with
      | none => rw [e] at h; cases h
      | some yc =>
        rw [e] at h
        have h : some yc.2 = some a := h
        cases h
        exact .inr ⟨by omega, yc.1, rfl⟩
  have lv : ∀ (i : Nat) a, (g.lend C cs h0).live i a → g.live i a ∨ (g.rho.length ≤ i ∧ ∃ y, C[i - g.rho.length]? = some (y, a)) := by
    rintro i a ⟨z1, o, z2, z3⟩
    rcases rgt i a z1 with ⟨l, q⟩ | q
    · have z2' : (g.h ++ cs)[i]? = some o := z2
      rw [List.getElem?_append_left (by omega)] at z2'
      exact .inl ⟨q, o, z2', z3⟩
    · exact .inr q
  have hid : ∀ a, a ∉ adsOf C → (g.lend C cs h0).hid a → g.hid a := by
    rintro a m (z | ⟨i, o, z1, z2, z3⟩)
    · exact .inl z
    · rcases lv i a ⟨z1, o, z2, z3⟩ with ⟨h1, o', h2, h3⟩ | ⟨_, y, q⟩
      · exact .inr ⟨i, o', h1, h2, h3⟩
      · exact absurd (mem_ads.mpr ⟨_, y, q⟩) m
  have hs : Sub g (g.lend C cs h0) := ⟨fun i a h => by
    show (g.rho ++ adsOf C)[i]? = some a
    rw [List.getElem?_append_left (List.getElem?_eq_some_iff.mp h).1]; exact h, fun a o h m => ⟨by
    show hPlus g.H (adsOf C) h0 a = some o
    rw [plus_out (out a o h)]; exact h, fun z => m (hid a (out a o h) z)⟩⟩
  have cel : CelsAt (g.lend C cs h0) C g.h.length := fun i y c h => by
    obtain ⟨o, u, ot, q, _⟩ := hcs i y c h
    refine ⟨?_, ot, ?_⟩
    · show (g.rho ++ adsOf C)[g.h.length + i]? = some c
      rw [List.getElem?_append_right (by omega), show g.h.length + i - g.rho.length = i by omega, List.getElem?_map, h] <;> rfl
    · show (g.h ++ cs)[g.h.length + i]? = some (.cel ot)
      rw [List.getElem?_append_right (by omega), show g.h.length + i - g.h.length = i by omega]; exact q
  refine ⟨hs, ⟨?_, fun i j a z1 z2 => ?_, fun a ha i z => ?_, fun a ha => ?_, fun i a z => ?_, fun i a o z1 z2 => ?_⟩, cel⟩
  · show (g.rho ++ adsOf C).length = (g.h ++ cs).length
    rw [List.length_append, List.length_append, List.length_map, len, hl]
  · rcases lv i a z1 with p1 | ⟨l1, y1, p1⟩ <;> rcases lv j a z2 with p2 | ⟨l2, y2, p2⟩
    · exact R.inj i j a p1 p2
    · obtain ⟨u, q⟩ := R.tr i a p1
      exact absurd (mem_ads.mpr ⟨_, y2, p2⟩) (out a u q)
    · obtain ⟨u, q⟩ := R.tr j a p2
      exact absurd (mem_ads.mpr ⟨_, y1, p1⟩) (out a u q)
    · have := inj _ _ _ _ _ p1 p2
      omega
  · obtain ⟨u, q⟩ := R.pvt a ha
    rcases lv i a z with p | ⟨_, y, p⟩
    · exact R.npv a ha i p
    · exact out a u q (mem_ads.mpr ⟨_, y, p⟩)
  · obtain ⟨u, q⟩ := R.pvt a ha
    exact ⟨u, by show hPlus g.H (adsOf C) h0 a = some u; rw [plus_out (out a u q)]; exact q⟩
  · rcases lv i a z with p | ⟨_, y, p⟩
    · obtain ⟨u, q⟩ := R.tr i a p
      exact ⟨u, by show hPlus g.H (adsOf C) h0 a = some u; rw [plus_out (out a u q)]; exact q⟩
    · obtain ⟨o, u, ot, _, q, _⟩ := hcs _ _ _ p
      exact ⟨_, plus_in (mem_ads.mpr ⟨_, y, p⟩) q⟩
  · rcases rgt i a z1 with ⟨l, q⟩ | ⟨l, y, p⟩
    · have z2' : (g.h ++ cs)[i]? = some o := z2
      rw [List.getElem?_append_left (by omega)] at z2'
      exact (R.obj i a o q z2').sub hs fun u hu => by
        show hPlus g.H (adsOf C) h0 a = some u
        rw [plus_out (out a u hu)]; exact hu
    · have z2' : (g.h ++ cs)[i]? = some o := z2
      rw [List.getElem?_append_right (by omega)] at z2'
      obtain ⟨ob, u, ot, q1, q2, q3, q4⟩ := hcs _ _ _ p
      rw [show i - g.h.length = i - g.rho.length by omega, q1] at z2'
      cases z2'
      exact ⟨ob, u, plus_in (mem_ads.mpr ⟨_, y, p⟩) q2, q3, fun t e => let ⟨v, u', w1, w2, w3⟩ := q4 t e; ⟨v, u', w1, w2, Rep.sub hs t v w3⟩⟩
theorem close_v {cs : List MO} {h0 : Heap} (R : Rel K mg g) (hs : Sub g (g.lend C cs h0)) {t : T} {v : V} (r : Rep K mg g t v) : Rep K mg (g.lend C cs h0) (closeV C g.h.length t) v := by
  have r' := Rep.sub hs t v r
  unfold closeV
  split
  · rename_i k I C'
    split
    · rename_i e
      subst e
      simp only [Rep] at r' ⊢
      refine ⟨r', fun i y c h => ?_⟩
      show (g.rho ++ adsOf C')[g.h.length + i]? = some c
      have len := R.len
      rw [List.getElem?_append_right (by omega), show g.h.length + i - g.rho.length = i by omega, List.getElem?_map, h] <;> rfl
    · exact r'
  · exact r'
theorem close_vs {cs : List MO} {h0 : Heap} (R : Rel K mg g) (hs : Sub g (g.lend C cs h0)) : ∀ {ts : List T} {vs : List V}, RepL K mg g ts vs → RepL K mg (g.lend C cs h0) (ts.map (closeV C g.h.length)) vs
  | [], vs, r => by simpa only [RepL, List.map_nil] using r
  | t :: ts, vs, r => by
    simp only [RepL] at r
    obtain ⟨v, q, e, h1, h2⟩ := r
    subst e
    exact RepL.cons (close_v R hs h1) (close_vs R hs h2)
theorem close_t {cs : List MO} {h0 : Heap} (R : Rel K mg g) (hs : Sub g (g.lend C cs h0)) {t : T} {v : V} (r : Rep K mg g t v) : Rep K mg (g.lend C cs h0) (closeT C g.h.length t) v := by
  unfold closeT
  split
  · rename_i xs
    simp only [Rep] at r ⊢
    obtain ⟨p, vs, e1, ⟨h1, nh⟩, h2⟩ := r
    exact ⟨p, vs, e1, hs.keep _ _ h1 nh, close_vs R hs h2⟩
  · exact close_v R hs r
theorem close_ts {cs : List MO} {h0 : Heap} (R : Rel K mg g) (hs : Sub g (g.lend C cs h0)) : ∀ {ts : List T} {vs : List V}, RepL K mg g ts vs → RepL K mg (g.lend C cs h0) (ts.map (closeT C g.h.length)) vs
  | [], vs, r => by simpa only [RepL, List.map_nil] using r
  | t :: ts, vs, r => by
    simp only [RepL] at r
    obtain ⟨v, q, e, h1, h2⟩ := r
    subst e
    exact RepL.cons (close_t R hs h1) (close_ts R hs h2)
end
/-- what the frame that lends must be like -/
structure LendB (X : Cx) (ix : List Nat) : Prop where
  fn : ∀ x, X.fn x = true
  nd : (X.env.cells.map (·.1)).Nodup
  at_ : ix.map (fun j => X.N[j]?) = X.env.cells.map fun p => some p.1
  kin : ∀ p ∈ X.env.cells, X.env.scope.names.lookup p.1 = some .cell
section
variable {X : Cx} {W : WX} {e : Expr} {es : List Expr} {mr : MA} {pos p : Pos} {x : Str}
theorem se_lend {f : Addr} {fd : FuncData} {ps : List Str} {n0 k : Nat} {m : MF} {ix : List Nat} (B : LendB X ix) (F : FnM X k f fd ps n0 m) (hr : Room k X.A) (tk : Takes X W) (hm : X.mg x = some (.ref f)) (hk : PySem.W.keepIn X.K (.ref f) = true) (hb : Binds X.K fd ps [])
    (ha : SA X W (e :: es) mr) (hg : Gl X x := by rfl) (hdb : (x == ("__debug__" : Str)) = false := by decide) (he : starEach (e :: es) X.env = (false, eval e X.env) :: starEach es X.env := by rfl) (hpl : (backTo pos (starEach es X.env)).any (·.1) = false := by rfl) :
    SE X W (.Call (.Name x p) (e :: es) [] pos) (mLend m n0 X.env.cells ix mr) := by
  refine ⟨fun pins s σ H Q J h => ?_⟩
  obtain ⟨g0, sm, rfl, R0, S0, h⟩ := h
  refine wpAny_Call_Name_kw (ld_glob J hg hm ?_ hdb)
  refine PySem.W.callWith_K (h₀ := X.base) J.ok.mod.kin hk (thn (ha.run pos pins s σ g0.H (fun vs H1 => ∃ g ts, g.H = H1 ∧ Ext g0 g ∧ Rel X.K X.mg g ∧ RepL X.K X.mg g ts vs ∧ wpR X.K X.mg W g σ Q (fLend m n0 X.env.cells ix sm ts g.h)) J
    ⟨g0, sm, rfl, R0, S0, wpL_of h fun g ts vs e1 R1 r1 h1 => ⟨g, ts, rfl, e1, R1, r1, h1⟩⟩) fun us s1 ⟨vs, H1, I1, r, q⟩ => ⟨I1.kIn, ?_⟩) he hpl
  obtain ⟨g, ts, rfl, e1, R, rts, h1⟩ := q
  have S := S0.mono e1
  unfold fLend at h1
  split at h1
  case isFalse => exact h1.elim
  rename_i hl
  -- the cells
  have lk : ∀ {i : Nat} {y c}, X.env.cells[i]? = some (y, c) → X.env.cells.lookup y = some c := fun {i y c} q => lookup_at B.nd q
  have lka : ∀ {c}, c ∈ adsOf X.env.cells → ∃ y, X.env.cells.lookup y = some c := fun {c} hc => by
    obtain ⟨i, y, q⟩ := mem_ads.mp hc
    exact ⟨y, lk q⟩
  have big_ : ∀ c ∈ adsOf X.env.cells, X.s_0.heap.objs.size ≤ c := fun c hc => by
    obtain ⟨y, q⟩ := lka hc
    exact I1.ok.cab y c (B.fn y) q
  have hn : ∀ c ∈ adsOf X.env.cells, g.H c = none := fun c hc => by
    obtain ⟨y, q⟩ := lka hc
    exact I1.freeC y c q
  have hx : ∀ c ∈ adsOf X.env.cells, ∃ o, s1.heap.get? c = some o := fun c hc => by
    obtain ⟨y, q⟩ := lka hc
    obtain ⟨v, o, z, _⟩ := I1.cell y c q
    exact ⟨o, z⟩
  have ixl : ix.length = X.env.cells.length := by simpa using congrArg List.length B.at_
  have inj : ∀ (i j : Nat) x y c, X.env.cells[i]? = some (x, c) → X.env.cells[j]? = some (y, c) → i = j := fun i j x y c q1 q2 => by
    have e := I1.ok.inj x y c (lk q1) (lk q2)
    subst e
    have n1 : (X.env.cells.map (·.1))[i]? = some x := by rw [List.getElem?_map, q1] <;> rfl
    have n2 : (X.env.cells.map (·.1))[j]? = some x := by rw [List.getElem?_map, q2] <;> rfl
    exact nodup_ix B.nd n1 n2
  have hcs : ∀ (i : Nat) y c, X.env.cells[i]? = some (y, c) → ∃ o u ot, (celsOf ix sm)[i]? = some (.cel ot) ∧ s1.heap.get? c = some o ∧ o.data = .cell u ∧ ∀ t, ot = some t → ∃ v u', u = some u' ∧ RelV v u' ∧ Rep X.K X.mg g t v := fun i y c q => by
    have hi : i < ix.length := by rw [ixl]; exact (List.getElem?_eq_some_iff.mp q).1
    have hj : X.N[ix[i]]? = some y := by
      have z : (ix.map fun j => X.N[j]?)[i]? = some (some y) := by rw [B.at_, List.getElem?_map, q] <;> rfl
      rw [List.getElem?_map, List.getElem?_eq_getElem hi] at z
      exact Option.some.inj z
    have kc := B.kin (y, c) (List.mem_of_getElem? q)
    obtain ⟨v0, o, z, zd⟩ := I1.cell y c (lk q)
    refine ⟨o, v0, slotOf sm ix[i], ?_, z, zd, fun t et => ?_⟩
    · unfold celsOf
      rw [List.getElem?_map, List.getElem?_eq_getElem hi] <;> rfl
    · have es : sm[ix[i]]? = some (some t) := by
        unfold slotOf at et
        split at et
        · rename_i o' q'; rw [q', et]
        · cases et
      obtain ⟨v, hσ, rv⟩ := S.2 _ t es
      obtain ⟨mm, hnn, hll⟩ := I1.loc
      obtain ⟨u, ru, lu⟩ := hll _ y v hj hσ (.inr (.inl kc))
      rcases lu with ⟨z', _⟩ | ⟨_, c', hc', o', ho', hd'⟩
      · have z' : X.env.scope.names.lookup y = some .local := z'
        have kc : X.env.scope.names.lookup y = some .cell := kc
        rw [kc] at z'; cases z'
      · rw [lk q] at hc'
        cases hc'
        rw [z] at ho'
        cases ho'
        rw [zd] at hd'
        cases hd'
        exact ⟨v, u, rfl, ru, rv⟩
  obtain ⟨sl, Rl, cel⟩ := lend_ok (cs := celsOf ix sm) (h0 := s1.heap) R inj hn (by unfold celsOf; rw [List.length_map, ixl]) hcs
  -- the call
  have nbase : ∀ b o, X.base.get? b = some o → b ∉ adsOf X.env.cells := fun b o q z => by
    have h1 := big_ b z
    have h2 := Heap.lt_size q
    have h3 := I1.ok.bsz
    exact Nat.lt_irrefl _ (Nat.lt_of_lt_of_le h2 (Nat.le_trans h3 h1))
  have nfr : ∀ b ∈ frs X.stack, b ∉ adsOf X.env.cells := fun b hb z => by
    rcases List.mem_cons.mp (I1.stkSub b hb) with q | q
    · obtain ⟨y, hy⟩ := lka z
      exact I1.cne y b hy q
    · obtain ⟨_, o, ho, _⟩ := I1.ok.funs.mem q
      have h1 := big_ b z
      have h2 := Heap.lt_size ho
      exact Nat.lt_irrefl _ (Nat.lt_of_lt_of_le h2 h1)
  have e0 : Env0 X.prog X.w X.K X.mg X.base X.A X.stack s1 (g.lend X.env.cells (celsOf ix sm) s1.heap).H := by
    have e := I1.env0
    refine ⟨e.frames, e.mod, fun b o q => ⟨(e.bs b o q).1, ?_⟩, e.bsz, e.funs, fun b hb => ?_, hok_plus e.hok hn fun c hc => let ⟨o, q⟩ := hx c hc; ⟨o, q, q⟩, e.bare⟩
    · show hPlus g.H (adsOf X.env.cells) s1.heap b = none
      rw [plus_out (nbase b o q)]; exact (e.bs b o q).2
    · show hPlus g.H (adsOf X.env.cells) s1.heap b = none
      rw [plus_out (nfr b hb)]; exact e.frf b hb
  have hus : us.length = ps.length := by
    have z : spM X.K X.mg n0 (fun _ _ => .ok .non []) vs g.H (fun _ _ => True) (fun _ _ _ => True) := ⟨g, ts, rfl, R, rts, hl, fun _ _ _ _ _ _ => trivial⟩
    rw [← r.length, spM_len z]
    exact (spM_len z).symm.trans (F.len vs _ _ _ (show spM X.K X.mg n0 m vs (g.lend X.env.cells (celsOf ix sm) s1.heap).H (fun v H' => ∃ g' t h2, m (ts.map (closeT X.env.cells g.h.length)) (g.h ++ celsOf ix sm) = .ok t h2 ∧ g'.H = H' ∧ g'.h = h2 ∧ Ext (g.lend X.env.cells (celsOf ix sm) s1.heap) g' ∧ Rel X.K X.mg g' ∧ Rep X.K X.mg g' t v) (fun _ _ _ => False) from
      ⟨_, ts.map (closeT X.env.cells g.h.length), rfl, Rl, close_ts R sl rts, by rw [List.length_map]; exact hl, by
        show wpD X.K X.mg _ _ _ (m (ts.map (closeT X.env.cells g.h.length)) (g.h ++ celsOf ix sm))
        cases q : m (ts.map (closeT X.env.cells g.h.length)) (g.h ++ celsOf ix sm) with
        | ok t h2 => exact fun g' v e1 e2 R' r' => ⟨g', t, h2, rfl, rfl, e1, e2, R', r'⟩
        | ex y h2 => rw [q] at h1; exact h1.elim
        | stuck => rw [q] at h1; exact h1.elim⟩))
  have b := hb s1 us I1.kIn (by rw [List.append_nil]; exact hus)
  rw [List.append_nil] at b
  refine wpAny_call (codeAny_mono (F.run X.A X.stack s1 (g.lend X.env.cells (celsOf ix sm) s1.heap).H ⟨us, []⟩ us vs (fun v H' => ∃ g' t h2, m (ts.map (closeT X.env.cells g.h.length)) (g.h ++ celsOf ix sm) = .ok t h2 ∧ g'.H = H' ∧ g'.h = h2 ∧ Ext (g.lend X.env.cells (celsOf ix sm) s1.heap) g' ∧ Rel X.K X.mg g' ∧ Rep X.K X.mg g' t v) (fun _ _ _ => False) hr e0 b r
      ⟨_, ts.map (closeT X.env.cells g.h.length), rfl, Rl, close_ts R sl rts, by rw [List.length_map]; exact hl, by
        show wpD X.K X.mg _ _ _ (m (ts.map (closeT X.env.cells g.h.length)) (g.h ++ celsOf ix sm))
        cases q : m (ts.map (closeT X.env.cells g.h.length)) (g.h ++ celsOf ix sm) with
        | ok t h2 => exact fun g' v e1 e2 R' r' => ⟨g', t, h2, rfl, rfl, e1, e2, R', r'⟩
        | ex y h2 => rw [q] at h1; exact h1.elim
        | stuck => rw [q] at h1; exact h1.elim⟩) fun rr s' hq => ?_)
  cases rr with
  | error e =>
    obtain ⟨_, _, _, _, _, _, _, _, _, _, _, _, z⟩ := hq
    exact z.elim
  | ok fl =>
    cases fl with
    | ret u =>
      obtain ⟨v, H', os, bare, un, hok', rv, g', t, h2, em, rfl, eh, ex, R', r'⟩ := hq
      rw [em] at h1
      dsimp only at h1
      split at h1
      case isFalse => exact h1.elim
      rename_i hall
      subst eh
      have F' : CelsAt g' X.env.cells g.h.length := fun i y c q => ⟨ex.rho _ _ (cel i y c q).1, allCel_at hall (List.getElem?_eq_some_iff.mp q).1⟩
      obtain ⟨sk, Rk⟩ := kill_ok R' F'
      have frz : ∀ c ∈ adsOf X.env.cells, ∃ o, g'.H c = some (.frz o (.own 0)) := fun c hc => by
        obtain ⟨o, q⟩ := hx c hc
        exact ⟨o, un.frzs c o (.own 0) (plus_in hc q)⟩
      have xe : Ext g (g'.kill X.env.cells g.h.length) := by
        refine ⟨fun i a q => ex.rho i a (sl.rho i a q), ex.pv, fun a ha => ?_, fun a o q nh => ?_⟩
        · obtain ⟨u, q⟩ := R.pvt a ha
          have z : a ∉ adsOf X.env.cells := fun z => by rw [hn a z] at q; cases q
          show hMinus g'.H (adsOf X.env.cells) a = g.H a
          rw [minus_out z, ex.pvk a ha]
          exact plus_out z
        · obtain ⟨k1, k2⟩ := sl.keep a o q nh
          obtain ⟨k3, k4⟩ := ex.keep a o k1 k2
          exact sk.keep a o k3 k4
      exact I1.after ⟨v, hMinus g'.H (adsOf X.env.cells), os, bare, un_minus un hok' hn hx, hok_minus hok' frz, rv, h1 (g'.kill X.env.cells g.h.length) v rfl xe Rk (Rep.sub sk t v r')⟩
    | next => exact False.elim hq
    | brk => exact False.elim hq
    | cont => exact False.elim hq
end
end Mi
end part_Mi43
section part_Mi44
set_option maxRecDepth 100000
set_option maxHeartbeats 2000000
/-! Mi, part 44: try .. except (A, B, C) as e: the exception is a value in the suite. -/
namespace Mi
open PySem PySem.Spec PyProof.Rows L2
/-- behind the suite the name is gone -/
def goneS (i : Nat) (r : SR) : SR := match r with
  | .nx s h => .nx (s.set i none) h
  | .rt t h => .rt t h
  | .bk s h => .bk (s.set i none) h
  | .ct s h => .ct (s.set i none) h
  | _ => .stuck
def handM (ct : List (Str × Bool)) (i : Nat) (ms : MS) (x : Exc) (s : SM) (h : MH) : SR := match ct.lookup x.c with
  | some true => goneS i (ms (s.set i (some (.exn x.c x.ns x.vs))) h)
  | some false => .ex x s h
  | none => .stuck
def mTry3 (ct : List (Str × Bool)) (i : Nat) (mb ms : MS) : MS := fun s h => match mb s h with
  | .ex x s1 h1 => handM ct i ms x s1 h1
  | r => r
section
variable {X : Cx} {pins : List (Addr × Obj)} {σ : L2.St} {H : Hp} {s : Shared}
/-- the exception's object is tracked from now on -/
theorem inv_track {a : Addr} {oe : Obj} {vs : Array Value} {o : HO} (I : Inv X pins σ H s) (he : s.heap.get? a = some oe) (hd : oe.data = .fields vs) (na : H a = none) (n0 : X.s_0.heap.get? a = none) (nL : a ≠ X.env.locals) (np : ∀ p ∈ X.pn ++ pins, p.1 ≠ a)
    (ho : ObjOk X.prog X.w (upd H a o) s.heap a o) : Inv X pins σ (upd H a o) s := by
  have kH : ∀ (b : Addr) (u : HO), H b = some u → upd H a o b = some u := fun b u e => by rw [upd_ne (ne_of_none e na)]; exact e
  refine ⟨I.ok, I.os, I.bare, ⟨I.base.keep, I.base.slot, fun b ob e n hx => ?_, I.base.there, fun b xs e => kH _ _ (I.base.tups b xs e), fun b ob u e => kH _ _ (I.base.frzs b ob u e), fun b ps e => ?_⟩, I.loc, I.cell, ?_, fun y c e => ?_, fun p hp => ?_, fun b u e => ?_, I.len⟩
  · rw [upd_ne (fun z => by rw [z, n0] at e; cases e)]
    exact I.base.free b ob e n hx
  · obtain ⟨more, q⟩ := I.base.tbls b ps e
    exact ⟨more, kH _ _ q⟩
  · rw [upd_ne (fun z => nL z.symm)]; exact I.free
  · obtain ⟨v, oc, z, zd⟩ := I.cell y c e
    have ne : c ≠ a := fun q => by
      rw [q, he] at z
      cases z
      rw [hd] at zd; cases zd
    rw [upd_ne ne]; exact I.freeC y c e
  · obtain ⟨h1, h2, h3, h4, h5⟩ := I.pin p hp
    exact ⟨h1, by rw [upd_ne (np p hp)]; exact h2, h3, h4, h5⟩
  · by_cases hb : b = a
    · rw [hb, upd_same] at e
      cases e
      rw [hb]; exact ho
    · rw [upd_ne hb] at e
      exact (I.hok b u e).stay (fun _ _ _ q => q) (fun b' q => kH _ _ q) fun b' xs q => kH _ _ q
theorem flying_push {B : Heap} {l : List Env} {a : Addr} {Z : Obj → Prop} {h : Heap} (o : Obj) (f : HandSPX.FlyingZ B l a Z h) : HandSPX.FlyingZ B l a Z (h.push o) := by
  obtain ⟨k1, k2, k3, oe, vs, T, oT, ts, he, hz, hd, h1, hb, hne, hT, hTd, h3⟩ := f
  exact ⟨fun b u e => Heap.get?_push_of_some _ (k1 b u e), k2, Heap.FunFrames.of_keeps (fun b u e _ => ⟨u, Heap.get?_push_of_some _ e, rfl⟩) k3, oe, vs, T, oT, ts, Heap.get?_push_of_some _ he, hz, hd, h1, hb, hne, Heap.get?_push_of_some _ hT, hTd, h3⟩
theorem suite_back {a : Addr} {pn' : List (Addr × Obj)} (I : Inv (X.suite a (X.pn ++ pins)) pn' σ H s) (ok : X.Ok) : Inv X pins σ H s :=
  ⟨ok, I.os, I.bare, I.base, I.loc, I.cell, I.free, I.freeC, fun p hp => I.pin p (List.mem_append_left _ hp), I.hok, I.len⟩
theorem to_suite {a : Addr} (I : Inv X pins σ H s) : Inv (X.suite a (X.pn ++ pins)) [] σ H s :=
  ⟨I.ok.suite _ _, I.os, I.bare, I.base, I.loc, I.cell, I.free, I.freeC, fun p hp => I.pin p (by rw [List.append_nil] at hp; exact hp), I.hok, I.len⟩
end
theorem RepS.unset {K : PySem.W.Frag} {mg : Str → Option Value} {g : G} {s : SM} {σ : L2.St} (S : RepS K mg g s σ) (i : Nat) : RepS K mg g (s.set i none) (σ.set i none) := by
  refine ⟨by rw [List.length_set, List.length_set, S.1], fun j t h => ?_⟩
  by_cases e : i = j
  · subst e
    rw [List.getElem?_set] at h
    split at h
    · split at h <;> cases h
    · rename_i q; exact absurd rfl q
  · rw [List.getElem?_set_ne e] at h ⊢
    exact S.2 j t h
section
variable {X : Cx} {Wout : WX} {x1 x2 x3 n : Str} {C1 C2 C3 : Addr} {i : Nat} {body suite : List Stmt} {b₀ : Stmt} {p1 p2 p3 tp pos pos' : Pos} {kx : Nat} {mb ms : MS} {ct : List (Str × Bool)}
theorem lookup_memB : ∀ {l : List (Str × Bool)} {c : Str} {b : Bool}, l.lookup c = some b → (c, b) ∈ l
  | [], c, b, h => by cases h
  | (k, v) :: l, c, b, h => by
    rw [List.lookup_cons] at h
    split at h
    · rename_i q
      cases h
      rw [beq_iff_eq] at q
      subst q
      exact List.mem_cons_self
    · exact List.mem_cons_of_mem _ (lookup_memB h)
/-- what is wished of an exception of the body -/
def wB (X : Cx) (Wout : WX) (ct : List (Str × Bool)) (i : Nat) (ms : MS) (D : Ends) : WX := fun cls d σ H => ∃ g s x, g.H = H ∧ Rel X.K X.mg g ∧ RepS X.K X.mg g s σ ∧ RepX X.K X.mg g x cls d ∧ wpS X.K X.mg Wout g D (handM ct i ms x s g.h)
theorem ss_try3 (hs : X.stack = X.env :: X.outer) (hf : X.env.frame = some X.env.locals) (hex : X.ex = []) (hN : X.N.Nodup) (hi : X.N[i]? = some n) (hln : X.env.kindOf n = some .local) (h1 : X.mg x1 = some (.ref C1)) (h2 : X.mg x2 = some (.ref C2)) (h3 : X.mg x3 = some (.ref C3))
    (hc : ∀ p ∈ ct, ∀ C, X.mg p.1 = some (.ref C) → PySem.W.exmAny X.K (.ref C) [.ref C1, .ref C2, .ref C3] = some p.2) (tk : Takes X Wout)
    (hb : ∀ (W : WX) (pn : List (Addr × Obj)) (xe : Value → Shared → Prop), Takes (X.tr pn xe) W → SSs (X.tr pn xe) W body mb)
    (hsu : ∀ (a : Addr) (pn : List (Addr × Obj)), SSs (X.suite a pn) W0 (b₀ :: suite) ms)
    (g1 : Gl X x1 := by rfl) (g2 : Gl X x2 := by rfl) (g3 : Gl X x3 := by rfl) (d1 : (x1 == ("__debug__" : Str)) = false := by decide) (d2 : (x2 == ("__debug__" : Str)) = false := by decide) (d3 : (x3 == ("__debug__" : Str)) = false := by decide) :
    SS X Wout (.Try body [.ExceptHandler (some (.Tuple [.Name x1 p1, .Name x2 p2, .Name x3 p3] kx tp)) (some n) (b₀ :: suite) pos'] [] [] pos) (mTry3 ct i mb ms) := by
  refine ⟨fun pins s σ H D I h => ?_⟩
  have hcut : tSM X.K X.mg (wB X Wout ct i ms D) mb D σ H := by
    obtain ⟨g, sm, e, R, S, h⟩ := h
    refine ⟨g, sm, e, R, S, ?_⟩
    unfold mTry3 at h
    cases q : mb sm g.h with
    | ex x s1 h1 =>
      rw [q] at h
      exact fun g' σ' cls d q1 e' R' S' r' => ⟨g', s1, x, rfl, R', S', r', by rw [q1]; exact wpS.ext h e'⟩
    | nx s1 h1 => rw [q] at h; exact h
    | rt t h1 => rw [q] at h; exact h
    | bk s1 h1 => rw [q] at h; exact h
    | ct s1 h1 => rw [q] at h; exact h
    | stuck => rw [q] at h; exact h
  have ok := I.ok
  have hfr : X.A.frames = some (X.env :: X.outer) := by rw [ok.frames, hs]
  have hloc : Loc X.env.scope n := .inl hln
  refine wpAny_Try_except ?_
  refine wpAny_mono ((hb (wB X Wout ct i ms D) (X.pn ++ pins) (fun e s₁ => wpAny (model X.prog X.w) X.A (noteFrame e X.env) (fun _ s₂ => wpAny (model X.prog X.w) X.A (setFlight e none) (fun _ s₃ =>
    wpAny (model X.prog X.w) X.A (handleBy e X.env [.ExceptHandler (some (.Tuple [.Name x1 p1, .Name x2 p2, .Name x3 p3] kx tp)) (some n) (b₀ :: suite) pos']) (SP X pins D) X.xe s₃) X.xe s₂) X.xe s₁) (fun u s' xx => ?_)).run [] s σ H D (I.toTry _) hcut) (fun f s1 hsp => ?_) (fun e s1 he => he)
  · -- the catch
    obtain ⟨a, B, sI, pins', σ', H', cls, d, rfl, J', nb, up, sky, na, os, ag, g, sm, x, rfl, R, S, rx, hh⟩ := xx
    have J : Inv X pins σ' g.H sI := J'.ofTry ok
    have sky' : Sky B (X.env :: X.outer) a (Zc cls d) X.env.locals s'.heap := by rw [← hs]; exact sky
    show wpAny (model X.prog X.w) X.A (noteFrame (.ref a) X.env) _ _ _
    refine Sky.land Zc.steady hfr hf sky' fun h3' fl3 up3 => ?_
    have J3 : Inv X pins σ' g.H { s' with heap := h3' } := J.landed nb fl3.1 (up.trans up3) os ag
    obtain ⟨oe3, vs3, he3, hz3, hd3⟩ := fl3.there
    have notFr : ∀ {h : Heap} {o : Obj} {vs : Array Value}, h.FunFrames B (X.env :: X.outer) → h.get? a = some o → o.data = .fields vs → a ∉ frs (X.env :: X.outer) := fun {h o vs} ff e dd hm => by
      obtain ⟨_, o', e', hnf⟩ := ff.mem hm
      rw [e] at e'; cases e'
      exact hnf _ dd
    have nfr := notFr fl3.2.2.1 he3 hd3
    have nL : a ≠ X.env.locals := fun z => nfr (List.mem_filterMap.mpr ⟨X.env, List.mem_cons_self, by rw [hf, z]⟩)
    have nF : a ∉ X.fs := fun hm => by
      obtain ⟨e, he, q⟩ := List.mem_filterMap.mp hm
      exact nfr (List.mem_filterMap.mpr ⟨e, List.mem_cons_of_mem _ he, q⟩)
    have nI : sI.heap.get? a = none := by
      cases q : sI.heap.get? a with
      | none => rfl
      | some o =>
        have z := nb a o q (by rw [hs]; exact nfr)
        rw [fl3.2.1] at z; cases z
    have n0 : X.s_0.heap.get? a = none := by
      cases q : X.s_0.heap.get? a with
      | none => rfl
      | some o =>
        obtain ⟨o', z⟩ := J.base.there a o q (by rw [hex]; simp)
        rw [nI] at z; cases z
    have npin : ∀ p ∈ X.pn ++ pins, p.1 ≠ a := fun p hp z => by
      have q := (J.pin p hp).1
      rw [z, nI] at q; cases q
    have S3 := J3.suite he3 hd3 na nL nF
    refine wpAny_handleBy_cons (codeAny_handlers_test ?_) (by intro q; cases q)
    -- the classes
    obtain ⟨C, da, fs, rfl, e2, rfl, ⟨hx1, hx2⟩, hx3, hx4⟩ := rx
    unfold handM at hh
    cases hl : ct.lookup x.c with
    | none => rw [hl] at hh; exact hh.elim
    | some b =>
      rw [hl] at hh
      have hexm := hc _ (lookup_memB hl) C e2
      refine wpAny_Tuple_spliced ?_
      show wpAny _ _ (spliced ((false, eval (.Name x1 p1) X.env) :: (false, eval (.Name x2 p2) X.env) :: (false, eval (.Name x3 p3) X.env) :: backTo tp (starEach [] X.env))) _ _ _
      refine Calls.spliced_cons (ld_glob (X := X.suite a ((a, oe3) :: (X.pn ++ pins))) S3 g1 h1 ?_ d1)
      refine Calls.spliced_cons (ld_glob (X := X.suite a ((a, oe3) :: (X.pn ++ pins))) S3 g2 h2 ?_ d2)
      refine Calls.spliced_cons (ld_glob (X := X.suite a ((a, oe3) :: (X.pn ++ pins))) S3 g3 h3 ?_ d3)
      refine Calls.spliced_nil ⟨by show 3 ≤ sizeLine; decide, ?_⟩
      let ht : Heap := h3'.push { cls := .type "tuple", data := .seq [Value.ref C1, .ref C2, .ref C3].toArray }
      have flt : HandSPX.FlyingZ B (X.env :: X.outer) a (Zc (.ref C) (some da)) ht := flying_push _ fl3
      have upt : sI.heap.UpToSlots ht := (up.trans up3).trans (Heap.UpToSlots.of_keeps fun b o e => Heap.get?_push_of_some _ e)
      have Jt : Inv X pins σ' g.H { s' with heap := ht } := J.landed nb flt.1 upt os ag
      obtain ⟨oet, vst, het, hzt, hdt⟩ := flt.there
      have LT : PySem.W.Looks (model X.prog X.w) ht (typeOf (.ref a)) (.ref C) := fun A Q E s k q => wpAny_typeOf_ref (k _ _ het) (by rw [hzt.1]; exact q)
      have LM := PySem.W.exm_tup3 (M := model X.prog X.w) (tp := h3'.objs.size) (Jt.kIn) LT (Heap.get?_push_size _ rfl) hexm
      refine LM.here ?_
      cases b with
      | true =>
        dsimp only at hh
        refine codeAny_handlers_suite_as ?_
        refine HandSPX.lands_againZ flt fun h4 fl4 up4 => ?_
        have J4 : Inv X pins σ' g.H { s' with heap := h4 } := J.landed nb fl4.1 (upt.trans up4) os ag
        obtain ⟨oe4, vs4, he4, hz4, hd4⟩ := fl4.there
        have hxo : ObjOk X.prog X.w (upd g.H a (XO C a da)) h4 a (XO C a da) := ⟨⟨oe4, vs4, he4, hz4, hd4⟩, ⟨oe4, he4⟩, fun h1 h2 ⟨o, v, z1, z2, z3⟩ st => ⟨o, v, st _ z1, z2, z3⟩⟩
        have J5 : Inv X pins σ' (upd g.H a (XO C a da)) { s' with heap := h4 } := inv_track J4 he4 hd4 na n0 nL npin hxo
        obtain ⟨eg, Rg⟩ : Ext g (g.lay a (XO C a da)) ∧ Rel X.K X.mg (g.lay a (XO C a da)) := ⟨lay_ext R na, R.lay na⟩
        have nh : ¬ (g.lay a (XO C a da)).hid a := R.nohid na
        have rep : Rep X.K X.mg (g.lay a (XO C a da)) (.exn x.c x.ns x.vs) (.ref a) := by
          simp only [Rep]
          exact ⟨a, C, da, fs, rfl, ⟨upd_same, nh⟩, eg.keep _ _ hx1 hx2, e2, hx3, hx4.mono eg⟩
        have S4 := to_suite (a := a) J5
        refine store_ok (X := X.suite a (X.pn ++ pins)) (v := .ref a) S4 hN hi hloc rfl (fun s5 S5 => ?_) (.inr hln)
        have hw : tSM X.K X.mg W0 ms { nx := fun σ' H' => D.nx (σ'.set i none) H', rt := D.rt, bk := fun σ' H' => D.bk (σ'.set i none) H', ct := fun σ' H' => D.ct (σ'.set i none) H' } (σ'.set i (some (.ref a))) (upd g.H a (XO C a da)) := by
          refine ⟨g.lay a (XO C a da), sm.set i (some (.exn x.c x.ns x.vs)), rfl, Rg, (S.mono eg).set rep i, ?_⟩
          have hh2 : wpS X.K X.mg Wout g D (goneS i (ms (sm.set i (some (.exn x.c x.ns x.vs))) (g.lay a (XO C a da)).h)) := hh
          cases q : ms (sm.set i (some (.exn x.c x.ns x.vs))) (g.lay a (XO C a da)).h with
          | nx s2 h2 => rw [q] at hh2; exact fun g' σ2 q1 e' R' S' => hh2 g' _ q1 (eg.trans e') R' (S'.unset i)
          | rt t h2 => rw [q] at hh2; exact fun g' v q1 e' R' r' => hh2 g' v q1 (eg.trans e') R' r'
          | bk s2 h2 => rw [q] at hh2; exact fun g' σ2 q1 e' R' S' => hh2 g' _ q1 (eg.trans e') R' (S'.unset i)
          | ct s2 h2 => rw [q] at hh2; exact fun g' σ2 q1 e' R' S' => hh2 g' _ q1 (eg.trans e') R' (S'.unset i)
          | ex y s2 h2 => rw [q] at hh2; exact hh2.elim
          | stuck => rw [q] at hh2; exact hh2.elim
        refine wpAny_mono ((hsu a (X.pn ++ pins)).run [] s5 _ _ _ S5 hw) (fun f s6 hsp => ?_) (fun _ _ z => False.elim z)
        have end_ : ∀ {σ6 : L2.St} {H6 : Hp} {Q : Shared → Prop}, Inv (X.suite a (X.pn ++ pins)) [] σ6 H6 s6 → (∀ s7, Inv X pins (σ6.set i none) H6 s7 → Q s7) →
            wpAny (model X.prog X.w) X.A (do bindName X.env n .none; unbindBehindTheSuite X.env n pos') (fun _ s7 => Q s7) X.xe s6 := fun {σ6 H6 Q} S6 hq => gone_ok (suite_back S6 ok) hN hi hln hq
        cases f with
        | next =>
          obtain ⟨σ6, H6, S6, q6⟩ := hsp
          exact end_ S6 fun s7 J7 => ⟨_, _, J7, q6⟩
        | brk =>
          obtain ⟨σ6, H6, S6, q6⟩ := hsp
          exact end_ S6 fun s7 J7 => ⟨_, _, J7, q6⟩
        | cont =>
          obtain ⟨σ6, H6, S6, q6⟩ := hsp
          exact end_ S6 fun s7 J7 => ⟨_, _, J7, q6⟩
        | ret u =>
          obtain ⟨v6, σ6, H6, S6, r6, q6⟩ := hsp
          exact end_ S6 fun s7 J7 => ⟨_, _, _, J7, r6, q6⟩
      | false =>
        dsimp only at hh
        show wpAny _ X.A (handleBy (.ref a) X.env []) _ _ _
        refine wpAny_handleBy_nil ?_
        obtain ⟨k1, k2, k3, oe, vs, T, oT, ts', he, hz, hd, hh1, hr⟩ := id flt
        unfold PySem.passOn
        refine wpAny_bind (wpAny_field he hd hh1 ?_)
        rw [if_neg (show ¬ ((Value.ref T == Value.none) = true) from by simp)]
        have fin : wpAny (model X.prog X.w) X.A (setFlight (.ref a) X.env.frame) (fun _ s4 => wpAny (model X.prog X.w) X.A (throw (.ref a) : Sem Flow) (SP X pins D) X.xe s4) X.xe { s' with heap := ht } := by
          rw [hf]
          refine HandSPX.setFlight_upZ flt fun h4 hh4 up4 => wpAny_throw (tk _ _ ?_)
          exact ⟨a, B, sI, pins, σ', g.H, .ref C, some da, rfl, J, nb, upt.trans up4, .inr (.inr (by rw [hs]; exact hh4)), na, os, ag, hh g σ' (.ref C) (some da) rfl (Ext.refl g) R S ⟨C, da, fs, rfl, e2, rfl, ⟨hx1, hx2⟩, hx3, hx4⟩⟩
        first
          | exact wpAny_bind (wpAny_pure (wpAny_bind fin))
          | exact wpAny_bind fin
  · cases f with
    | next =>
      obtain ⟨σ', H', J', q⟩ := hsp
      exact wpAny_execs_nil ⟨σ', H', J'.ofTry ok, q⟩
    | brk =>
      obtain ⟨σ', H', J', q⟩ := hsp
      exact ⟨σ', H', J'.ofTry ok, q⟩
    | cont =>
      obtain ⟨σ', H', J', q⟩ := hsp
      exact ⟨σ', H', J'.ofTry ok, q⟩
    | ret u =>
      obtain ⟨v, σ', H', J', r, q⟩ := hsp
      exact ⟨v, σ', H', J'.ofTry ok, r, q⟩
end
end Mi
end part_Mi44
section part_Mi45
set_option maxRecDepth 100000
set_option maxHeartbeats 2000000
/-! Mi, part 45: defs called within an except suite, that raise nothing. -/
namespace Mi
open PySem PySem.Spec PyProof.Rows L2
/-- what a def promises there -/
structure FnN (P : Program) (w : World) (K : PySem.W.Frag) (mg : Str → Option Value) (base : Heap) (k : Nat) (f : Addr) (fd : FuncData) (ps : List Str) (sp : Sp) : Prop where
  len : ∀ vs H Q E, sp vs H Q E → vs.length = ps.length
  run : ∀ (A : Around) (outer : List Env) (s : Shared) (H : Hp) (args : Args) (us : List Value) (vs : List V) (Q : VK) (E : XK), L2H.RoomH k A → Env0 P w K mg base A outer s H → BindsTo s fd args (ps.zip us) → Vals vs us → sp vs H Q E →
    codeAny (model P w) A (.call (.ref f) args) (CR (L2.CX P w) outer P w H s Q E) s
/-- the context of its body -/
def cxN (P : Program) (w : World) (K : PySem.W.Frag) (mg : Str → Option Value) (base : Heap) (N : List Str) (qual : Str) (scope : Scope) (f : Addr) (cd : Value) (A : Around) (outer : List Env) (s : Shared) (H : Hp) (E : XK) : Cx :=
  { cxOf (L2.CX P w) P w K mg base N qual scope f cd A outer s H E with calm := false }
section
variable {P : Program} {w : World} {K : PySem.W.Frag} {mg : Str → Option Value} {base : Heap} {N ps : List Str} {qual : Str} {scope : Scope} {f : Addr} {cd : Value} {A : Around} {outer : List Env} {s s1 : Shared} {H : Hp} {E : XK} {us : List Value} {vs : List V}
theorem inv_startNN (S : FnScope N ps scope) (e0 : Env0 P w K mg base A outer s H) (hl : vs.length = ps.length) (r : Vals vs us)
    (x : InCallC s s.heap.objs.size (bindL (envOfC qual scope s.heap.objs.size f cd).kindOf (ps.zip us) fun _ => none) (cellsFrom (s.heap.objs.size + 1) scope.names []) (bindC (envOfC qual scope s.heap.objs.size f cd).kindOf (ps.zip us) fun _ => none) s1) :
    Inv (cxN P w K mg base N qual scope f cd A outer s H E) [] (L2.start N vs) H s1 := by
  have e0' : Env0 P w K mg base { A with handled := none } outer s H := ⟨e0.frames, e0.mod, e0.bs, e0.bsz, e0.funs, e0.frf, e0.hok, e0.bare⟩
  have I0 : Inv (cxOf (L2.CX P w) P w K mg base N qual scope f cd { A with handled := none } outer s H E) [] (L2.start N vs) H s1 := inv_start S rfl e0' hl r x
  exact ⟨⟨I0.ok.mod, I0.ok.kind, I0.ok.glob, I0.ok.blt, I0.ok.above, I0.ok.inj, I0.ok.has, I0.ok.cab, (fun z => Bool.noConfusion (show false = true from z)), Around.frames_deeper e0.frames, I0.ok.stk, I0.ok.exf, I0.ok.bs, I0.ok.bsz, I0.ok.noex, I0.ok.exfs, I0.ok.funs, I0.ok.frf⟩,
    I0.os, I0.bare, I0.base, I0.loc, I0.cell, I0.free, I0.freeC, I0.pin, I0.hok, I0.len⟩
end
theorem fnN_of {P : Program} {w : World} {K : PySem.W.Frag} {mg : Str → Option Value} {base : Heap} {k : Nat} {f : Addr} {name qual : Str} {params : Arguments} {body : List Stmt} {scope : Scope} {dV kV doc pm cdv ct oc : Value} {an od : Option Addr}
    {osl : Array (Option Value)} {N ps : List Str} {sp : Sp} (lk : K.lookup f = some ⟨oc, od, .func (PySem.W.fnOf name qual params body scope dV kV doc pm an cdv ct), osl⟩) (hcd : PySem.W.codeIn K cdv qual = true) (S : FnScope N ps scope)
    (len : ∀ vs H Q E, sp vs H Q E → vs.length = ps.length)
    (hbody : ∀ (A : Around) (outer : List Env) (s : Shared) (H : Hp) (vs : List V) (Q : VK) (E : XK), L2H.RoomH k (A.deeper (envOfC qual scope s.heap.objs.size f cdv)) → sp vs H Q E →
      ∃ t, PSs (cxN P w K mg base N qual scope f cdv A outer s H E) body t ∧ t { nx := fun _ H' => Q .non H', rt := Q } (L2.start N vs) H) :
    FnN P w K mg base (k + 1) f (PySem.W.fnOf name qual params body scope dV kV doc pm an cdv ct) ps sp := by
  refine ⟨len, fun A outer s H args us vs Q E hr e0 hb r hsp => ?_⟩
  have hl := len _ _ _ _ hsp
  have KX : K.In s.heap := e0.mod.kin.keeps fun b o e => (e0.bs b o e).1
  have lim : s.heap.NoLimit := e0.mod.nolimit.keeps fun b o e => (e0.bs b o e).1
  have hkind : ∀ y ∈ ps.zip us, scope.names.lookup y.1 = some .local ∨ (scope.names.lookup y.1 = some .cell ∧ ((cellsFrom (s.heap.objs.size + 1) scope.names []).lookup y.1).isSome = true) := fun ⟨n, v⟩ hy => by
    rcases S.par n (List.of_mem_zip hy).1 with q | q
    · exact .inl q
    · exact .inr ⟨q, PySem.W.cellsFrom_some _ _ _ (.inl q)⟩
  refine codeAny_call_function hr.depth (KX _ _ lk) rfl S.co S.gen rfl (PySem.W.codeRec_of KX hcd) (hb _ _ _ _ ?_)
  refine wpAny_newFunctionEnv_cells S.kind hkind fun env he s1 x => ?_
  subst he
  refine ⟨lim.keeps x.toInCall.keep, codeAny_func ?_⟩
  obtain ⟨t, ht, hq⟩ := hbody A outer s H vs Q E (hr.deeper _) hsp
  have I : Inv (cxN P w K mg base N qual scope f cdv A outer s H E) [] (L2.start N vs) H s1 := inv_startNN S e0 hl r x
  refine wpAny_mono (ht.run [] s1 (L2.start N vs) H _ I hq) (fun fl s' hs => ?_) fun e s' hs => hs
  have fin : ∀ {σ' : L2.St} {H' : Hp} {v : V} {u : Value}, Inv (cxN P w K mg base N qual scope f cdv A outer s H E) [] σ' H' s' → RelV v u → Q v H' → CE outer P w H s Q u s' :=
    fun {σ' H' v u} J rv q => ⟨v, H', J.os, J.bare, J.base, J.hok, rv, q⟩
  cases fl with
  | ret u =>
    obtain ⟨v, σ', H', J, rv, q⟩ := hs
    exact fin J rv q
  | next =>
    obtain ⟨σ', H', J, q⟩ := hs
    exact fin (v := V.non) (u := Value.none) J rfl q
  | brk =>
    obtain ⟨_, _, _, q⟩ := hs
    exact False.elim q
  | cont =>
    obtain ⟨_, _, _, q⟩ := hs
    exact False.elim q
theorem def_okN {P : Program} {w : World} {K : PySem.W.Frag} {mg : Str → Option Value} {base : Heap} {x qual : Str} {params : Arguments} {body : List Stmt} {scope : Scope} {dvs : List V} {kws : List (Str × V)} {f : Addr} {fd : FuncData} {N ps : List Str} {k n : Nat} {mb : MS}
    (F : FunD K x qual params body scope dvs kws f fd) (S : FnScope N ps scope) (hn : ps.length = n)
    (hbody : ∀ (cdv : Value) (A : Around) (outer : List Env) (s : Shared) (H : Hp) (E : XK), L2H.RoomH k (A.deeper (envOfC qual scope s.heap.objs.size f cdv)) →
      SSs (cxN P w K mg base N qual scope f cdv A outer s H E) (fun cls d _ H => E cls d H) body mb) :
    FnN P w K mg base (k + 1) f fd ps (spM K mg n (mDef N.length mb)) := by
  obtain ⟨oc, od, dV, kV, doc, pm, an, cdv, ct, osl, rfl, lk, hcd, _, _⟩ := F.ex
  refine fnN_of lk hcd S (fun vs H Q E h => (spM_len h).trans hn.symm) fun A outer s H vs Q E hr h => ⟨_, hbody cdv A outer s H E hr, ?_⟩
  obtain ⟨g, ts, rfl, R, r, l, h⟩ := h
  refine ⟨g, _, rfl, R, repS_start r, ?_⟩
  unfold mDef at h
  cases q : mb (ts.map some ++ List.replicate (N.length - ts.length) none) g.h with
  | nx s' h' =>
    rw [q] at h
    exact fun g' σ' q1 e R' S' => h g' .non q1 e R' rNon
  | rt t h' => rw [q] at h; exact fun g' v q1 e R' r' => h g' v q1 e R' r'
  | bk s' h' => rw [q] at h; exact h.elim
  | ct s' h' => rw [q] at h; exact h.elim
  | ex y s' h' => rw [q] at h; exact fun g' σ' cls d q1 e R' S' r' => h g' cls d q1 e R' r'
  | stuck => rw [q] at h; exact h.elim
def HasN (P : Program) (w : World) (K : PySem.W.Frag) (mg : Str → Option Value) (base : Heap) (k : Nat) (x qual : Str) (st : Stmt) (ps : List Str) (m : MF) : Prop :=
  ∃ (f : Addr) (fd : FuncData), FunD K x qual (defArgs st) (defBody st) (defScope st) [] [] f fd ∧ mg x = some (.ref f) ∧ FnN P w K mg base k f fd ps (spM K mg ps.length m)
abbrev HasNX (X : Cx) := HasN X.prog X.w X.K X.mg X.base
theorem HasN.up {P : Program} {w : World} {K : PySem.W.Frag} {mg : Str → Option Value} {base : Heap} {j k : Nat} {x qual : Str} {st : Stmt} {ps : List Str} {m : MF} (h : HasN P w K mg base j x qual st ps m) (l : j ≤ k) : HasN P w K mg base k x qual st ps m := by
  obtain ⟨f, fd, F, hm, ok⟩ := h
  exact ⟨f, fd, F, hm, ok.len, fun A outer s H args us vs Q E hr => ok.run A outer s H args us vs Q E (hr.mono l)⟩
theorem roomN {k : Nat} {A : Around} (r : Room k A) (v : Option Value) : L2H.RoomH k (A.mark v) := ⟨r.dp, r.un⟩
section
variable {X : Cx} {e : Expr} {es : List Expr} {mr : MA} {pos p : Pos} {x : Str}
/-- THE RULE for a call by position in an except suite -/
theorem se_ncall {k : Nat} {qual : Str} {st : Stmt} {ps : List Str} {mf : MF} {fm : List T → MH → R} (h : HasNX X k x qual st ps mf) (hr : L2H.RoomH k X.A) (cl : Calls2 X W0 ps.length mf fm) (hb : PosB st x qual ps) (ha : SA X W0 (e :: es) mr) (hg : Gl X x := by rfl)
    (hdb : (x == ("__debug__" : Str)) = false := by decide) (he : starEach (e :: es) X.env = (false, eval e X.env) :: starEach es X.env := by rfl) (hpl : (backTo pos (starEach es X.env)).any (·.1) = false := by rfl) :
    SE X W0 (.Call (.Name x p) (e :: es) [] pos) (mA fm mr) := by
  obtain ⟨f, fd, F, hm, ok⟩ := h
  have B := F.bindsN hb
  refine ⟨fun pins s σ H Q I h => ?_⟩
  obtain ⟨g, sm, rfl, R, S, h⟩ := h
  refine wpAny_Call_Name_kw (ld_glob I hg hm ?_ hdb)
  refine PySem.W.callWith_K (h₀ := X.base) I.ok.mod.kin F.kp (thn (ha.run pos pins s σ g.H (fun vs H1 => spM X.K X.mg ps.length mf vs H1 Q (WE W0 σ)) I
    ⟨g, sm, rfl, R, S, wpL_of h fun g1 ts vs e1 R1 r1 h1 => cl g1 σ ts vs Q R1 r1 h1⟩) fun us s1 ⟨vs, H1, I1, r, q⟩ => ⟨I1.kIn, ?_⟩) he hpl
  have hl : us.length = ps.length := by rw [← r.length]; exact ok.len _ _ _ _ q
  have b := B s1 us I1.kIn (by rw [List.append_nil]; exact hl)
  rw [List.append_nil] at b
  refine wpAny_call (codeAny_mono (ok.run X.A X.stack s1 H1 ⟨us, []⟩ us vs Q (WE W0 σ) hr I1.env0 b r q) fun rr s' hq => ?_)
  cases rr with
  | error e =>
    obtain ⟨_, _, _, _, _, _, _, _, _, _, _, _, z⟩ := hq
    exact z.elim
  | ok fl =>
    cases fl with
    | ret u => exact I1.after hq
    | next => exact False.elim hq
    | brk => exact False.elim hq
    | cont => exact False.elim hq
end
end Mi
end part_Mi45
section part_Mi13
set_option maxRecDepth 100000
set_option maxHeartbeats 2000000
/-! Mi, part 13: two roads to one expression; objects: made, read, written, their methods. -/
namespace Mi
open PySem PySem.Spec PyProof.Rows L2
section
variable {X : Cx} {K : PySem.W.Frag} {mg : Str → Option Value} {W : WX} {g g' : G} {σ : L2.St} {Q : VK} {D : Ends}
variable {a b c e : Expr} {ma mb mc me mt m1' m2' : ME} {mr mk : MA} {pos p apos : Pos} {es : List Expr} {x : Str} {m m' : MS} {st : Stmt} {sts : List Stmt} {kws : List Keyword}
/-! ### alternatives -/
def R.orElse (r r' : R) : R := match r with
  | .stuck => r'
  | r => r
/-! ### the attributes of an object -/
def fldOf (f : Str) : List Str → List T → Option T
  | n :: ns, t :: ts => if n = f then some t else fldOf f ns ts
  | _, _ => none
/-- class, names, values of an object, changeable or not -/
def objOf (t : T) (h : MH) : Option (Str × List Str × List T) := match t with
  | .obj c ns ts => some (c, ns, ts)
  | .ref i => match h[i]? with
    | some (.ins c ns ts) => some (c, ns, ts)
    | _ => none
  | _ => none
theorem obj_of {t : T} {v : V} {c : Str} {ns : List Str} {ts : List T} (R : Rel K mg g) (r : Rep K mg g t v) (h : objOf t g.h = some (c, ns, ts)) :
    ∃ p C dx fs, v = .ref p ∧ g.H p = some (.ins C dx fs) ∧ mg c = some (.ref C) ∧ fs.map (·.1) = ns ∧ RepL K mg g ts (fs.map (·.2)) := by
  unfold objOf at h
  cases t with
  | obj c' ns' ts' =>
    cases h
    simp only [Rep] at r
    obtain ⟨p, C, dx, fs, e1, ⟨h1, _⟩, e2, e3, h2⟩ := r
    exact ⟨p, C, dx, fs, e1, h1, e2, e3, h2⟩
  | ref i =>
    dsimp only at h
    split at h
    · rename_i c' ns' ts' q
      cases h
      simp only [Rep] at r
      obtain ⟨p, rfl, hp⟩ := r
      obtain ⟨C, dx, fs, h1, h2, h3, h4⟩ := R.obj i p _ hp q
      exact ⟨p, C, dx, fs, rfl, h1, h2, h3, h4⟩
    · cases h
  | _ => cases h
theorem fld_of {f : Str} : ∀ {ns : List Str} {ts : List T} {fs : List (Str × V)} {t : T}, fs.map (·.1) = ns → RepL K mg g ts (fs.map (·.2)) → fldOf f ns ts = some t → ∃ v, fs.lookup f = some v ∧ Rep K mg g t v
  | [], ts, fs, t, _, _, h => by simp [fldOf] at h
  | n :: ns, [], fs, t, _, _, h => by simp [fldOf] at h
  | n :: ns, u :: ts, [], t, e, _, _ => by cases e
  | n :: ns, u :: ts, (k, y) :: fs, t, e, r, h => by
    rw [List.map_cons] at e r
    injection e with e1 e2
    have e1 : k = n := e1
    subst e1
    simp only [RepL] at r
    obtain ⟨v, w, q, r1, r2⟩ := r
    injection q with q1 q2
    subst q1 q2
    unfold fldOf at h
    split at h
    · rename_i z
      subst z
      cases h
      exact ⟨y, by simp [List.lookup_cons], r1⟩
    · rename_i z
      obtain ⟨v', h1, h2⟩ := fld_of e2 r2 h
      exact ⟨v', by rw [List.lookup_cons]; simp [show (f == k) = false from beq_eq_false_iff_ne.mpr (Ne.symm z), h1], h2⟩
end
end Mi
end part_Mi13
section part_Mi14
set_option maxRecDepth 100000
set_option maxHeartbeats 2000000
/-! Mi, part 14: defs with defaults; methods, instances made, by position and by keywords. -/
namespace Mi
open PySem PySem.Spec PyProof.Rows L2
/-! ### what a def object is -/
structure FnH (P : Program) (w : World) (K : PySem.W.Frag) (mg : Str → Option Value) (base : Heap) (k : Nat) (x qual : Str) (st : Stmt) (ps : List Str) (dts : List T) (m : MF) (f : Addr) (fd : FuncData) (dvs : List V) : Prop where
  F : FunD K x qual (defArgs st) (defBody st) (defScope st) dvs [] f fd
  dl : dvs.length = dts.length
  dr : ∀ g, RepL K mg g dts dvs
  ok : FnOk P w K mg base (L2.CX P w) k f fd ps (spM K mg ps.length m)
theorem FnH.up {P : Program} {w : World} {K : PySem.W.Frag} {mg : Str → Option Value} {base : Heap} {j k : Nat} {x qual : Str} {st : Stmt} {ps : List Str} {dts : List T} {m : MF} {f : Addr} {fd : FuncData} {dvs : List V} (h : FnH P w K mg base j x qual st ps dts m f fd dvs) (l : j ≤ k) : FnH P w K mg base k x qual st ps dts m f fd dvs := ⟨h.F, h.dl, h.dr, h.ok.mono l⟩
/-- a method of the class -/
def HasM (P : Program) (w : World) (K : PySem.W.Frag) (mg : Str → Option Value) (base : Heap) (k : Nat) (c x qual : Str) (st : Stmt) (ps : List Str) (dts : List T) (m : MF) : Prop :=
  ∃ C f fd dvs, mg c = some (.ref C) ∧ Cls K C ∧ Meth K C x f ∧ FnH P w K mg base k x qual st ps dts m f fd dvs
/-- its __init__ -/
def HasI (P : Program) (w : World) (K : PySem.W.Frag) (mg : Str → Option Value) (base : Heap) (k : Nat) (c qual : Str) (st : Stmt) (ps : List Str) (dts : List T) (m : MF) : Prop :=
  ∃ C f fd dvs, mg c = some (.ref C) ∧ Mk K C f ∧ FnH P w K mg base k "__init__" qual st ps dts m f fd dvs
/-- a property -/
def HasP (P : Program) (w : World) (K : PySem.W.Frag) (mg : Str → Option Value) (base : Heap) (k : Nat) (c x qual : Str) (st : Stmt) (m : MF) : Prop :=
  ∃ C p f fd dvs, mg c = some (.ref C) ∧ Cls K C ∧ PropOf K C x p f ∧ FnH P w K mg base k x qual st ["self"] [] m f fd dvs
/-- n values are written, the defaults behind the first j fill up -/
def PosD (st : Stmt) (x qual : Str) (ps : List Str) (nd n j : Nat) : Prop := ∀ (dV kV doc pm : Value) (an : Option Addr) (cdv ct : Value) (us its : List Value), us.length = n → its.length = nd →
  if nd = 0 then bindArgs (PySem.W.fnOf x qual (defArgs st) (defBody st) (defScope st) .none kV doc pm an cdv ct) ⟨us, []⟩ = pure (ps.zip us)
  else ∀ T, ∃ k, bindArgs (PySem.W.fnOf x qual (defArgs st) (defBody st) (defScope st) (.ref T) kV doc pm an cdv ct) ⟨us, []⟩ = seqItems? (.ref T) >>= k ∧ k (some its.toArray) = pure (ps.zip (us ++ its.drop j))
section
variable {X : Cx} {K : PySem.W.Frag} {mg : Str → Option Value} {W : WX} {g g' : G} {σ : L2.St} {Q : VK} {D : Ends}
variable {a b c e : Expr} {ma mb mc me mt : ME} {mr mk : MA} {pos p apos : Pos} {es : List Expr} {x : Str} {kws : List Keyword}
theorem posD_binds {qual : Str} {st : Stmt} {ps : List Str} {dts : List T} {m : MF} {f : Addr} {fd : FuncData} {dvs : List V} {P : Program} {w : World} {base : Heap} {k n j : Nat} (h : FnH P w K mg base k x qual st ps dts m f fd dvs) (hb : PosD st x qual ps dts.length n j) (hn : n + (dts.length - j) = ps.length) :
    ∃ ds, Vals (dvs.drop j) ds ∧ Binds K fd ps ds := by
  by_cases z : dts.length = 0
  · have hd : dvs = [] := List.eq_nil_of_length_eq_zero (h.dl.trans z)
    have F := h.F
    subst hd
    refine ⟨[], by simp; exact .nil, F.bindsN fun kV doc pm an cdv ct us hl => ?_⟩
    have := hb .none kV doc pm an cdv ct us [] (by omega) z.symm
    rw [if_pos z] at this
    exact this
  · have hd : dvs ≠ [] := fun e => z (by rw [← h.dl, e]; rfl)
    refine h.F.binds1 n j hd (by rw [h.dl]; exact hn) fun T kV doc pm an cdv ct us its hl hi => ?_
    have := hb .none kV doc pm an cdv ct us its hl (by rw [hi, h.dl])
    rw [if_neg z] at this
    exact this T
/-! ### the callee runs -/
section
variable {CX : CXT} {k : Nat} {f C : Addr} {fd : FuncData} {ps ks : List Str} {sp : Sp} {E : XK} {dvs vs zs : List V} {ds us ws : List Value} {pins : List (Addr × Obj)} {H : Hp} {s : Shared}
theorem code_at {A : Around} {args : Args} (F : FnOk X.prog X.w X.K X.mg X.base CX k f fd ps sp) (hr : Room k A) (e0 : Env0 X.prog X.w X.K X.mg X.base A X.stack s H) (hx : PassesAt CX X σ E) (I : Inv X pins σ H s) (hb : BindsTo s fd args (ps.zip us)) (r : Vals vs us) (h : sp vs H Q E) :
    codeAny (model X.prog X.w) A (.call (.ref f) args) (fun r s' => match r with | .ok (.ret u) => EP X pins σ Q u s' | .ok _ => False | .error e => X.xe e s') s := by
  refine codeAny_mono (F.run A X.stack s H args us vs Q E hr e0 hb r h) fun q s' hq => ?_
  cases q with
  | error e => exact hx pins H s e s' I hq
  | ok fl => cases fl with
    | ret u => exact I.after hq
    | _ => exact hq.elim
end
end
end Mi
end part_Mi14
section part_Mi15
set_option maxRecDepth 100000
set_option maxHeartbeats 2000000
/-! Mi, part 15: the rules for methods, instances, properties, defs with defaults. -/
namespace Mi
open PySem PySem.Spec PyProof.Rows L2
section
variable {X : Cx} {K : PySem.W.Frag} {mg : Str → Option Value} {W : WX} {g g' : G} {σ : L2.St} {Q : VK} {D : Ends}
variable {a b e : Expr} {ma mb mc me mt : ME} {mr mk : MA} {pos p apos : Pos} {es : List Expr} {c x : Str} {kws : List Keyword}
variable {k n j : Nat} {qual : Str} {st : Stmt} {ps ks : List Str} {dts : List T} {mf : MF} {fm : List T → MH → R}
abbrev HasMX (X : Cx) := HasM X.prog X.w X.K X.mg X.base
def isOf (c m : Str) (t : T) (h : MH) : Bool := match objOf t h with
  | some (c', ns, _) => decide (c' = c) && !ns.contains m
  | none => false
/-- o.m(e, ..) -/
def mMeth (c m : Str) (dts : List T) (fm : List T → MH → R) (mo : ME) (mr : MA) : ME := fun s h => (mo s h).bind fun t h1 => if isOf c m t h1 then (mr s h1).bind fun ts h2 => fm (t :: (ts ++ dts)) h2 else .stuck
/-! ### C(e, ..) -/
def fMkN (nn : Nat) (f : List T → MH → R) : List T → MH → R := fun ts h => if ts.length = nn then f ts h else .stuck
end
end Mi
end part_Mi15
section part_Mi16
set_option maxRecDepth 100000
set_option maxHeartbeats 2000000
/-! Mi, part 16: len, repr, str, in, == of own classes. -/
namespace Mi
open PySem PySem.Spec PyProof.Rows L2
section
variable {X : Cx} {K : PySem.W.Frag} {mg : Str → Option Value} {W : WX} {g g' : G} {σ : L2.St} {Q : VK} {D : Ends}
variable {a b e : Expr} {ma mb mc me mt : ME} {mr mk : MA} {pos p apos : Pos} {es : List Expr} {c x : Str}
variable {k n j : Nat} {qual : Str} {st : Stmt} {ps ks : List Str} {dts : List T} {mf : MF} {fm : List T → MH → R}
/-- an instance of the class -/
def isCls (c : Str) (t : T) (h : MH) : Bool := match objOf t h with
  | some (c', _, _) => decide (c' = c)
  | none => false
theorem isCls_at {t : T} {v : V} (R : Rel K mg g) (r : Rep K mg g t v) (h : isCls c t g.h = true) : ∃ p C dx fs, v = .ref p ∧ g.H p = some (.ins C dx fs) ∧ mg c = some (.ref C) := by
  unfold isCls at h
  split at h
  · rename_i c' ns ts q
    obtain ⟨p, C, dx, fs, e1, h1, h2, h3, _⟩ := obj_of R r q
    rw [decide_eq_true_eq] at h
    subst h
    exact ⟨p, C, dx, fs, e1, h1, h2⟩
  · cases h
/-- the method runs one step below the body -/
theorem run_in1 {A : Around} {f : Addr} {fd : FuncData} {dvs : List V} {pins : List (Addr × Obj)} {s : Shared} {us : List Value} {vs : List V} {H : Hp} (hf : FnH X.prog X.w X.K X.mg X.base k x qual st ps [] mf f fd dvs) (hr : Room k A) (e0 : Env0 X.prog X.w X.K X.mg X.base A X.stack s H) (tk : Takes X W) (hb : PosD st x qual ps 0 ps.length 0) (I : Inv X pins σ H s) (r : Vals vs us)
    (h : spM X.K X.mg ps.length mf vs H Q (WE W σ)) : wpAny (model X.prog X.w) A (call (.ref f) us) (EP X pins σ Q) X.xe s := by
  obtain ⟨ds, hd, hbs⟩ := posD_binds (dts := []) (n := ps.length) (j := 0) hf hb (by simp)
  have dl := hf.dl
  have e1 : dvs = [] := List.eq_nil_of_length_eq_zero dl
  subst e1
  cases hd
  have hl : us.length = ps.length := by rw [← spM_len h]; exact r.length.symm
  have hbt := hbs s us I.kIn (by rw [List.append_nil]; exact hl)
  rw [List.append_nil] at hbt
  refine wpAny_call (codeAny_mono (code_at (args := ⟨us, []⟩) hf.ok hr e0 (passAt tk σ) I hbt r h) fun q s' hq => ?_)
  cases q with
  | error e => exact hq
  | ok fl => cases fl <;> exact hq
/-! ### x in o, o == y -/
def fBlB (neg : Bool) : T → MH → R := fun t h => match t with
  | .bl b => .ok (.bl (if neg then !b else b)) h
  | _ => .stuck
/-- what == asks of the class: no built-in type and none of these classes stands before it -/
structure EqC (K : PySem.W.Frag) (mg : Str → Option Value) (c : Str) (cs : List Str) : Prop where
  ty : ∀ C, mg c = some (.ref C) → ∀ a : Ty5, PySem.W.notFirst K C (.type a.name) = true
  own : ∀ C, mg c = some (.ref C) → ∀ c' ∈ cs, ∀ C', mg c' = some (.ref C') → PySem.W.notFirst K C (.ref C') = true
def knownT (cs : List Str) (t : T) (h : MH) : Bool := match objOf t h with
  | some (c', _, _) => cs.contains c'
  | none => (tyOfT t h).isSome
def fEqO (cs : List Str) (c : Str) (fm : List T → MH → R) : T → T → MH → R := fun t u h => if isCls c t h && knownT cs u h then (fm [t, u] h).bind (fBlB false) else .stuck
theorem type_of {cs : List Str} {t : T} {v : V} {y : Value} {pins : List (Addr × Obj)} {s : Shared} (R : Rel X.K X.mg g) (r : Rep X.K X.mg g t v) (I : Inv X pins σ g.H s) (rv : RelV v y) (h : knownT cs t g.h = true) :
    ∃ tb, PySem.W.Looks (model X.prog X.w) s.heap (typeOf y) tb ∧ ((∃ a : Ty5, tb = .type a.name) ∨ ∃ c' C', c' ∈ cs ∧ X.mg c' = some (.ref C') ∧ tb = .ref C') := by
  unfold knownT at h
  split at h
  · rename_i c' ns ts q
    obtain ⟨p, C, dx, fs, rfl, hp, hm, _⟩ := obj_of R r q
    cases (show y = Value.ref p from rv)
    obtain ⟨mA, O, _⟩ := ins_get I.hok hp
    obtain ⟨od, J, _⟩ := O.look
    exact ⟨.ref C, J.type, .inr ⟨c', C, by simpa using h, hm, rfl⟩⟩
  · obtain ⟨a, q⟩ := Option.isSome_iff_exists.mp h
    obtain ⟨P, Z, hP, _⟩ := kit_of I rv (tyx_of R r q)
    exact ⟨_, Z.ty _ _ I.kIn hP, .inl ⟨a, rfl⟩⟩
theorem eqO_ok {cs : List Str} {op : CmpOp} (hop : ∀ a b, compareOp op a b = richCompare op a b) {mn : Str} (hmn : (cmpInfo op).2.1 = mn) (HC : EqC X.K X.mg c cs) (Hm : HasMX X k c mn qual st ps [] mf) (hr : Room k X.A) (tk : Takes X W) (cl : Calls2 X W ps.length mf fm) (hb : PosD st mn qual ps 0 ps.length 0)
    {t u : T} {v w : V} {y z : Value} {pins : List (Addr × Obj)} {s : Shared} (R : Rel X.K X.mg g) (r1 : Rep X.K X.mg g t v) (r2 : Rep X.K X.mg g u w) (I : Inv X pins σ g.H s) (rv : RelV v y) (rw' : RelV w z) (h : wpR X.K X.mg W g σ Q (fEqO cs c fm t u g.h)) :
    wpAny (model X.prog X.w) X.A (compareOp op y z) (EP X pins σ Q) X.xe s := by
  obtain ⟨C, f, fd, dvs, hC, hcl, hme, hf⟩ := Hm
  unfold fEqO at h
  split at h
  · rename_i zc
    obtain ⟨z1, z3⟩ := Bool.and_eq_true_iff.mp zc
    obtain ⟨p1, C1, dx, fs, rfl, hp, hc1⟩ := isCls_at R r1 z1
    have z2 : C1 = C := by rw [hC] at hc1; cases hc1; rfl
    subst z2
    cases (show y = Value.ref p1 from rv)
    obtain ⟨mA, O, _⟩ := ins_get I.hok hp
    obtain ⟨od, J, _⟩ := O.look
    obtain ⟨m, hF⟩ := I.fr
    obtain ⟨tb, ht, hk⟩ := type_of R r2 I rw' z3
    have nf : PySem.W.notFirst X.K C1 tb = true := by
      rcases hk with ⟨a, rfl⟩ | ⟨c', C', hc', hm', rfl⟩
      · exact HC.ty C1 hC a
      · exact HC.own C1 hC c' hc' C' hm'
    rw [hop]
    refine PySem.W.cmp_K (op := op) (tb := tb) hr.units0 hF I.ok.mod.kin J ht nf (by rw [hmn]; exact hme.at_) hme.fn ?_
    refine wpAny_mono (run_in1 (A := X.A) (us := [Value.ref p1, z]) (vs := [V.ref p1, w]) (Q := fun r H2 => ∃ b : Bool, r = .bl b ∧ Q (.bl b) H2) hf hr I.env0 tk hb I (.cons rfl (.cons rw' .nil)) ?_) (fun r s' hq => ?_) fun _ _ y => y
    · refine cl g σ [t, u] [V.ref p1, w] _ R (RepL.cons r1 (RepL.cons r2 RepL.nil)) (wpR_bind h fun g2 t2 v2 e2 R2 r2 h2 => ?_)
      unfold fBlB at h2
      split at h2
      · rename_i b
        exact ⟨b, rep_bl r2, wpR_here h2 R2 rBl⟩
      · exact h2.elim
    · obtain ⟨v3, H3, I3, rv3, b, rfl, q3⟩ := hq
      cases rv3
      exact ⟨.bl b, H3, I3, rfl, q3⟩
  · exact h.elim
end
end Mi
end part_Mi16
section part_Mi17
set_option maxRecDepth 100000
set_option maxHeartbeats 2000000
/-! Mi, part 17: properties, isinstance of own classes, C(.., k = v), o.m(.., k = v). -/
namespace Mi
open PySem PySem.Spec PyProof.Rows L2
section
variable {X : Cx} {K : PySem.W.Frag} {mg : Str → Option Value} {W : WX} {g g' : G} {σ : L2.St} {Q : VK} {D : Ends}
variable {a b e : Expr} {ma mb mc me mt : ME} {mr mk : MA} {pos p apos : Pos} {es : List Expr} {c x : Str} {kws : List Keyword}
variable {k n j : Nat} {qual : Str} {st : Stmt} {ps ks : List Str} {dts : List T} {mf : MF} {fm : List T → MH → R}
/-! ### isinstance(x, C), C an own class -/
end
end Mi
end part_Mi17
section part_Mi18
set_option maxRecDepth 100000
set_option maxHeartbeats 2000000
/-! Mi, part 18: calls by keywords with defaults: defs, instances, methods. -/
namespace Mi
open PySem PySem.Spec PyProof.Rows L2
section
variable {X : Cx} {K : PySem.W.Frag} {mg : Str → Option Value} {W : WX} {g g' : G} {σ : L2.St} {Q : VK} {D : Ends}
variable {a b e : Expr} {ma mb mc me mt : ME} {mr mk : MA} {pos p apos : Pos} {es : List Expr} {c x : Str} {kws : List Keyword}
variable {k n j : Nat} {qual : Str} {st : Stmt} {ps ks : List Str} {is : List Nat} {dts : List T} {mf : MF} {fm : List T → MH → R}
/-! ### C(.., k = v) -/
end
end Mi
end part_Mi18
section part_Mi24
set_option maxRecDepth 100000
set_option maxHeartbeats 4000000
/-! Mi, part 24: own exceptions over any built-in base: their class, what their __init__ leaves. -/
namespace Mi
open PySem PySem.Spec PyProof.Rows L2
/-- a built-in base class -/
structure BaseB (B nI iI : String) (mB : List Value) : Prop where
  kf : PySem.W.KxsFacts B iI
  ef : ExcBaseFacts B nI iI mB
  sf : StoreFacts B mB "object.__setattr__" "object"
theorem base_VE : BaseB "ValueError" "ValueError.__new__" "ValueError.__init__" [.type "ValueError", .type "Exception", .type "BaseException", .type "object"] := ⟨PySem.W.kxs_ValueError, F.excBase_ValueError, F.store_ValueError⟩
/-- own classes, then the base's mro -/
def RefsB (mB l : List Value) : Prop := ∃ cs : List Addr, l = cs.map Value.ref ++ mB
theorem refsB_of {mB l : List Value} (h : refsBb mB l = true) : RefsB mB l := by
  have e := of_decide_eq_true h
  have key : ∀ l : List Value, ∃ cs : List Addr, l = cs.map Value.ref ++ l.dropWhile isRefV := by
    intro l
    induction l with
    | nil => exact ⟨[], rfl⟩
    | cons a r ih =>
      obtain ⟨cs, q⟩ := ih
      cases a with
      | ref c => exact ⟨c :: cs, by rw [List.map_cons, List.cons_append, List.dropWhile_cons]; exact congrArg _ q⟩
      | _ => exact ⟨[], rfl⟩
  obtain ⟨cs, q⟩ := key l
  exact ⟨cs, by rw [e] at q; exact q⟩
theorem RefsB.has {mB l : List Value} (h : RefsB mB l) (X : String) : l.contains (.type X) = mB.contains (.type X) := by
  obtain ⟨cs, rfl⟩ := h
  induction cs with
  | nil => rfl
  | cons c cs ih => rw [List.map_cons, List.cons_append, List.contains_cons, ih]; rfl
theorem RefsB.pass {B nI iI : String} {mB l : List Value} (hB : BaseB B nI iI mB) (h : RefsB mB l) (self : Value) : refuseLoop self "__setattr__" l = pure () := by
  obtain ⟨cs, rfl⟩ := h
  induction cs with
  | nil => exact hB.sf.passes self
  | cons c cs ih => rw [List.map_cons, List.cons_append, refuseLoop_ref]; exact ih
theorem RefsB.cons {mB l : List Value} (h : RefsB mB l) (c : Addr) : RefsB mB (.ref c :: l) := by
  obtain ⟨cs, rfl⟩ := h
  exact ⟨c :: cs, rfl⟩
theorem RefsB.obj {B nI iI : String} {mB l : List Value} (hB : BaseB B nI iI mB) (h : RefsB mB l) : l.contains (.type "object") = true := (h.has "object").trans hB.sf.hasOwner
theorem RefsB.ne {B nI iI : String} {mB l : List Value} (hB : BaseB B nI iI mB) (h : RefsB mB l) : l.isEmpty = false := by
  have z := h.obj hB
  cases l with
  | nil => cases z
  | cons _ _ => rfl
/-- what the written part says of the class at C -/
structure OexB (K : PySem.W.Frag) (nI : String) (mB : List Value) (C : Addr) : Prop where
  cls : ∃ nm q N bs bm sn sub ab col dd k0 k1 k2 k3 k5, K.lookup C = some (excClassObj nm q C N bs bm true sn sub ab col dd k0 k1 k2 k3 k5 nI) ∧ RefsB mB bm
  sa : PySem.W.findIn K (.ref C) "__setattr__" = some (some (.builtin "object.__setattr__"))
  exC : PySem.W.subIn K (.ref C) (.type "BaseException") = some true
  tyC : PySem.W.typeIn K (.ref C) = some (.type "type")
  kC : PySem.W.keepIn K (.ref C) = true
section
open Builtin Builtin.ObjectAttr
variable {prog : Program} {w : World} {A : Around} {E : Value → Shared → Prop} {R : Result → Shared → Prop} {hp : Heap} {g : Array GenState} {d : Drawn} {t : Nat} {os : OsState} {B nI iI : String} {mB : List Value}
/-- the walk of object.__setattr__ on such an exception as far as its own dict -/
theorem osaB {K : W.Frag} {name : Str} {tk : Tok} {v : Value} {x C : Addr} {ox : Obj} {od : Option Obj} {cd : ClassData} (hB : BaseB B nI iI mB) (X : K.In hp) (I : W.InstAt hp x ox C od) (hcd : W.clsIn K C = some cd) (hm : RefsB mB cd.mro) (ha : W.findIn K (.ref C) name = some none)
    (hq : wpAny (model prog w) A.in1 (storeInOwnDict (.ref x) (.ref C) (.str name tk) name v false)
      (fun fin s' => match fin with | .done f => R (.ok f) s' | .again c' => c'.quiet = true ∧ codeAny (model prog w) A c' R s') (fun e s' => R (.error e) s') ⟨hp, g, d, t, os⟩) :
    codeAny (model prog w) A (.call (.builtin "object.__setattr__") ⟨[.ref x, .str name tk, v], []⟩) R ⟨hp, g, d, t, os⟩ := by
  have SF := F.store_object
  have sub : W.Looks (model prog w) hp (isInstance (.ref x) (.type "object")) true :=
    I.type.andThen (W.looks_mroIn X (by unfold W.mroIn; rw [hcd, Option.bind_some, if_neg (by rw [hm.ne hB]; decide), hm.obj hB]))
  refine codeAny_call_builtin SF.slot.plain SF.entry (@W.check_slot (model prog w) _ _ ⟨hp, g, d, t, os⟩ "object.__setattr__" "object" "__setattr__" (.ref x) [.str name tk, v] [] _ SF.kind SF.split sub (SF.args (.ref x) (.str name tk) v) ?_)
  have hmr : W.Looks (model prog w) hp (mroOf (.ref C)) cd.mro := (W.looks_clsIn X hcd).andThen .now
  have L3 : W.Looks (model prog w) hp (storeTaker? none) none := .now
  rw [W.osa_eq, refuse_eq]
  refine wpAny_bind (wpAny_bind (I.type.at (wpAny_bind (hmr.at ?_))))
  rw [hm.pass hB]
  exact wpAny_pure (wpAny_bind (I.type.at (wpAny_bind ((W.looks_findIn X ha).at (wpAny_bind (L3.at hq))))))
theorem osaB_new {K : W.Frag} {name : Str} {tk : Tok} {v : Value} {x C : Addr} {fv : Array Value} {cd : ClassData} (hB : BaseB B nI iI mB)
    (X : K.In hp) (hx : hp.get? x = some { cls := .ref C, data := .fields fv }) (hcd : W.clsIn K C = some cd) (hm : RefsB mB cd.mro) (hh : cd.hasDict = true) (ha : W.findIn K (.ref C) name = some none)
    (hq : ∀ h' tk' dx, (∀ b o, b ≠ x → hp.get? b = some o → h'.get? b = some o) → hp.objs.size ≤ dx → dx ≠ x → h'.get? x = some { cls := .ref C, dict := some dx, data := .fields fv } →
      h'.Ns1 dx (fun y => if y = name then some v else none) → R (.ok (.ret .none)) ⟨h', g, d, tk', os⟩) :
    codeAny (model prog w) A (.call (.builtin "object.__setattr__") ⟨[.ref x, .str name tk, v], []⟩) R ⟨hp, g, d, t, os⟩ := by
  have hxs : x ≠ hp.objs.size := Nat.ne_of_lt (Heap.lt_size hx)
  refine osaB hB X (ox := { cls := .ref C, data := .fields fv }) (od := none) ⟨hx, rfl, rfl, trivial⟩ hcd hm ha ?_
  have hcls : W.Looks (model prog w) hp (classData C) cd := W.looks_clsIn X hcd
  obtain ⟨nm, bs, mro, ns, qn, hd, sn, sb, ab, col, del⟩ := cd
  dsimp only at hh
  subst hh
  unfold storeInOwnDict ownDictForStores
  repeat (first | with_reducible refine HandSPX.store_in_new ?_ ?_ | with_reducible refine wpAny_loadPart_at hx ?_ | with_reducible refine hcls.at ?_ | wp_step)
  · exact ⟨_, #[], _, (Heap.get?_update_ne _ _ _ _ hxs.symm).trans (Heap.get?_push_at rfl rfl), rfl, fun e he => absurd he (by simp), fun _ => rfl⟩
  · intro h' tk' hn' hs
    have hx₁ : (hp.push { cls := .type "dict", data := .dict #[] }).get? x = some { cls := .ref C, data := .fields fv } := Heap.get?_push_of_some _ hx
    refine hq h' tk' hp.objs.size (fun b o hb ho => ?_) (Nat.le_refl _) hxs.symm ?_ hn'
    · exact (hs.2 b (Nat.ne_of_lt (Heap.lt_size ho))).trans ((Heap.get?_update_ne _ _ _ _ hb).trans (Heap.get?_push_of_some _ ho))
    · exact (hs.2 x hxs).trans (Heap.get?_update_self _ hx₁ rfl)
theorem osaB_old {K : W.Frag} {name : Str} {tk : Tok} {v : Value} {x C dx : Addr} {fv : Array Value} {cd : ClassData} {m0 : Str → Option Value} {nl : List Str} (hB : BaseB B nI iI mB)
    (X : K.In hp) (hx : hp.get? x = some { cls := .ref C, dict := some dx, data := .fields fv }) (hns : hp.Ns1 dx m0) (hw : Within m0 nl) (hz : nl.length ≤ 1000) (hcd : W.clsIn K C = some cd) (hm : RefsB mB cd.mro) (hh : cd.hasDict = true)
    (ha : W.findIn K (.ref C) name = some none)
    (hq : ∀ h' tk', (∀ b o, b ≠ dx → hp.get? b = some o → h'.get? b = some o) → h'.Ns1 dx (fun y => if y = name then some v else m0 y) → R (.ok (.ret .none)) ⟨h', g, d, tk', os⟩) :
    codeAny (model prog w) A (.call (.builtin "object.__setattr__") ⟨[.ref x, .str name tk, v], []⟩) R ⟨hp, g, d, t, os⟩ := by
  obtain ⟨oD, esD, epD, hoD, hdD, _⟩ := hns.count hw
  refine osaB hB X (ox := { cls := .ref C, dict := some dx, data := .fields fv }) (od := some oD) ⟨hx, rfl, rfl, hoD⟩ hcd hm ha ?_
  have hcls : W.Looks (model prog w) hp (classData C) cd := W.looks_clsIn X hcd
  obtain ⟨nm, bs, mro, ns, qn, hd, sn, sb, ab, col, del⟩ := cd
  dsimp only at hh
  subst hh
  unfold storeInOwnDict ownDictForStores
  repeat (first | with_reducible refine PySem.OEX.store_in_old hns hw hz ?_ | with_reducible refine wpAny_loadPart_at hx ?_ | with_reducible refine hcls.at ?_ | wp_step)
  intro h' tk' hn' hs
  exact hq h' tk' (fun b o hb ho => (hs.2 b hb).trans ho) hn'
end
section
variable {X : Cx} {pins : List (Addr × Obj)} {σ : L2.St} {H : Hp} {s : Shared} {a C dx : Addr} {f : Str} {y : V} {u : Value} {fs : List (Str × V)} {Q : Unit → Shared → Prop} {E : Value → Shared → Prop} {A : Around} {B nI iI : String} {mB : List Value}
/-- self.f = y, the first one -/
theorem ostB_new (hB : BaseB B nI iI mB) (T : OexB X.K nI mB C) (I : Inv X pins σ H s) (e : H a = some (exo a C none)) (hno : PySem.W.findIn X.K (.ref C) f = some none) (ry : RelV y u)
    (h : ∀ dx s', H dx = none → dx ≠ a → Inv X pins σ (upd (upd H dx (exd dx [(f, y)])) a (exo a C (some dx))) s' → Q () s') : wpAny (model X.prog X.w) A (setAttr (.ref a) f u) Q E s := by
  obtain ⟨nm, q, N, bs, bm, sn, sub, ab, col, dd, k0, k1, k2, k3, k5, hC, hbm⟩ := T.cls
  have hcl : PySem.W.clsIn X.K C = some { name := nm, bases := bs, mro := .ref C :: bm, ns := N, qualname := q, hasDict := true, slotNames := sn, subclasses := sub, abstract := ab, collection := col, hasDel := false } := by unfold PySem.W.clsIn; rw [hC] <;> rfl
  obtain ⟨t1, ho⟩ := exo_at I.hok e
  obtain ⟨hp, g, d, t, os⟩ := s
  refine PySem.W.set_plain I.kIn (ox := { cls := .ref C, dict := none, data := .fields #[.ref t1, .none, .none, .none, .bool false, .none] }) (od := none) ⟨ho, rfl, rfl, trivial⟩ T.sa ?_
  refine osaB_new hB I.kIn ho hcl (hbm.cons C) rfl hno (fun h' tk' dx k dn dne hx hn => ?_)
  have hnd : H dx = none := I.hok.fresh dn
  have nd : ∀ {b : Addr} {o : Obj}, hp.get? b = some o → b ≠ dx := fun {b o} q => Nat.ne_of_lt (Nat.lt_of_lt_of_le (Heap.lt_size q) dn)
  have na : ∀ {b : Addr}, H b = none → b ≠ a := fun {b} n z => by
    rw [z, e] at n
    cases n
  have Un1 : Un X.fs [] H (upd (upd H dx (exd dx [(f, y)])) a (exo a C (some dx))) hp h' := {
    keep := fun b o q n _ _ => k b o (na n) q
    slot := fun b o q n _ _ => ⟨o.slots, k b o (na n) q⟩
    free := fun b o q n _ => by rw [upd_ne (na n), upd_ne (nd q)]; exact n
    there := fun b o q _ => by
      by_cases hb : b = a
      · exact ⟨_, by rw [hb]; exact hx⟩
      · exact ⟨o, k b o hb q⟩
    tups := fun b xs q => by rw [upd_ne (at_ne e q exo_tup), upd_ne (ne_of_none q hnd)]; exact q
    frzs := fun b o v q => by rw [upd_ne (at_ne e q exo_frz), upd_ne (ne_of_none q hnd)]; exact q
    tbls := fun b ps q => ⟨#[], by rw [upd_ne (at_ne e q exo_tbl), upd_ne (ne_of_none q hnd), q]; simp⟩ }
  refine h dx _ hnd dne (I.un (t' := tk') Un1 fun b o q => ?_)
  by_cases hb : b = a
  · subst hb
    rw [upd_same] at q
    cases q
    exact exo_ok hx
  · rw [upd_ne hb] at q
    by_cases hd : b = dx
    · subst hd
      rw [upd_same] at q
      cases q
      exact exd_ok hn (relO_put (fs := []) ry fun g => True.intro)
    · rw [upd_ne hd] at q
      exact (I.hok b o q).stay (fun c v hc z => k c v (by
          rcases hc with hc | hc
          · rw [hc]
            exact hb
          · exact at_ne e hc exo_own) z)
        (fun c hc => by rw [upd_ne (at_ne e hc exo_own), upd_ne (ne_of_none hc hnd)]; exact hc) (fun c xs hc => by rw [upd_ne (at_ne e hc exo_tup), upd_ne (ne_of_none hc hnd)]; exact hc)
/-- self.f = y, a further one -/
theorem ostB_old (hB : BaseB B nI iI mB) (T : OexB X.K nI mB C) (I : Inv X pins σ H s) (e : H a = some (exo a C (some dx))) (ed : H dx = some (exd dx fs)) (hl : fs.length ≤ 900) (hno : PySem.W.findIn X.K (.ref C) f = some none) (ry : RelV y u)
    (h : ∀ s', Inv X pins σ (upd H dx (exd dx ((f, y) :: fs))) s' → Q () s') : wpAny (model X.prog X.w) A (setAttr (.ref a) f u) Q E s := by
  obtain ⟨nm, q, N, bs, bm, sn, sub, ab, col, dd, k0, k1, k2, k3, k5, hC, hbm⟩ := T.cls
  have hcl : PySem.W.clsIn X.K C = some { name := nm, bases := bs, mro := .ref C :: bm, ns := N, qualname := q, hasDict := true, slotNames := sn, subclasses := sub, abstract := ab, collection := col, hasDel := false } := by unfold PySem.W.clsIn; rw [hC] <;> rfl
  obtain ⟨t1, ho⟩ := exo_at I.hok e
  obtain ⟨mA, hns, rel⟩ := exd_at I.hok ed
  have hw := within_of rel
  obtain ⟨hp, g, d, t, os⟩ := s
  obtain ⟨oD, _, _, hoD, _, _⟩ := hns.count hw
  refine PySem.W.set_plain I.kIn (ox := { cls := .ref C, dict := some dx, data := .fields #[.ref t1, .none, .none, .none, .bool false, .none] }) (od := some oD) ⟨ho, rfl, rfl, hoD⟩ T.sa ?_
  refine osaB_old hB I.kIn ho hns hw (by rw [List.length_map]; omega) hcl (hbm.cons C) rfl hno (fun h' tk' k hn => ?_)
  have hd : ∃ o, h'.get? dx = some o := by
    obtain ⟨o, _, _, e', _⟩ := hn
    exact ⟨o, e'⟩
  exact h _ (I.write (t' := tk') (x := dx) (e := dx) (o := exd dx ((f, y) :: fs)) (by rw [ed]; exact True.intro) (.inl rfl) k hd (exd_ok hn (relO_put ry rel)))
end
/-- self.f = e in such an __init__ -/
def tOstB (K : PySem.W.Frag) (nI : String) (mB : List Value) (f : Str) (to te : TE) : TS := fun D σ H => te σ H fun y H1 => to σ H1 fun x H2 => ∃ a C : Addr, x = .ref a ∧ OexB K nI mB C ∧ PySem.W.findIn K (.ref C) f = some none ∧
  ((H2 a = some (exo a C none) ∧ ∀ dx, H2 dx = none → dx ≠ a → D.nx σ (upd (upd H2 dx (exd dx [(f, y)])) a (exo a C (some dx)))) ∨
    ∃ (dx : Addr) (fs : List (Str × V)), H2 a = some (exo a C (some dx)) ∧ H2 dx = some (exd dx fs) ∧ fs.length ≤ 900 ∧ D.nx σ (upd H2 dx (exd dx ((f, y) :: fs))))
theorem psB_ost {X : Cx} {o e : Expr} {to te : TE} {f : Str} {p' pos : Pos} {B nI iI : String} {mB : List Value} (hB : BaseB B nI iI mB) (ho : PE X o to) (he : PE X e te) (hs : swapsWith e (some (.Attribute o f p')) pos.line X.env = pure false := by rfl) : PS X (.Assign [.Attribute o f p'] e pos) (tOstB X.K nI mB f to te) := by
  refine ⟨fun pins s σ H D I h => ?_⟩
  refine plainObj_wpAny_Assign_Attribute (thn (he.run pins s σ H _ I h) fun v s1 ⟨y, H1, I1, r1, q1⟩ => thn (ho.run pins s1 σ H1 _ I1 q1) fun u s2 ⟨x, H2, I2, r2, a, C, ex, T, hno, q⟩ => ?_) hs
  subst ex
  obtain rfl : u = Value.ref a := r2
  rcases q with ⟨ea, q⟩ | ⟨dx, fs, ea, ed, hl, q⟩
  · exact ostB_new hB T I2 ea hno r1 fun dx s' n ne J => ⟨σ, _, J, q dx n ne⟩
  · exact ostB_old hB T I2 ea ed hl hno r1 fun s' J => ⟨σ, _, J, q⟩
end Mi
end part_Mi24
section part_Mi25
set_option maxRecDepth 100000
set_option maxHeartbeats 4000000
/-! Mi, part 25: super().__init__(..) in an own exception over any built-in base; its __init__ as a def. -/
namespace Mi
open PySem PySem.Spec PyProof.Rows L2
section
variable {prog : Program} {w : World} {A : Around} {E : Value → Shared → Prop} {h : Heap} {g : Array GenState} {d : Drawn} {t : Nat} {os : OsState}
variable {B nI iI : String} {mB : List Value} {nm q : Str} {C N : Addr} {bs bm : List Value} {hdct : Bool} {sn : List Str} {sub : List Value} {ab : Bool} {col : Option Bool} {dd : Option Addr} {k0 k1 k2 k3 k5 : Option Value}
theorem mw_callB (hB : BaseB B nI iI mB) {u e t0 : Addr} {rest : List Value} {Q : Value → Shared → Prop}
    (hC : h.get? C = some (excClassObj nm q C N bs bm hdct sn sub ab col dd k0 k1 k2 k3 k5 nI)) (he : h.get? e = some (HandSPX.excO C t0)) (hu : h.get? u = some (PySem.W.kxs_mw iI e)) (hrest : rest.length ≤ sizeLine)
    (hq : ∀ h' t1, (∀ b o, b ≠ e → h.get? b = some o → h'.get? b = some o) → h'.get? e = some (HandSPX.excO C t1) → Q .none ⟨h', g, d, t, os⟩) :
    wpAny (model prog w) A (call (.ref u) rest) Q E ⟨h, g, d, t, os⟩ := by
  refine wpAny_call (codeAny_of_tree ?_)
  show wpAny _ A.in1 (callAny (.ref u) ⟨rest, []⟩) _ _ _
  simp only [callAny]
  refine wpAny_bind (wpAny_load hu ?_)
  simp only [PySem.W.kxs_mw, show (Value.type "method-wrapper" == Value.type "method" || Value.type "method-wrapper" == Value.type "builtin_function_or_method" || Value.type "method-wrapper" == Value.type "method-wrapper") = true by decide, if_true]
  refine W.KFB.if_so (by decide) ?_
  refine wpAny_bind (PySem.ESX.check_bound hB.ef hC he rfl ?_)
  refine wpAny_bind (wpAny_pure (wpAny_pure ?_))
  refine ⟨plainId_quiet hB.ef.init.plain _, codeAny_builtin hB.ef.initEntry ?_⟩
  refine PySem.W.exc_init_tree (cls := .ref C) (t0 := t0) (dv := none) (c2 := .none) (c3 := .none) (b4 := .bool false) he hrest fun h' k1 k2 k3 => ?_
  exact hq h' _ k1 k2
end
section
variable {prog : Program} {w : World} {A : Around} {E : Value → Shared → Prop} {s : Shared} {K : PySem.W.Frag} {env : Env} {f cda cc x C : Addr} {m mg mb : Str → Option Value}
/-- super().__init__(e), at the code of its def -/
theorem supB_stmt {B nI iI : String} {mB : List Value} (hB : BaseB B nI iI mB) {P0 : Program} {body : List Stmt} {p0 p1 p2 p4 p5 : Pos} {e : Expr} {fd : FuncData} {ar : Arg} {vs : Array Value} {file : Str} {tf : Tok} {oc ccl cl : Value} {od cdd cld : Option Addr} {osl ccs csl : Array (Option Value)} {t1 : Addr} {Q : Flow → Shared → Prop}
    (X : K.In s.heap) (T : OexB K nI mB C) (hg : s.heap.Ns mainGlobals mg) (hb : s.heap.Ns builtinsNs mb) (hbb : mb "super" = some (.type "super")) (hms : mg "super" = none) (eg : env.globals = mainGlobals) (eb : env.builtins = builtinsNs) (hns : s.heap.Ns env.locals m)
    (hfu : env.func = some f) (hco : env.code = .ref cda) (hcell : env.cells.lookup ("__class__" : Str) = some cc)
    (hf : K.lookup f = some ⟨oc, od, .func fd, osl⟩) (hp : (fd.params.posonlyargs ++ fd.params.args).head? = some ar) (hv : m ar.arg = some (.ref x))
    (hcode : K.lookup cda = some ⟨ccl, cdd, .fields vs, ccs⟩) (hvs : vs[2]? = some (.str file tf)) (hfile : ((prog.main.file : Str) == file) = true)
    (hcc : K.lookup cc = some ⟨cl, cld, .cell (some (.ref C)), csl⟩) (hsub : PySem.W.mroIn K C (.ref C) = some true) (ho : PySem.W.nsIn K cStatics "thirdparty.any" = some none) (hsi : PySem.W.ks_superIn K C C "__init__" = some (some (.builtin iI))) (hVE : PySem.W.subIn K (.ref C) (.type B) = some true)
    (hks : env.scope.names.lookup ("super" : Str) = some .globalImplicit) (hkc : env.scope.names.lookup ("__class__" : Str) = some .free) (hka : env.scope.names.lookup ar.arg = some .local) (hk : env.scope.kind = .function)
    (htop : (prog.main.scope.names.lookup ("super" : Str)).isSome = false) (hx : s.heap.get? x = some (HandSPX.excO C t1))
    (he : ∀ s' (R : Value → Shared → Prop), (∀ v tk, R v { s' with toks := tk }) → wpAny (model prog w) A (eval e env) R E s')
    (hi : interactive env = false) (hpl : (backTo p4 (starEach [] env)).any (·.1) = false) (hnil : backTo p4 (starEach [] env) = []) (hst : starEach [e] env = (false, eval e env) :: starEach [] env)
    (hsw : swapsWith (.Call (.Attribute (.Call (.Name "super" p0) [] [] p1) "__init__" p2) [e] [] p4) none p5.line env = pure false)
    {pl : Sem Bool} (hev : eval (.Call (.Attribute (.Call (.Name "super" p0) [] [] p1) "__init__" p2) [e] [] p4) env = (do
      let ov ← attributeBase (.Call (.Name "super" p0) [] [] p1) "__init__" env (eval (.Call (.Name "super" p0) [] [] p1) env)
      standAt p2.atName
      let (f, first) ← holding [ov] (getMethod ov "__init__" pl)
      callWith p4 f first (backTo p4 (starEach [e] env)) []))
    (h : ∀ h' tk t2, (∀ b o, b ≠ x → s.heap.get? b = some o → h'.get? b = some o) → h'.get? x = some (HandSPX.excO C t2) → Q .next { s with heap := h', toks := tk }) :
    PySem.wpAt (model prog w) A (.func body env) (exec (.Expr (.Call (.Attribute (.Call (.Name "super" p0) [] [] p1) "__init__" p2) [e] [] p4) p5) env) Q E s := by
  obtain ⟨nm, qn, N, bs, bm, sn, sub, ab, col, dd, k0, k1, k2, k3, k5, hC, hbm⟩ := T.cls
  obtain ⟨cdC, hcd⟩ : ∃ cd, PySem.W.clsIn K C = some cd := by
    unfold PySem.W.ks_superIn at hsi
    cases q : PySem.W.clsIn K C with
    | none => rw [q] at hsi; cases hsi
    | some cd => exact ⟨cd, rfl⟩
  obtain ⟨oD, hD1, hD2⟩ : ∃ oD, s.heap.get? C = some oD ∧ oD.data = .cls cdC := by
    unfold PySem.W.clsIn at hcd
    split at hcd
    · rename_i c d cd' sl ho'
      cases hcd
      exact ⟨_, X _ _ ho', rfl⟩
    · cases hcd
  obtain ⟨hh, g, d, t, os⟩ := s
  refine PySem.ks_wpAt_Expr_any (PySem.ks_wpAt_MethodCall (pl := pl) (PySem.ks_wpAt_super_base (env := env) hks hkc (by decide) hfu (X _ _ hf) rfl hp hco (X _ _ hcode) rfl hvs hfile htop ?_) hev) hi hsw
  refine PySem.W.ks_loadName_global hk hks (Calls.loadGlobal_builtin (by rw [eg]; exact hg) hms (by rw [eb]; exact hb) hbb ⟨rfl, ?_⟩)
  refine wpAny_loadName_free hk hkc hcell ⟨_, X _ _ hcc, rfl⟩ ?_
  refine wpAny_loadName_local hk hka hns hv ?_
  refine PySem.ks_wpAny_isType_cls hD1 hD2 ⟨rfl, ?_⟩
  refine PySem.ks_wpAny_call_super hD1 hD2 hx rfl (fun c z => by cases z) (PySem.W.looks_mroIn X hsub) (fun h1 e1 k1 => ?_)
  have X1 : K.In h1 := fun b o z => k1 b o (X b o z)
  have hx1 : h1.get? x = some (HandSPX.excO C t1) := k1 _ _ hx
  have I1 : PySem.W.InstAt h1 x (HandSPX.excO C t1) C none := ⟨hx1, rfl, rfl, trivial⟩
  have hal : PySem.W.alongIn K "__init__" ((cdC.mro.dropWhile (· != .ref C)).drop 1) = some (some (.builtin iI)) := by
    unfold PySem.W.ks_superIn at hsi
    rw [hcd] at hsi
    exact hsi
  refine PySem.W.kxs_getMethod hB.kf e1 (PySem.W.looks_opaque X1 ho) (l₀ := cdC.mro) (fun A Q E s k q => wpAny_bind ((PySem.W.looks_clsIn X1 hcd) A _ E s k (wpAny_pure q))) rfl X1 hal (I1.type.andThen (PySem.W.looks_subIn X1 hVE)) (PySem.W.ks_ne X1 I1 hcd) (by decide) ?_
  have hmw : (h1.push (PySem.W.kxs_mw iI x)).get? h1.objs.size = some (PySem.W.kxs_mw iI x) := Heap.get?_push_size h1 rfl
  have k2 : ∀ b o, h1.get? b = some o → (h1.push (PySem.W.kxs_mw iI x)).get? b = some o := fun b o z => Heap.get?_push_of_some _ z
  rw [hst]
  refine PySem.W.kxs_callWith (i := iI) (x := x) (by show (false || (backTo p4 (starEach [] env)).any (·.1)) = false; rw [hpl]; rfl) (Calls.evalArgs_plain (Calls.spliced_cons (he _ _ fun v tk => ?_)))
  show wpAny _ _ (spliced (backTo p4 (starEach [] env))) _ _ _
  rw [hnil]
  refine Calls.spliced_nil ⟨hmw, ?_⟩
  refine mw_callB hB (t0 := t1) (by exact k2 _ _ (X1 _ _ hC)) (k2 _ _ hx1) hmw (by show 1 ≤ sizeLine; rw [sizeLine_eq]; omega) fun h' t2 k3 e3 => ?_
  exact h h' _ t2 (fun b o nb z => k3 b o nb (k2 b o (k1 b o z))) e3
end
open NdefX (NF envF ncx startF NScope CellsAt inv_startN)
/-- what the written part says of it -/
structure SupB (B nI iI : String) (mB : List Value) (P : Program) (K : PySem.W.Frag) (mg : Str → Option Value) (C f cc : Addr) (F : NF) (doc pm ctv : Value) : Prop where
  fn : ∃ oc od osl, K.lookup f = some ⟨oc, od, .func (F.fd doc pm ctv), osl⟩
  cl : F.cl = [(("__class__" : Str), cc)]
  cd : PySem.W.codeIn K (.ref F.c) F.qual = true
  file : ∃ ccl cdd vs ccs file tf, K.lookup F.c = some ⟨ccl, cdd, .fields vs, ccs⟩ ∧ vs[2]? = some (.str file tf) ∧ ((P.main.file : Str) == file) = true
  cell : ∃ cl cld csl, K.lookup cc = some ⟨cl, cld, .cell (some (.ref C)), csl⟩
  sub : PySem.W.mroIn K C (.ref C) = some true
  op : PySem.W.nsIn K cStatics "thirdparty.any" = some none
  si : PySem.W.ks_superIn K C C "__init__" = some (some (.builtin iI))
  ve : PySem.W.subIn K (.ref C) (.type B) = some true
  ex : OexB K nI mB C
  top : (P.main.scope.names.lookup ("super" : Str)).isSome = false
  ms : mg "super" = none
/-- the text of its first row -/
structure SupT (F : NF) (ps : List Str) (z : Str) (j : Nat) (p0 p1 p2 p3 p4 p5 : Pos) (rest : List Stmt) : Prop where
  body : F.body = .Expr (.Call (.Attribute (.Call (.Name "super" p0) [] [] p1) "__init__" p2) [.Constant (.str z) j p3] [] p4) p5 :: rest
  ks : F.scope.names.lookup ("super" : Str) = some .globalImplicit
  arg : ∃ ar, (F.params.posonlyargs ++ F.params.args).head? = some ar ∧ ps.head? = some ar.arg
  ev : ∀ f L : Addr, ∃ pl : Sem Bool, eval (.Call (.Attribute (.Call (.Name "super" p0) [] [] p1) "__init__" p2) [.Constant (.str z) j p3] [] p4) (envF F f L) = (do
      let ov ← attributeBase (.Call (.Name "super" p0) [] [] p1) "__init__" (envF F f L) (eval (.Call (.Name "super" p0) [] [] p1) (envF F f L))
      standAt p2.atName
      let (f1, first) ← holding [ov] (getMethod ov "__init__" pl)
      callWith p4 f1 first (backTo p4 (starEach [.Constant (.str z) j p3] (envF F f L))) [])
theorem supInitB_ok {B nI iI : String} {mB : List Value} (hB : BaseB B nI iI mB) {P : Program} {w : World} {K : PySem.W.Frag} {mg : Str → Option Value} {base : Heap} {CX : CXT} {k : Nat} {C f cc : Addr} {F : NF} {doc pm ctv : Value} {N ps : List Str} {rest : List Stmt} {sp : Sp} (U : SupB B nI iI mB P K mg C f cc F doc pm ctv) {z : Str} {j : Nat} {p0 p1 p2 p3 p4 p5 : Pos} (V1 : SupT F ps z j p0 p1 p2 p3 p4 p5 rest) (S : NScope N ps ["__class__"] F.scope)
    (len : ∀ vs H Q E, sp vs H Q E → vs.length = ps.length) (self : ∀ vs H Q E, sp vs H Q E → ∃ a zs, vs = .ref a :: zs ∧ H a = some (exo a C none))
    (hrest : ∀ (A : Around) (outer : List Env) (s : Shared) (H : Hp) (vs : List V) (Q : VK) (E : XK), Room k (A.deeper (envF F f s.heap.objs.size)) → sp vs H Q E →
      ∃ t, PSs (ncx CX P w K mg base N F f A outer s H E) rest t ∧ t { nx := fun _ H' => Q .non H', rt := Q } (startF N vs [some (V.ref C)]) H) :
    FnOk P w K mg base CX (k + 1) f (F.fd doc pm ctv) ps sp := by
  refine ⟨len, fun A outer s H args us vs Q E hr e0 hb r hsp => ?_⟩
  have hl := len _ _ _ _ hsp
  obtain ⟨a, zs, rfl, ha⟩ := self _ _ _ _ hsp
  have lim : s.heap.NoLimit := e0.mod.nolimit.keeps fun b o e => (e0.bs b o e).1
  have KI : K.In s.heap := fun b o z => (e0.bs b o (e0.mod.kin b o z)).1
  obtain ⟨oc, od, osl, hf⟩ := U.fn
  obtain ⟨ccl, cdd, cvs, ccs, file, tf, hcode, hvs, hfile⟩ := U.file
  obtain ⟨cl, cld, csl, hcc⟩ := U.cell
  have hccs : s.heap.get? cc = some ⟨cl, cld, .cell (some (.ref C)), csl⟩ := KI _ _ hcc
  have hccH : H cc = none := (e0.bs _ _ (e0.mod.kin _ _ hcc)).2
  refine codeAny_call_function hr.depth (KI _ _ hf) rfl S.co S.gen rfl (PySem.W.codeRec_of KI U.cd) (hb _ _ _ _ ?_)
  refine wpAny_newFunctionEnv S.nocell (fun ⟨n, _⟩ hy => S.par n (List.of_mem_zip hy).1) (fun h1 hns hsb => ⟨lim.fresh _ hsb, ?_⟩) S.kind
  have kp : ∀ b o, s.heap.get? b = some o → h1.get? b = some o := fun b o e => hsb.extBut b o (Nat.ne_of_lt (Heap.lt_size e)) (Heap.get?_push_of_some _ e)
  have Cel : CellsAt F.cl ["__class__"] [some (V.ref C)] s.heap H := by
    rw [U.cl]
    refine ⟨rfl, fun y c e => ?_, fun x y c e1 e2 => ?_, fun i y e => ?_⟩
    · rw [List.lookup_cons] at e
      split at e
      · cases e; exact ⟨hccH, some (.ref C), _, hccs, rfl⟩
      · cases e
    · rw [List.lookup_cons] at e1 e2
      split at e1
      · rename_i q1
        split at e2
        · rename_i q2
          rw [eq_of_beq q1, eq_of_beq q2]
        · cases e2
      · cases e1
    · cases i with
      | zero =>
        cases e
        refine ⟨cc, by simp [List.lookup_cons], fun v hv => ?_⟩
        cases hv
        exact ⟨.ref C, rfl, _, hccs, rfl⟩
      | succ i => simp at e
  have I : Inv (ncx CX P w K mg base N F f A outer s H E) [] (startF N (.ref a :: zs) [some (V.ref C)]) H { s with heap := h1, toks := s.toks + (ps.zip us).length } := inv_startN S hr.hd e0 hl r Cel hns kp
  obtain ⟨t, ht, hq⟩ := hrest A outer s H (.ref a :: zs) Q E (hr.deeper _) hsp
  have hbody := V1.body
  obtain ⟨pl, hev⟩ := V1.ev f s.heap.objs.size
  obtain ⟨ar, har, hps⟩ := V1.arg
  show codeAny _ _ (.func F.body (envF F f s.heap.objs.size)) _ _
  refine PySem.ks_codeAny_funcAt ?_
  have hx : execs F.body (envF F f s.heap.objs.size) = execs (.Expr (.Call (.Attribute (.Call (.Name "super" p0) [] [] p1) "__init__" p2) [.Constant (.str z) j p3] [] p4) p5 :: rest) (envF F f s.heap.objs.size) := by rw [hbody]
  rw [hx]
  refine PySem.ks_wpAt_execs_cons ?_
  obtain ⟨tt, htt⟩ := exo_at I.hok ha
  have X1 : K.In h1 := fun b o z => kp _ _ (KI b o z)
  obtain ⟨mb, hmb, hmbb⟩ := e0.mod.blt
  have g1 : h1.Ns mainGlobals mg := (e0.mod.glob.keeps fun b o z => (e0.bs b o z).1).keeps kp
  have g2 : h1.Ns builtinsNs mb := (hmb.keeps fun b o z => (e0.bs b o z).1).keeps kp
  have har' : (F.params.posonlyargs ++ F.params.args).head? = some ar := har
  have hlen : us.length = ps.length := by rw [← r.length]; exact hl
  have hv : (ps.zip us).reverse.lookup ar.arg = some (.ref a) := by
    cases ps with
    | nil => cases hps
    | cons q qs =>
      cases r with
      | cons r1 r2 =>
        cases r1
        cases hps
        refine NdefX.zip_look (i := 0) ?_ rfl rfl
        have q : (List.take ((ar.arg :: qs).length + [("__class__" : Str)].length) N).Nodup := S.nd.sublist (List.take_sublist ((ar.arg :: qs).length + [("__class__" : Str)].length) N)
        rw [S.pre] at q
        exact (List.nodup_append.mp q).1
  have hin : interactive (envF F f s.heap.objs.size) = false := by
    show (F.scope.kind == .module && _) = false
    rw [S.kind]
    rfl
  refine supB_stmt hB (K := K) (P0 := P) (C := C) (x := a) (f := f) (cc := cc) (ar := ar) X1 U.ex g1 g2 ?_ U.ms rfl rfl hns rfl rfl ?_ hf har' hv hcode hvs hfile hcc U.sub U.op U.si U.ve V1.ks ?_ ?_ S.kind U.top htt ?_ hin rfl rfl rfl rfl hev ?_
  · rw [hmbb _ (by decide)]; rfl
  · show F.cl.lookup _ = _
    rw [U.cl]; rfl
  · exact S.frk _ (List.mem_singleton.mpr rfl)
  · exact S.par _ (by cases ps with | nil => cases hps | cons q qs => cases hps; exact List.mem_cons_self ..)
  · intro s' R hR
    exact Calls.Constant_str (hR _ _)
  · intro h' tk t2 k hx'
    refine wpAt_of_wpAny ?_
    have J0 := I.write (t' := tk) (x := a) (e := a) (o := exo a C none) (by rw [ha]; exact True.intro) (.inl rfl) k ⟨_, hx'⟩ (exo_ok hx')
    have eu : upd H a (exo a C none) = H := by
      funext b
      by_cases hb : b = a
      · rw [hb, upd_same, ha]
      · rw [upd_ne hb]
    rw [eu] at J0
    refine wpAny_mono (ht.run [] _ (startF N (.ref a :: zs) [some (V.ref C)]) H _ J0 hq) (fun fl s' hs => ?_) fun e s' hs => hs
    have fin : ∀ {σ' : L2.St} {H' : Hp} {v : V} {u : Value}, Inv (ncx CX P w K mg base N F f A outer s H E) [] σ' H' s' → L2.RelV v u → Q v H' → CE outer P w H s Q u s' :=
      fun {σ' H' v u} J rv q => ⟨v, H', J.os, J.bare, J.base, J.hok, rv, q⟩
    cases fl with
    | ret u =>
      obtain ⟨v, σ', H', J, rv, q⟩ := hs
      exact fin J rv q
    | next =>
      obtain ⟨σ', H', J, q⟩ := hs
      exact fin (v := V.non) (u := Value.none) J rfl q
    | brk =>
      obtain ⟨_, _, _, q⟩ := hs
      exact False.elim q
    | cont =>
      obtain ⟨_, _, _, q⟩ := hs
      exact False.elim q
end Mi
end part_Mi25
section part_Mi26
set_option maxRecDepth 100000
set_option maxHeartbeats 4000000
/-! Mi, part 26: an own exception as a value: made, its fields. -/
namespace Mi
open PySem PySem.Spec PyProof.Rows L2
open NdefX (NF envF ncx startF NScope CellsAt inv_startN)
/-! ### the texts of such an __init__ -/
def supE (z : Str) (j : Nat) (p0 p1 p2 p3 p4 p5 : Pos) : Stmt := .Expr (.Call (.Attribute (.Call (.Name "super" p0) [] [] p1) "__init__" p2) [.Constant (.str z) j p3] [] p4) p5
def asgC (t z : Str) (j : Nat) (q0 q1 q2 q3 : Pos) : Stmt := .Assign [.Attribute (.Name "self" q0) t q1] (.Constant (.str z) j q2) q3
def asgN (f : Str) (q0 q1 q2 q3 : Pos) : Stmt := .Assign [.Attribute (.Name "self" q0) f q1] (.Name f q2) q3
def spE0 (C : Addr) (z : Str) : Sp := fun vs H Q _ => ∃ a, vs = [V.ref a] ∧ H a = some (exo a C none) ∧ ∀ d, H d = none → d ≠ a → Q .non (upd (upd H d (exd d [("tag", .str z)])) a (exo a C (some d)))
def spE1 (C : Addr) (z f : Str) : Sp := fun vs H Q _ => ∃ a y, vs = [V.ref a, y] ∧ H a = some (exo a C none) ∧ ∀ d, H d = none → d ≠ a → Q .non (upd (upd (upd H d (exd d [("tag", .str z)])) a (exo a C (some d))) d (exd d [(f, y), ("tag", .str z)]))
/-- the call of super().__init__ is a plain method call -/
def SupEv (z : Str) (j : Nat) (p0 p1 p2 p3 p4 : Pos) : Prop := ∀ env : Env, ∃ pl : Sem Bool, eval (.Call (.Attribute (.Call (.Name "super" p0) [] [] p1) "__init__" p2) [.Constant (.str z) j p3] [] p4) env = (do
      let ov ← attributeBase (.Call (.Name "super" p0) [] [] p1) "__init__" env (eval (.Call (.Name "super" p0) [] [] p1) env)
      standAt p2.atName
      let (f1, first) ← holding [ov] (getMethod ov "__init__" pl)
      callWith p4 f1 first (backTo p4 (starEach [.Constant (.str z) j p3] env)) [])
section
variable {P : Program} {w : World} {K : PySem.W.Frag} {mg : Str → Option Value} {base : Heap} {CX : CXT} {k : Nat} {C f cc : Addr} {F : NF} {doc pm ctv : Value} {B nI iI : String} {mB : List Value}
theorem exn1_ok (hB : BaseB B nI iI mB) (U : SupB B nI iI mB P K mg C f cc F doc pm ctv) (hT : PySem.W.findIn K (.ref C) "tag" = some none) {z x : Str} (hX : PySem.W.findIn K (.ref C) x = some none) {j j2 : Nat} {p0 p1 p2 p3 p4 p5 q0 q1 q2 q3 r0 r1 r2 r3 : Pos} (hb : F.body = [supE z j p0 p1 p2 p3 p4 p5, asgC "tag" z j2 q0 q1 q2 q3, asgN x r0 r1 r2 r3]) (hev : SupEv z j p0 p1 p2 p3 p4)
    (S : NScope ["self", x, "__class__"] ["self", x] ["__class__"] F.scope) (ks : F.scope.names.lookup ("super" : Str) = some .globalImplicit) (arg : ∃ ar, (F.params.posonlyargs ++ F.params.args).head? = some ar ∧ ar.arg = ("self" : Str))
    (hd : (x == ("__debug__" : Str)) = false) (hcd : (x == ("__classdict__" : Str)) = false) :
    FnOk P w K mg base CX (k + 1) f (F.fd doc pm ctv) ["self", x] (spE1 C z x) := by
  obtain ⟨ar, ha, hs⟩ := arg
  refine supInitB_ok hB U ⟨hb, ks, ⟨ar, ha, by rw [hs]; rfl⟩, fun f L => hev _⟩ S (fun vs H Q E ⟨a, y, e, _⟩ => by rw [e]; rfl) (fun vs H Q E ⟨a, y, e, h, _⟩ => ⟨a, [y], e, h⟩) ?_
  intro A outer s H vs Q E hr ⟨a, y, e, h1, h2⟩
  subst e
  refine ⟨_, pss_cons (psB_ost hB (pe_var (i := 0) (x := "self") rfl (.inl (S.par _ (List.mem_cons_self ..)))) pe_str rfl) (pss_cons (psB_ost hB (pe_var (i := 0) (x := "self") rfl (.inl (S.par _ (List.mem_cons_self ..)))) (pe_var (i := 1) (x := x) rfl (.inl (S.par _ (List.mem_cons_of_mem _ (List.mem_cons_self ..)))) hd hcd) rfl) pss_nil), ?_⟩
  refine ⟨V.ref a, rfl, a, C, rfl, U.ex, hT, .inl ⟨h1, fun d n1 n2 => ?_⟩⟩
  refine ⟨y, rfl, V.ref a, rfl, a, C, rfl, U.ex, hX, .inr ⟨d, _, upd_same, ?_, ?_, h2 d n1 n2⟩⟩
  · rw [upd_ne n2, upd_same]
  · exact Nat.le_of_ble_eq_true rfl
end
end Mi
end part_Mi26
section part_Mi27
set_option maxRecDepth 100000
set_option maxHeartbeats 4000000
/-! Mi, part 27: C(e) as a value, C an own exception. -/
namespace Mi
open PySem PySem.Spec PyProof.Rows L2
section
variable {X : Cx} {pins : List (Addr × Obj)} {σ : L2.St} {H : Hp} {s : Shared} {a C d : Addr} {fs : List (Str × V)}
/-- the made exception is called so from now on -/
theorem Inv.named (I : Inv X pins σ H s) (ea : H a = some (exo a C (some d))) (ed : H d = some (exd d fs)) (ne : d ≠ a) : Inv X pins σ (upd (upd H d (.xd fs)) a (XO C a d)) s := by
  obtain ⟨hp, g, dr, t, os⟩ := s
  obtain ⟨t1, ho⟩ := exo_at I.hok ea
  obtain ⟨mA, hns, rel⟩ := exd_at I.hok ed
  have nn : ∀ {b : Addr}, H b = none → b ≠ a ∧ b ≠ d := fun {b} n => ⟨fun z => (by rw [z, ea] at n; cases n), fun z => (by rw [z, ed] at n; cases n)⟩
  have U : Un X.fs [] H (upd (upd H d (.xd fs)) a (XO C a d)) hp hp := {
    keep := fun b o q n _ _ => q
    slot := fun b o q n _ _ => ⟨o.slots, q⟩
    free := fun b o q n _ => by rw [upd_ne (nn n).1, upd_ne (nn n).2]; exact n
    there := fun b o q _ => ⟨o, q⟩
    tups := fun b xs q => by rw [upd_ne (at_ne ea q exo_tup), upd_ne (at_ne ed q exd_tup)]; exact q
    frzs := fun b o v q => by
      rw [upd_ne (at_ne ea q exo_frz), upd_ne (at_ne ed q fun z => by have z' : HO.ext _ = HO.frz o v := z; cases z')]; exact q
    tbls := fun b ps q => ⟨#[], by rw [upd_ne (at_ne ea q exo_tbl), upd_ne (at_ne ed q fun z => by have z' : HO.ext _ = HO.tbl ps := z; cases z'), q]; simp⟩ }
  refine I.un (t' := t) U fun b o q => ?_
  by_cases hb : b = a
  · subst hb
    rw [upd_same] at q
    cases q
    exact ⟨⟨_, _, ho, ⟨rfl, rfl⟩, rfl⟩, ⟨_, ho⟩, fun h1 h2 ⟨oe, vs, e1, e2⟩ k => ⟨oe, vs, k _ e1, e2⟩⟩
  · rw [upd_ne hb] at q
    by_cases hd : b = d
    · subst hd
      rw [upd_same] at q
      cases q
      exact ⟨mA, hns, rel⟩
    · rw [upd_ne hd] at q
      exact (I.hok b o q).stay (fun c v hc z => z)
        (fun c hc => by rw [upd_ne (at_ne ea hc exo_own), upd_ne (at_ne ed hc exd_own)]; exact hc) (fun c xs hc => by rw [upd_ne (at_ne ea hc exo_tup), upd_ne (at_ne ed hc exd_tup)]; exact hc)
end
/-- an own exception class, its __init__ done -/
structure ExC (P : Program) (w : World) (K : PySem.W.Frag) (mg : Str → Option Value) (base : Heap) (k : Nat) (c : Str) (ps : List Str) (sp : Addr → Sp) (C fI : Addr) (fd : FuncData) (nI : String) (mB : List Value) : Prop where
  cn : mg c = some (.ref C)
  T : OexB K nI mB C
  iC : PySem.W.findIn K (.ref C) "__init__" = some (some (.ref fI))
  tI : PySem.W.typeIn K (.ref fI) = some (.type "function")
  ok : FnOk P w K mg base (L2.CX P w) k fI fd ps (sp C)
/-- its values bound to its parameters, whatever stands around -/
def BindsEv (fd : FuncData) (args : Args) (r : List (Str × Value)) : Prop := ∀ s : Shared, BindsTo s fd args r
section
variable {X : Cx} {K : PySem.W.Frag} {mg : Str → Option Value} {W : WX} {g : G} {σ : L2.St} {Q : VK}
variable {e : Expr} {ma : ME} {mr : MA} {pos p : Pos} {es : List Expr} {c x z : Str} {k : Nat} {ps : List Str} {sp : Addr → Sp} {C fI : Addr} {fd : FuncData} {B nI iI : String} {mB : List Value}
end
/-- a class of one field, of none -/
def HasE1 (P : Program) (w : World) (K : PySem.W.Frag) (mg : Str → Option Value) (base : Heap) (k : Nat) (c z f : Str) : Prop :=
  ∃ B nI iI mB C fI fd, BaseB B nI iI mB ∧ ExC P w K mg base k c ["self", f] (fun C => spE1 C z f) C fI fd nI mB ∧ (∀ u v : Value, BindsEv fd ⟨[u, v], []⟩ [("self", u), (f, v)]) ∧ (∀ u v : Value, BindsEv fd ⟨[u], [(f, v)]⟩ [("self", u), (f, v)])
def HasE0 (P : Program) (w : World) (K : PySem.W.Frag) (mg : Str → Option Value) (base : Heap) (k : Nat) (c z : Str) : Prop :=
  ∃ B nI iI mB C fI fd, BaseB B nI iI mB ∧ ExC P w K mg base k c ["self"] (fun C => spE0 C z) C fI fd nI mB ∧ (∀ u : Value, BindsEv fd ⟨[u], []⟩ [("self", u)])
abbrev HasE1X (X : Cx) := HasE1 X.prog X.w X.K X.mg X.base
section
variable {X : Cx} {K : PySem.W.Frag} {mg : Str → Option Value} {W : WX} {g : G} {σ : L2.St} {Q : VK}
variable {e : Expr} {ma : ME} {mr : MA} {pos p : Pos} {es : List Expr} {c f z : Str} {k : Nat}
def fExn1 (c z f : Str) : List T → MH → R := fun ts h => match ts with
  | [y] => .ok (.exn c [f, "tag"] [y, .str z]) h
  | _ => .stuck
end
end Mi
end part_Mi27
section part_Mi28
set_option maxRecDepth 100000
set_option maxHeartbeats 4000000
/-! Mi, part 28: C(f = e), C an own exception. -/
namespace PySem
namespace MiX
open Builtin Builtin.ObjectAttr
section
variable {prog : Program} {w : World} {A : Around} {E : Value → Shared → Prop} {R : Result → Shared → Prop} {h : Heap} {g : Array GenState} {d : Drawn} {t : Nat} {os : OsState}
variable {nm q : Str} {C N : Addr} {bs bm bmB : List Value} {hdct : Bool} {sn : List Str} {sub : List Value} {ab : Bool} {col : Option Bool} {dd : Option Addr} {k0 k1 k2 k3 k5 : Option Value} {B newId initId : String} {kw : List (Str × Value)}
end
end MiX
end PySem
end part_Mi28
section part_Mi46
set_option maxRecDepth 100000
set_option maxHeartbeats 4000000
/-! Mi, part 46: raise C(), raise C(e). -/
namespace Mi
open PySem PySem.Spec PyProof.Rows L2
section
variable {X : Cx} {pins : List (Addr × Obj)} {σ : L2.St} {H : Hp} {s : Shared}
/-- the state without an object that was made here -/
theorem inv_untrack {a : Addr} {φ : Heap → Prop} {G : Heap} (I : Inv X pins σ H s) (ha : H a = some (.ext φ)) (n0 : X.s_0.heap.get? a = none) (hG : ∀ b, b ≠ a → G.get? b = s.heap.get? b) : Inv X pins σ (hMinus H [a]) { s with heap := G } := by
  have mo : ∀ b, b ≠ a → hMinus H [a] b = H b := fun b h => minus_out (by simpa using h)
  have nn : ∀ {b : Addr}, H b = none → b ≠ a := fun {b} n z => by rw [z, ha] at n; cases n
  have n0' : ∀ b o, X.s_0.heap.get? b = some o → b ≠ a := fun b o e z => by rw [z, n0] at e; cases e
  have g : ∀ b o, b ≠ a → s.heap.get? b = some o → G.get? b = some o := fun b o n e => (hG b n).trans e
  have HO_ne : ∀ (b : Addr) (u : HO), H b = some u → (∀ φ, u ≠ .ext φ) → b ≠ a := fun b u e n z => by
    rw [z, ha] at e
    exact n φ (Option.some.inj e).symm
  refine ⟨I.ok, I.os, I.bare, ⟨fun b o e n hb hx => g b o (n0' b o e) (I.base.keep b o e n hb hx), fun b o e n hb hx => ?_, fun b o e n hx => ?_, fun b o e hx => ?_, fun b xs e => ?_, fun b ob u e => ?_, fun b ps e => ?_⟩, ?_, fun y c e => ?_, ?_, fun y c e => ?_, fun p hp => ?_, fun b u e => ?_, I.len⟩
  · obtain ⟨sl, q⟩ := I.base.slot b o e n hb hx
    exact ⟨sl, g b _ (n0' b o e) q⟩
  · rw [mo b (n0' b o e)]; exact I.base.free b o e n hx
  · obtain ⟨o', q⟩ := I.base.there b o e hx
    exact ⟨o', g b _ (n0' b o e) q⟩
  · have q := I.base.tups b xs e
    rw [mo b (HO_ne b _ q fun φ z => by cases z)]; exact q
  · have q := I.base.frzs b ob u e
    rw [mo b (HO_ne b _ q fun φ z => by cases z)]; exact q
  · obtain ⟨more, q⟩ := I.base.tbls b ps e
    exact ⟨more, by rw [mo b (HO_ne b _ q fun φ z => by cases z)]; exact q⟩
  · obtain ⟨m, ⟨o, es, ep, ho, r⟩, hl⟩ := I.loc
    refine ⟨m, ⟨o, es, ep, g _ o (nn I.free) ho, r⟩, fun i x v e1 e2 e3 => ?_⟩
    obtain ⟨u, ru, lu⟩ := hl i x v e1 e2 e3
    refine ⟨u, ru, lu.imp id fun ⟨k, c, hc, oc, hoc, hd⟩ => ⟨k, c, hc, oc, g c oc (nn (I.freeC x c hc)) hoc, hd⟩⟩
  · obtain ⟨v, o, ho, hd⟩ := I.cell y c e
    exact ⟨v, o, g c o (nn (I.freeC y c e)) ho, hd⟩
  · rw [mo _ (nn I.free)]; exact I.free
  · rw [mo _ (nn (I.freeC y c e))]; exact I.freeC y c e
  · obtain ⟨h1, h2, h3, h4, h5⟩ := I.pin p hp
    exact ⟨g _ _ (nn h2) h1, by rw [mo _ (nn h2)]; exact h2, h3, h4, h5⟩
  · by_cases hb : b = a
    · rw [hb, minus_in (by simp)] at e; cases e
    · rw [mo b hb] at e
      refine (I.hok b u e).stay (fun b' v hv q => g b' v ?_ q) (fun b' q => ?_) fun b' xs q => ?_
      · rcases hv with z | z
        · rw [z]; exact hb
        · exact HO_ne b' _ z fun φ z => by cases z
      · rw [mo b' (HO_ne b' _ q fun φ z => by cases z)]; exact q
      · rw [mo b' (HO_ne b' _ q fun φ z => by cases z)]; exact q
end
section
variable {X : Cx} {K : PySem.W.Frag} {mg : Str → Option Value} {W : WX} {g : G} {σ : L2.St} {Q : XK}
variable {e : Expr} {ma : ME} {mr : MA} {pos p rp : Pos} {es : List Expr} {c x z f : Str} {k : Nat} {ps : List Str} {sp : Addr → Sp} {C fI : Addr} {fd : FuncData} {B nI iI : String} {mB : List Value}
/-- the call of the class, for a raise -/
theorem exn_mk (hB : BaseB B nI iI mB) (h : ExC X.prog X.w X.K X.mg X.base k c ps sp C fI fd nI mB) (hr : Room (k + 1) X.A) (tk : Takes X W) {pins : List (Addr × Obj)} {H1 : Hp} {us : List Value} {vs : List V} {s1 : Shared} (I1 : Inv X pins σ H1 s1) (r1 : Vals vs us) (hbs : ∀ u : Value, BindsEv fd ⟨u :: us, []⟩ (ps.zip (u :: us))) (hl : vs.length ≤ 1000)
    (hn : ∀ a, H1 a = none → sp C (.ref a :: vs) (upd H1 a (exo a C none)) (fun v H2 => v = .non ∧ ∃ d fs, H2 a = some (exo a C (some d)) ∧ H2 d = some (exd d fs) ∧ d ≠ a ∧ Q (.ref C) (some d) (hMinus (upd (upd H2 d (.xd fs)) a (XO C a d)) [a])) (WE W σ)) :
    wpAny (model X.prog X.w) X.A (call (.ref C) us) (MkP X pins σ Q) X.xe s1 := by
  have hz : X.s_0.heap.objs.size ≤ s1.heap.objs.size := I1.sz
  obtain ⟨nm, q, N, bs, bm, sn, sub, ab, col, dd, k0, k1, k2, k3, k5, hC, hbm⟩ := h.T.cls
  obtain ⟨hp, g, dr, tk', os⟩ := s1
  have hsz : hp.objs.size ≤ hp.objs.size + 1 := Nat.le_succ _
  have nn : H1 (hp.objs.size + 1) = none := I1.hok.fresh hsz
  have hq := hn (hp.objs.size + 1) nn
  have kk : ∀ b o, hp.get? b = some o → ((hp.push (PySem.W.kdv_tup us)).push (PySem.HandSPX.excO C hp.objs.size)).get? b = some o := fun b o e => Heap.get?_push_of_some _ (Heap.get?_push_of_some _ e)
  have hget : ((hp.push (PySem.W.kdv_tup us)).push (PySem.HandSPX.excO C hp.objs.size)).get? (hp.objs.size + 1) = some (PySem.HandSPX.excO C hp.objs.size) := by heap_get
  have I2 : Inv X pins σ (upd H1 (hp.objs.size + 1) (exo (hp.objs.size + 1) C none)) ⟨(hp.push (PySem.W.kdv_tup us)).push (PySem.HandSPX.excO C hp.objs.size), g, dr, tk', os⟩ :=
    I1.laid (t' := tk') (a := hp.objs.size + 1) (o := exo (hp.objs.size + 1) C none) (h' := (hp.push (PySem.W.kdv_tup us)).push (PySem.HandSPX.excO C hp.objs.size)) kk hsz (exo_ok hget)
  have r2 : Vals (V.ref (hp.objs.size + 1) :: vs) (Value.ref (hp.objs.size + 1) :: us) := .cons rfl r1
  have hus : us.length ≤ sizeLine := by
    rw [← Paired.length r1, sizeLine_eq]
    omega
  have z := code_at h.ok (hr.make C us []) (I2.env0.make C us []) (passAt tk σ) I2 (hbs (Value.ref (hp.objs.size + 1)) _) r2 hq
  have n0 : X.s_0.heap.get? (hp.objs.size + 1) = none := Heap.get?_none_of_le (Nat.le_trans hz hsz)
  refine wpAny_call (PySem.HandSPX.call_own hB.ef hbm.has (I1.kIn _ _ hC) (PySem.W.looks_findIn I1.kIn h.iC) (fun self => PySem.W.bind_fn I1.kIn self h.tI) hus (codeAny_mono z fun r s' hq' => ?_))
  cases r with
  | error er => exact hq'
  | ok fl =>
    cases fl with
    | ret u =>
      obtain ⟨v, H2, I3, rv, ev, d, fs, ea, ed, ne, q2⟩ := hq'
      subst ev
      obtain ⟨t1, ho⟩ := exo_at I3.hok ea
      have I4 := Inv.named I3 ea ed ne
      obtain ⟨Gr, G1, G2⟩ := restrict s'.heap fun b => !decide (b = hp.objs.size + 1)
      have g1 : ∀ b, b ≠ hp.objs.size + 1 → Gr.get? b = s'.heap.get? b := fun b n => G1 b (by simpa using n)
      have g2 : Gr.get? (hp.objs.size + 1) = none := G2 _ (by simp)
      have I5 := inv_untrack (G := Gr) I4 (show upd (upd H2 d (.xd fs)) (hp.objs.size + 1) (XO C (hp.objs.size + 1) d) (hp.objs.size + 1) = some (.ext _) from upd_same) n0 g1
      refine ⟨rv, hp.objs.size + 1, _, _, { s' with heap := Gr }, _, .ref C, some d, rfl, I5, fun b o e => ?_, g2, ho, ⟨rfl, rfl⟩, rfl, rfl, minus_in (by simp), rfl, I3.bare, raises_own h.T.exC h.T.tyC, q2⟩
      have nb : b ≠ hp.objs.size + 1 := fun z => by rw [z, g2] at e; cases e
      exact (g1 b nb).symm.trans e
    | _ => exact hq'.elim
/-- the exception's fields stand, its object does not -/
theorem exn_flies {C a d : Addr} {ns : List Str} {ts : List T} {fs : List (Str × V)} {H2 : Hp} {P : Value → Option Addr → Hp → Prop} (R : Rel K mg g) (hC : mg c = some (.ref C)) (ha : g.H a = none) (hd : g.H d = none) (ne : d ≠ a) (hn : fs.map (·.1) = ns) (rf : RepL K mg g ts (fs.map (·.2))) (hH : ∀ b, b ≠ a → b ≠ d → H2 b = g.H b)
    (h : ∀ g', g'.h = g.h → Ext g g' → Rel K mg g' → RepX K mg g' ⟨c, ns, ts⟩ (.ref C) (some d) → P (.ref C) (some d) g'.H) : P (.ref C) (some d) (hMinus (upd (upd H2 d (.xd fs)) a (XO C a d)) [a]) := by
  have e : hMinus (upd (upd H2 d (.xd fs)) a (XO C a d)) [a] = upd g.H d (.xd fs) := by
    funext b
    by_cases h1 : b = a
    · rw [h1, minus_in (by simp), upd_ne (Ne.symm ne)]
      exact ha.symm
    · rw [minus_out (by simpa using h1), upd_ne h1]
      by_cases h2 : b = d
      · rw [h2, upd_same, upd_same]
      · rw [upd_ne h2, upd_ne h2, hH b h1 h2]
  rw [e]
  have e0 : Ext g (g.lay d (.xd fs)) := lay_ext R hd
  exact h (g.lay d (.xd fs)) rfl e0 (R.lay hd) ⟨C, d, fs, rfl, hC, rfl, ⟨upd_same, R.nohid hd⟩, hn, rf.mono e0⟩
def mRaise (f : List T → MH → R) (mr : MA) : MS := fun s h => match mr s h with
  | .ok ts h1 => match f ts h1 with
    | .ok (.exn c ns vs) h2 => .ex ⟨c, ns, vs⟩ s h2
    | _ => .stuck
  | .ex x h1 => .ex x s h1
  | .stuck => .stuck
/-- raise C(e) -/
theorem ss_raise1 (Hx : HasE1X X k c z f) (hr : Room (k + 1) X.A) (hc : X.calm = true) (tk : Takes X W) (ha : SE X W e ma) (hg : Gl X c := by rfl) (hdb : (c == ("__debug__" : Str)) = false := by decide)
    (he : starEach [e] X.env = (false, eval e X.env) :: starEach [] X.env := by rfl) (hpl : (backTo pos (starEach [] X.env)).any (·.1) = false := by rfl) :
    SS X W (.Raise (some (.Call (.Name c p) [e] [] pos)) none rp) (mRaise (fExn1 c z f) (aCons ma aNil)) := by
  obtain ⟨B, nI, iI, mB, C, fI, fd, hB, h, hb, _⟩ := Hx
  have mk : PMk X (.Call (.Name c p) [e] [] pos) (fun σ H Q => tMA X.K X.mg W (aCons ma aNil) σ H fun vs H1 => ∃ g t y, g.H = H1 ∧ vs = [y] ∧ Rel X.K X.mg g ∧ Rep X.K X.mg g t y ∧ ∀ g' C d, g'.h = g.h → Ext g g' → Rel X.K X.mg g' → RepX X.K X.mg g' ⟨c, [f, "tag"], [t, .str z]⟩ (.ref C) (some d) → Q (.ref C) (some d) g'.H) := by
    intro pins s σ H Q I q
    refine wpAny_Call_Name_kw (ld_glob I hg h.cn ?_ hdb)
    refine PySem.W.callWith_K (h₀ := X.base) I.ok.mod.kin h.T.kC (thn ((sa_cons ha sa_nil he).run pos pins s σ H _ I q) fun us s1 ⟨vs, H1, I1, r, g, t, y, eH, ev, R, ry, q2⟩ => ⟨I1.kIn, ?_⟩) he hpl
    subst eH ev
    refine exn_mk hB h hr tk I1 r (fun u => ?_) (show 1 ≤ 1000 by omega) fun a hn => ?_
    · cases r with
      | cons r1 r2 =>
        cases r2
        exact hb u _
    · refine ⟨a, y, rfl, upd_same, fun d hd ne => ⟨rfl, d, _, ?_, upd_same, ne, ?_⟩⟩
      · rw [upd_ne (Ne.symm ne), upd_same]
      · refine exn_flies (ns := [f, "tag"]) (ts := [t, .str z]) (P := Q) R h.cn hn (by rw [upd_ne ne] at hd; exact hd) ne rfl (RepL.cons ry (RepL.cons rStr RepL.nil)) (fun b h1 h2 => ?_) (fun g' e1 e2 e3 e4 => q2 g' C d e1 e2 e3 e4)
        rw [upd_ne h2, upd_ne h1, upd_ne h2, upd_ne h1]
  refine weakS (ps_raise hc tk mk) ?_
  rintro D σ H ⟨g, s, rfl, R, S, q⟩
  refine ⟨g, s, rfl, R, S, ?_⟩
  unfold mRaise at q
  cases q1 : aCons ma aNil s g.h with
  | ok ts h1 =>
    rw [q1] at q
    intro g1 vs e1 e2 R1 r1
    match ts, r1, q with
    | [t], r1, q =>
      obtain ⟨y, ey, ry⟩ := r1.one
      exact ⟨g1, t, y, rfl, ey, R1, ry, fun g' C d x1 x2 x3 x4 => q g' σ (.ref C) (some d) (x1.trans e1) (e2.trans x2) x3 (S.mono (e2.trans x2)) x4⟩
    | [], r1, q => exact q.elim
    | _ :: _ :: _, r1, q => exact q.elim
  | ex y h1 =>
    rw [q1] at q
    exact fun g1 cls d e1 e2 R1 r1 => q g1 σ cls d e1 e2 R1 (S.mono e2) r1
  | stuck => rw [q1] at q; exact q.elim
end
end Mi
end part_Mi46
section part_Mi29
set_option maxRecDepth 100000
set_option maxHeartbeats 4000000
/-! Mi, part 29: C(f = e); the fields of an exception, isinstance of it. -/
namespace Mi
open PySem PySem.Spec PyProof.Rows L2
section
variable {X : Cx} {K : PySem.W.Frag} {mg : Str → Option Value} {W : WX} {g : G} {σ : L2.St} {Q : VK}
variable {a e : Expr} {ma : ME} {mr : MA} {pos p kp : Pos} {es : List Expr} {c f z : Str} {k : Nat}
/-! ### e.f -/
/-- what the classes must have for f to be read off their exceptions -/
def FldX (K : PySem.W.Frag) (mg : Str → Option Value) (cs : List Str) (f : Str) : Prop := ∀ c ∈ cs, ∀ C, mg c = some (.ref C) → XfC K C ∧ PySem.W.findIn K (.ref C) f = some none
def fFldX (cs : List Str) (f : Str) : T → MH → R := fun t h => match t with
  | .exn c ns ts => if cs.contains c then (match fldOf f ns ts with
    | some u => .ok u h
    | none => .stuck) else .stuck
  | _ => .stuck
/-- the object of an exception that is tracked -/
theorem xo_at {P : Program} {w : World} {H : Hp} {h : Heap} {C a d : Addr} {fs : List (Str × V)} (hok : HOk P w H h) (ea : H a = some (XO C a d)) (ed : H d = some (.xd fs)) :
    ∃ (oe od : Obj) (mA : Str → Option Value), PySem.W.InstAt h a oe C (some od) ∧ (∀ name, PySem.W.lookIn name od = some (mA name)) ∧ ∀ f, RelO (fs.lookup f) (mA f) := by
  have x : ObjOk P w H h a (.ext fun h => ∃ (oe : Obj) (vs : Array Value), h.get? a = some oe ∧ Zc (.ref C) (some d) oe ∧ oe.data = .fields vs) := hok a _ ea
  obtain ⟨⟨oe, vs, e1, e2, e3⟩, _⟩ := x
  obtain ⟨mA, hns, hr⟩ := (show ObjOk P w H h d (.xd fs) from hok d _ ed)
  obtain ⟨od, ho, hl⟩ := lookIn_ns hns
  exact ⟨oe, od, mA, ⟨e1, e2.1, by unfold PySem.W.notCls; rw [e3] <;> rfl, by rw [e2.2]; exact ho⟩, hl, hr⟩
theorem se_fldX {cs : List Str} (hC : FldX X.K X.mg cs f) (ha : SE X W a ma) (hb : attributeBase a f X.env (eval a X.env) = eval a X.env := by rfl) : SE X W (.Attribute a f pos) (m1 (fFldX cs f) ma) := by
  refine ⟨fun pins s σ H Q I q => ?_⟩
  obtain ⟨g, s0, rfl, R, S, q⟩ := q
  refine attr_of hb (thn (ha.run pins s σ g.H _ I ⟨g, s0, rfl, R, S, wpR_bind (Q := Q) q (Q' := fun v H1 => ∃ g1 t, g1.H = H1 ∧ Rel X.K X.mg g1 ∧ Rep X.K X.mg g1 t v ∧ wpR X.K X.mg W g1 σ Q (fFldX cs f t g1.h)) fun g1 t v e1 R1 r1 h1 => ⟨g1, t, rfl, R1, r1, h1⟩⟩) fun u s1 ⟨x, H1, I1, rx, g1, t, eH, R1, r1, h1⟩ => ?_)
  subst eH
  unfold fFldX at h1
  split at h1
  · rename_i cc ns ts
    split at h1
    · rename_i hc
      split at h1
      · rename_i y hy
        simp only [Rep] at r1
        obtain ⟨p1, C, d, fs, rfl, ⟨ea, _⟩, ⟨ed, _⟩, hm, hn, rf⟩ := r1
        obtain rfl : u = Value.ref p1 := rx
        obtain ⟨T, hno⟩ := hC cc (by simpa using hc) C hm
        obtain ⟨w', hw, rw'⟩ := fld_of hn rf hy
        obtain ⟨oe, od, mA, J, hl, hr⟩ := xo_at I1.hok ea ed
        obtain ⟨u', hu, ru⟩ := RelO.some_of (v := w') (o := mA f) (by rw [← hw]; exact hr f)
        exact HandSPX.exc_get I1.kIn J T.ga T.gg T.exC (PySem.W.findObj_own T.hdC hno rfl (by rw [hl, hu])) (handed_of ru) ⟨w', g1.H, I1.tok _, ru, wpR_here h1 R1 rw'⟩
      · exact h1.elim
    · exact h1.elim
  · exact h1.elim
/-! ### isinstance -/
end
end Mi
end part_Mi29
section part_Mi30
set_option maxRecDepth 100000
set_option maxHeartbeats 4000000
/-! Mi, part 30: the head's facts, own exceptions too (their __init__ has a closure; cStatics is looked at). -/
namespace Mi
open PySem PySem.Spec PyProof.Rows L2
theorem SaysY.def_ {fa : List He.Fa} {fn : List He.DefD} {sf : List Pth} {ex : PySem.W.Frag → Bool} {K : PySem.W.Frag} (c : SaysY fa fn sf ex K) (i : Nat) {q : Pth} (h : sf[i]? = some q := by rfl) : fnS K (q.1 K) = sVal q.2 := by
  have e2 : (sf.map fun q => fnS K (q.1 K))[i]? = (sf.map fun q => sVal q.2)[i]? := by rw [c.sf]
  rw [List.getElem?_map, List.getElem?_map, h] at e2
  exact Option.some.inj e2
/-! ### an own exception -/
theorem oexB_ok {K : PySem.W.Frag} {C : Addr} {nI : String} {mB : List Value} (h : oexB K C nI mB = true) : ∃ nm q N bs bm sn sub ab col dd k0 k1 k2 k3 k5, K.lookup C = some (excClassObj nm q C N bs bm true sn sub ab col dd k0 k1 k2 k3 k5 nI) ∧ RefsB mB bm := by
  unfold oexB at h
  split at h
  · rename_i ty dd cd sl q
    split at h
    · rename_i C' bm k0 k1 k2 k3 n k5 hm hs
      obtain ⟨h1, h⟩ := bb h
      obtain ⟨h2, h⟩ := bb h
      obtain ⟨h3, h⟩ := bb h
      obtain ⟨h4, h⟩ := bb h
      obtain ⟨h5, h6⟩ := bb h
      have e1 := of_decide_eq_true h1
      have e2 := of_decide_eq_true h2
      have e3 := of_decide_eq_true h3
      obtain ⟨nm, bs, mro, ns, qn, hd, sn, sub, ab, col, del⟩ := cd
      dsimp only at hm h4 h5
      subst e1 e2 e3 hm
      have e4 : del = false := by cases del <;> simp_all
      subst h5 e4
      have hsl : sl = #[k0, k1, k2, k3, some (.builtin n), k5] := by
        obtain ⟨l⟩ := sl
        simp only at hs
        rw [hs]
      subst hsl
      exact ⟨nm, qn, ns, bs, bm, sn, sub, ab, col, dd, k0, k1, k2, k3, k5, q, refsB_of h6⟩
    · cases h
  · cases h
/-- what is told of the class, all at once -/
theorem exn_told {P : Program} {K : PySem.W.Frag} {mg : Str → Option Value} {h : Heap} {file c : Str} {B nI iI : String} {mB : List Value} {fs : List Str} {d : He.DefD} (X : K.In h) (G : h.Ns mainGlobals mg) (b : exnB K file c B nI iI mB fs = true) (e : fnS K (He.fAd K (c, some ini)) = sVal d)
    (hf : P.main.file = file) (ht : (P.main.scope.names.lookup ("super" : Str)).isSome = false) :
    mg c = some (.ref (He.ga K c)) ∧ PySem.W.findIn K (.ref (He.ga K c)) "__init__" = some (some (.ref (He.fAd K (c, some ini)))) ∧ PySem.W.typeIn K (.ref (He.fAd K (c, some ini))) = some (.type "function") ∧ (∀ f ∈ fs, PySem.W.findIn K (.ref (He.ga K c)) f = some none) ∧
      ∃ cc cd doc pm ctv, SupB B nI iI mB P K mg (He.ga K c) (He.fAd K (c, some ini)) cc ⟨d.name, d.qual, d.params, d.body, d.scope, [("__class__", cc)], cd⟩ doc pm ctv := by
  unfold exnB at b
  obtain ⟨b1, b⟩ := bb b
  obtain ⟨b2, b⟩ := bb b
  obtain ⟨b3, b⟩ := bb b
  obtain ⟨b4, b⟩ := bb b
  obtain ⟨b5, b⟩ := bb b
  obtain ⟨b6, b⟩ := bb b
  obtain ⟨b7, b⟩ := bb b
  obtain ⟨b8, b⟩ := bb b
  obtain ⟨b9, b⟩ := bb b
  obtain ⟨c1, b⟩ := bb b
  obtain ⟨c2, b⟩ := bb b
  obtain ⟨c3, b⟩ := bb b
  obtain ⟨c4, b⟩ := bb b
  obtain ⟨c5, c6⟩ := bb b
  refine ⟨PySem.W.mg_of X G (He.eqO_ok b1), He.eqO_ok b7, of_decide_eq_true b8, fun f hf => He.eqO_ok (List.all_eq_true.mp c6 f hf), ?_⟩
  unfold fnS sVal at e
  split at b9
  · rename_i oc od n1 q n3 n4 n5 n6 y cc n7 n8 cd n9 n10 osl lk
    rw [lk] at e
    have e2 : (some (n1, q, n3, n4, n5, n6, n10) : FnS) = some (d.name, d.qual, d.params, .stmts d.body, d.scope, mainGlobals, builtinsNs) := e
    simp only [Option.some.injEq, Prod.mk.injEq] at e2
    obtain ⟨h1, h2, h3, h4, h5, h6, h8⟩ := e2
    subst h1 h2 h3 h4 h5 h6 h8
    obtain ⟨d1, d2⟩ := bb b9
    obtain ⟨d2, d3⟩ := bb d2
    obtain ⟨d3, d4⟩ := bb d3
    have ey := of_decide_eq_true d1
    subst ey
    refine ⟨cc, cd, n7, n8, n9, ⟨⟨oc, od, osl, lk⟩, rfl, d2, ?_, ?_, of_decide_eq_true c1, He.eqO_ok c2, He.eqO_ok c3, of_decide_eq_true c4, ⟨oexB_ok b2, He.eqO_ok b3, of_decide_eq_true b4, of_decide_eq_true b5, b6⟩, ht, PySem.W.mg_none_of X G (He.eqO_ok c5)⟩⟩
    · split at d3
      · rename_i ccl cdd vs ccs lk2
        split at d3
        · rename_i fl tf q3
          exact ⟨ccl, cdd, vs, ccs, fl, tf, lk2, q3, by rw [hf]; exact d3⟩
        · cases d3
      · cases d3
    · split at d4
      · rename_i cl cld C' csl lk3
        have eC := of_decide_eq_true d4
        subst eC
        exact ⟨cl, cld, csl, lk3⟩
      · cases d4
  · cases b9
section
variable {P : Program} {w : World} {K : PySem.W.Frag} {mg : Str → Option Value} {base h : Heap} {file c : Str} {B nI iI : String} {mB : List Value} {fs : List Str} {d : He.DefD}
theorem hasE1_of (hB : BaseB B nI iI mB) (X : K.In h) (G : h.Ns mainGlobals mg) (b : exnB K file c B nI iI mB fs = true) (e : fnS K (He.fAd K (c, some ini)) = sVal d) (hf : P.main.file = file) (ht : (P.main.scope.names.lookup ("super" : Str)).isSome = false) (hm : ("tag" : Str) ∈ fs)
    {z f : Str} (hm2 : f ∈ fs) {j j2 : Nat} {p0 p1 p2 p3 p4 p5 q0 q1 q2 q3 r0 r1 r2 r3 : Pos} (hb : d.body = [supE z j p0 p1 p2 p3 p4 p5, asgC "tag" z j2 q0 q1 q2 q3, asgN f r0 r1 r2 r3]) (hev : SupEv z j p0 p1 p2 p3 p4)
    (S : NdefX.nscB ["self", f, "__class__"] ["self", f] ["__class__"] d.scope = true) (ks : d.scope.names.lookup ("super" : Str) = some .globalImplicit) (arg : ∃ ar, (d.params.posonlyargs ++ d.params.args).head? = some ar ∧ ar.arg = ("self" : Str))
    (hdb : (f == ("__debug__" : Str)) = false) (hcd : (f == ("__classdict__" : Str)) = false)
    (b1 : ∀ (cl : List (Str × Addr)) (cd : Addr) (doc pm ctv u v : Value), bindArgs (PySem.W.fnX d.name d.qual d.params d.body d.scope cl .none .none doc pm none (.ref cd) ctv) ⟨[u, v], []⟩ = pure [(("self" : Str), u), (f, v)])
    (b2 : ∀ (cl : List (Str × Addr)) (cd : Addr) (doc pm ctv u v : Value), bindArgs (PySem.W.fnX d.name d.qual d.params d.body d.scope cl .none .none doc pm none (.ref cd) ctv) ⟨[u], [(f, v)]⟩ = pure [(("self" : Str), u), (f, v)]) : HasE1 P w K mg base 1 c z f := by
  obtain ⟨h1, h2, h3, h4, cc, cd, doc, pm, ctv, U⟩ := exn_told X G b e hf ht
  exact ⟨B, nI, iI, mB, _, _, _, hB, ⟨h1, U.ex, h2, h3, exn1_ok hB U (h4 _ hm) (h4 _ hm2) hb hev (NdefX.nscope_by S) ks arg hdb hcd⟩, fun u v s => .of_eq (b1 _ _ _ _ _ _ _), fun u v s => .of_eq (b2 _ _ _ _ _ _ _)⟩
theorem HasE0.up {j k : Nat} {z : Str} (x : HasE0 P w K mg base j c z) (l : j ≤ k) : HasE0 P w K mg base k c z := by
  obtain ⟨B, nI, iI, mB, C, fI, fd, hB, h, hb⟩ := x
  exact ⟨B, nI, iI, mB, C, fI, fd, hB, ⟨h.cn, h.T, h.iC, h.tI, h.ok.mono l⟩, hb⟩
theorem HasE1.up {j k : Nat} {z f : Str} (x : HasE1 P w K mg base j c z f) (l : j ≤ k) : HasE1 P w K mg base k c z f := by
  obtain ⟨B, nI, iI, mB, C, fI, fd, hB, h, hb⟩ := x
  exact ⟨B, nI, iI, mB, C, fI, fd, hB, ⟨h.cn, h.T, h.iC, h.tI, h.ok.mono l⟩, hb⟩
end
/-! ### the other facts of exceptions, as Bools -/
theorem fldXB_ok {K : PySem.W.Frag} {mg : Str → Option Value} {h : Heap} {cs : List Str} {f : Str} (X : K.In h) (G : h.Ns mainGlobals mg) (b : fldXB K cs f = true) : FldX K mg cs f := fun c hc C hC => by
  obtain ⟨b1, b2⟩ := bb (List.all_eq_true.mp b c hc)
  obtain ⟨b2, b3⟩ := bb b2
  have e := PySem.W.mg_of X G (He.eqO_ok b1)
  rw [hC] at e
  cases e
  exact ⟨xfB_ok b2, He.eqO_ok b3⟩
end Mi
end part_Mi30
section part_Mi47
set_option maxRecDepth 100000
set_option maxHeartbeats 2000000
/-! Mi, part 47: a law whose def makes lambdas: its promise, the head. -/
namespace Mi
open PySem PySem.Spec PyProof.Rows L2
/-- the law's promise, whatever the frame's place L -/
def spML (K : PySem.W.Frag) (mg : Str → Option Value) (n : Nat) (m : Nat → MF) : Sp := fun vs H Q E => ∃ g ts, g.H = H ∧ Rel K mg g ∧ RepL K mg g ts vs ∧ ts.length = n ∧ ∀ L, wpD K mg g Q E (m L ts g.h)
/-- where the law's code object and its table stand -/
def CodeAt (K : PySem.W.Frag) (f c : Addr) : Prop := ∀ (oc : Value) (od : Option Addr) (osl : Array (Option Value)) (fd : FuncData), K.lookup f = some ⟨oc, od, .func fd, osl⟩ → fd.code = .ref c
theorem def_okL {P : Program} {w : World} {K : PySem.W.Frag} {mg : Str → Option Value} {base : Heap} {x qual : Str} {params : Arguments} {body : List Stmt} {scope : Scope} {dvs : List V} {kws : List (Str × V)} {f c : Addr} {fd : FuncData} {N ps : List Str} {k n : Nat} {mb : Nat → MS}
    (F : FunD K x qual params body scope dvs kws f fd) (hC : CodeAt K f c) (S : FnScope N ps scope) (hn : ps.length = n)
    (hbody : ∀ (A : Around) (outer : List Env) (s : Shared) (H : Hp) (E : XK), Room k (A.deeper (envOfC qual scope s.heap.objs.size f (.ref c))) →
      Takes (cxOf (L2.CX P w) P w K mg base N qual scope f (.ref c) A outer s H E) (fun cls d _ H => E cls d H) →
      PassesOwn (model P w) (A.deeper (envOfC qual scope s.heap.objs.size f (.ref c))) (envOfC qual scope s.heap.objs.size f (.ref c)) (cxOf (L2.CX P w) P w K mg base N qual scope f (.ref c) A outer s H E).xe →
      SSs (cxOf (L2.CX P w) P w K mg base N qual scope f (.ref c) A outer s H E) (fun cls d _ H => E cls d H) body (mb s.heap.objs.size)) :
    FnOk P w K mg base (L2.CX P w) (k + 1) f fd ps (spML K mg n fun L => mDef N.length (mb L)) := by
  obtain ⟨oc, od, dV, kV, doc, pm, an, cdv, ct, osl, rfl, lk, hcd, _, _⟩ := F.ex
  have e : cdv = .ref c := hC _ _ _ _ lk
  subst e
  refine fn_of lk hcd S (fun vs H Q E h => ?_) fun A outer s H vs Q E hr h => ⟨_, hbody A outer s H E hr (takes_of rfl rfl rfl rfl) (passes_of rfl), ?_⟩
  · obtain ⟨g, ts, _, _, r, l, _⟩ := h
    rw [← r.length]; exact l.trans hn.symm
  · obtain ⟨g, ts, rfl, R, r, l, h⟩ := h
    have h := h s.heap.objs.size
    refine ⟨g, _, rfl, R, repS_start r, ?_⟩
    have h : wpD K mg g Q E (mDef N.length (mb s.heap.objs.size) ts g.h) := h
    unfold mDef at h
    cases q : mb s.heap.objs.size (ts.map some ++ List.replicate (N.length - ts.length) none) g.h with
    | nx s' h' =>
      rw [q] at h
      exact fun g' σ' q1 e R' S' => h g' .non q1 e R' rNon
    | rt t h' => rw [q] at h; exact fun g' v q1 e R' r' => h g' v q1 e R' r'
    | bk s' h' => rw [q] at h; exact h.elim
    | ct s' h' => rw [q] at h; exact h.elim
    | ex y s' h' => rw [q] at h; exact fun g' σ' cls d q1 e R' S' r' => h g' cls d q1 e R' r'
    | stuck => rw [q] at h; exact h.elim
/-- the law's promise at the head -/
theorem law_spT {K : PySem.W.Frag} {mg : Str → Option Value} {m : Nat → MF} {ns : List Int} {H : Hp} {a P : Addr} {q : Str} (hm : ∀ (L : Nat) (t : T), (t = .frl (ns.map T.int) ∨ t = .lst (ns.map T.int)) → ∃ h', m L [t] [.tab q P] = .ok (.bl true) h') (hT : H P = some (.tbl #[])) (hS : SqL K H a (ns.map V.int)) :
    spML K mg 1 m [.ref a] H (fun v _ => v = .bl true) (fun _ _ _ => False) := by
  have lv : ∀ (i : Nat) (b : Addr), G.live ⟨[P], [.tab q P], [], H⟩ i b → i = 0 ∧ b = P := by
    rintro i b ⟨h1, _⟩
    cases i with
    | zero => simp at h1; exact ⟨rfl, h1.symm⟩
    | succ i => simp at h1
  have R : Rel K mg ⟨[P], [.tab q P], [], H⟩ := by
    refine ⟨rfl, fun i j b h1 h2 => (lv i b h1).1.trans (lv j b h2).1.symm, fun a h => by simp at h, fun a h => by simp at h, fun i b h => ?_, fun i b o h1 h2 => ?_⟩
    · rw [(lv i b h).2]; exact ⟨_, hT⟩
    · cases i with
      | zero =>
        simp at h1 h2
        subst h1 h2
        refine ⟨rfl, #[], hT, True.intro, fun pos cv hc => ?_⟩
        have z : codeAmong pos [] = some cv := hc
        simp [codeAmong] at z
      | succ i => simp at h1
  have nh : a ≠ P → ¬ G.hid ⟨[P], [.tab q P], [], H⟩ a := by
    rintro ne (z | ⟨i, o, z1, z2, z3⟩)
    · simp at z
    · exact ne (lv i a ⟨z1, o, z2, z3⟩).2
  obtain ⟨t, ht, rt⟩ : ∃ t, (t = .frl (ns.map T.int) ∨ t = .lst (ns.map T.int)) ∧ Rep K mg ⟨[P], [.tab q P], [], H⟩ t (.ref a) := by
    rcases hS with (hS | ⟨o, hS⟩) | hS
    · have ne : a ≠ P := fun z => by rw [z, hT] at hS; cases hS
      refine ⟨_, .inr rfl, ?_⟩
      simp only [Rep]
      exact ⟨a, ns.map V.int, rfl, ⟨hS, nh ne⟩, RepL.ints ns⟩
    · have ne : a ≠ P := fun z => by rw [z, hT] at hS; cases hS
      refine ⟨_, .inl rfl, ?_⟩
      simp only [Rep]
      exact ⟨a, ns.map V.int, rfl, .inl ⟨⟨o, hS⟩, nh ne⟩, RepL.ints ns⟩
    · refine ⟨_, .inl rfl, ?_⟩
      simp only [Rep]
      exact ⟨a, ns.map V.int, rfl, .inr hS, RepL.ints ns⟩
  refine ⟨_, [t], rfl, R, RepL.cons rt RepL.nil, rfl, fun L => ?_⟩
  obtain ⟨h', e⟩ := hm L t ht
  rw [e]
  exact fun g' v _ _ _ r => rep_bl r
/-- the law's def, as the head wants it -/
def HasL (P : Program) (w : World) (K : PySem.W.Frag) (mg : Str → Option Value) (base : Heap) (k : Nat) (x qual : Str) (st : Stmt) (ps : List Str) (m : Nat → MF) : Prop :=
  ∃ (f : Addr) (fd : FuncData), FunD K x qual (defArgs st) (defBody st) (defScope st) [] [] f fd ∧ mg x = some (.ref f) ∧ FnOk P w K mg base (L2.CX P w) k f fd ps (spML K mg ps.length m)
theorem law_atL {P : Program} {w : World} {K : PySem.W.Frag} {mg : Str → Option Value} {base : Heap} {k : Nat} {x qual : Str} {st : Stmt} {ps : List Str} {m : Nat → MF} {f : Addr} {fd : FuncData} (F : FunD K x qual (defArgs st) (defBody st) (defScope st) [] [] f fd) (hm : mg x = some (.ref f)) (h : HasL P w K mg base k x qual st ps m) :
    FnOk P w K mg base CX0 k f fd ps (fun vs H Q _ => spML K mg ps.length m vs H Q fun _ _ _ => False) := by
  obtain ⟨f', fd', F', hm', ok⟩ := h
  cases hm.symm.trans hm'
  cases funD_one F F'
  exact fnOk_nox ok
theorem code_at_of {K : PySem.W.Frag} {x qual : Str} {params : Arguments} {body : List Stmt} {scope : Scope} {dvs : List V} {kws : List (Str × V)} {fd : FuncData} {p : He.Defn} (F : FunD K x qual params body scope dvs kws (He.fAd K p) fd) : CodeAt K (He.fAd K p) (He.cT K p).1 := by
  intro oc od osl fd' lk
  obtain ⟨oc2, od2, dV, kV, doc, pm, an, cdv, ct, osl2, rfl, lk2, hcd, _, _⟩ := F.ex
  rw [lk2] at lk
  cases lk
  obtain ⟨c, rfl⟩ := He.codeIn_ref hcd
  have z := He.codeOf_eq lk2 rfl
  show Value.ref c = .ref (He.codeOf K p)
  rw [z]
/-! ### the hook -/
theorem obsZ_eq {n : Nat} {fa : List He.Fa} {fn : List He.DefD} {sf : List Pth} {tf : List He.Defn} {ex : PySem.W.Frag → Bool} {g : Addr → Option Obj} {s : Shared} (h : ∀ a, g a = s.heap.get? a) : obsZ n fa fn sf tf ex g = (hookZ n fa fn sf tf ex).obs s := by
  have e : g = s.heap.get? := funext h
  rw [e] <;> rfl
/-! ### the end -/
theorem walk_ofZ {l : PySem.W.OpenLaw} {n k : Nat} {q : Program} {loose : List Str} {XP : (Str → Option Value) → Heap → Prop} {YP : World → Heap → Prop} {d : DefRec} {CX : CXT} {x : Str}
    (hn : l.most = some n) (hn2 : n ≤ sizeLine) (hdf : d.params.defaults = []) (hr : Room k callerA)
    (F : ∀ (w : World) (mg : Str → Option Value) (fa : Addr) (h : Heap), YP w h → h.Ns mainGlobals mg → mg d.name = some (.ref fa) →
      ∃ (K : PySem.W.Frag) (fd : FuncData) (cs : List (Addr × Addr)) (sp : Sp), K.In h ∧ (∀ p ∈ cs, h.get? p.2 = some { cls := .none, data := .fields #[] }) ∧ (∀ p ∈ cs, K.lookup p.2 = none) ∧ (∀ p ∈ cs, PySem.W.CodeHd h p.1 p.2) ∧ (∀ (s : Shared) (u : Value), BindsTo s fd ⟨[u], []⟩ [(x, u)]) ∧
        (∀ (H : Hp) (a : Addr) (ns : List Int), ns.length ≤ n → (∀ p ∈ cs, H p.2 = some (.tbl #[])) → SqL K H a (ns.map V.int) → sp [.ref a] H (fun v _ => v = .bl true) fun _ _ _ => False) ∧
        ∀ base : Heap, K.In base → base.Ns mainGlobals mg → (∀ p ∈ cs, LamX.TabB base mg p.1 p.2) → FnOk l.prog w K mg base CX k fa fd [x] sp)
    (hCX : ∀ (H : Hp) (s : Shared) (e : Value) (s' : Shared), CX [] H s (fun _ _ _ => False) e s' → False) :
    PySem.W.WalkO q loose XP YP l.row.toRowW d [] (fun f vs => PySem.call f vs) := by
  refine Att.attach_callB hn hdf fun w s₀ s₁ mg mb fa o pm cd doc a vs ns G Y ho hd hcd hmg hobj hints hlen hbits hg => ?_
  obtain ⟨K, fd, cs, sp, KX, hT, nT, C, hb, hsp, hF⟩ := F w mg fa _ Y G.T.g hmg
  exact LamX.law_callTs KX G.T.g G.T.b G.T.builtins G.T.nolimit hg hT nT C G.T.bmain hobj hints (Nat.le_trans hlen hn2) hr hF hb (fun H hH hS => hsp H a ns hlen hH hS) fun H e s' => hCX H s₁ e s'
end Mi
end part_Mi47
section part_Mi21
set_option maxRecDepth 100000
set_option maxHeartbeats 4000000
/-! Mi, part 21: set(t), t a tuple of tuples of ints (a turn of the library's rule for lists). -/
namespace Mi
open PySem PySem.Spec PyProof.Rows L2
section
variable {P : Program} {w : World} {A : Around} {E : Value → Shared → Prop} {s : Shared}
end
end Mi
end part_Mi21
section part_Mi22
set_option maxRecDepth 100000
set_option maxHeartbeats 2000000
/-! Mi, part 22: sorted(set(e)), e a list or tuple of pairs of small ints. -/
namespace Mi
open PySem PySem.Spec PyProof.Rows L2
/-! ### plain: pairs in their order -/
/-! ### the rule -/
section
variable {X : Cx} {K : PySem.W.Frag} {mg : Str → Option Value} {W : WX} {g : G} {σ : L2.St} {Q : VK}
end
end Mi
end part_Mi22
section part_Mi23
set_option maxRecDepth 100000
set_option maxHeartbeats 2000000
/-! Mi, part 23: comprehensions of two fors. -/
namespace Mi
open PySem PySem.Spec PyProof.Rows L2
section
variable {X : Cx} {K : PySem.W.Frag} {mg : Str → Option Value} {W : WX} {g : G} {σ : L2.St} {Q : VK} {D : Ends}
variable {a b c e : Expr} {ma mb mc me mt mt1 : ME} {mr : MA} {pos p : Pos} {es : List Expr} {x : Str}
def lcIn (mgt : MG) (mt me : ME) (s0 : SM) : List T → List T → MH → Option (List T × MH)
  | [], acc, h => some (acc, h)
  | x :: xs, acc, h => match mgt x s0 h with
    | .ok s1 h1 => match mt s1 h1 with
      | .ok (.bl true) h2 => match me s1 h2 with
        | .ok y h3 => if acc.length < big then lcIn mgt mt me s0 xs (acc ++ [y]) h3 else none
        | _ => none
      | .ok (.bl false) h2 => lcIn mgt mt me s0 xs acc h2
      | _ => none
    | .stuck => none
def lc2From (mgt : MG) (mt : ME) (mi1 : MI) (mgt1 : MG) (mt1 me : ME) (vs1 : List Nat) (s0 : SM) : List T → List T → MH → R
  | [], acc, h => .ok (.lst acc) h
  | x :: xs, acc, h => match mgt x s0 h with
    | .ok s1 h1 => match mt s1 h1 with
      | .ok (.bl true) h2 => match mi1 s1 h2 with
        | .ok ys h3 => match lcIn mgt1 mt1 me (wipeM s1 vs1) ys acc h3 with
          | some (acc', h4) => lc2From mgt mt mi1 mgt1 mt1 me vs1 s0 xs acc' h4
          | none => .stuck
        | _ => .stuck
      | .ok (.bl false) h2 => lc2From mgt mt mi1 mgt1 mt1 me vs1 s0 xs acc h2
      | _ => .stuck
    | .stuck => .stuck
def mLc2 (mi : MI) (mgt : MG) (mt : ME) (mi1 : MI) (mgt1 : MG) (mt1 me : ME) (own vs1 : List Nat) : ME := fun s h => (mi s h).bind fun xs h1 => lc2From mgt mt mi1 mgt1 mt1 me vs1 (wipeM s own) xs [] h1
/-- a state of the inner walk -/
structure InAt (K : PySem.W.Frag) (mg : Str → Option Value) (g1 gy : G) (Dl : Addr) (s2 : SM) (σ2 : L2.St) (f : List T → List T → MH → Option (List T × MH)) (done : List T → MH → Prop) (ys : List T) (j : Nat) (H : Hp) : Prop where
  ex : ∃ (gi : G) (acc : List T) (accV : List V) (accf : List T) (hf : MH), gi.H = H ∧ Rel K mg gi ∧ Sub gy gi ∧ Sub g1 gi ∧ gi.pv = Dl :: g1.pv ∧ (∀ a ∈ g1.pv, gi.H a = g1.H a) ∧ gi.H Dl = some (.lst accV) ∧ RepL K mg gi acc accV ∧ j ≤ ys.length ∧
    RepS K mg gi s2 σ2 ∧ f (ys.drop j) acc gi.h = some (accf, hf) ∧ done accf hf
theorem lc2_run {mgt mgt1 : MG} {mi1 : MI} {tl tl1 vs vs1 : List Nat} {J : It} {xs : List T} {g1 : G} {s : SM} (R1 : Rel K mg g1) (S1 : RepS K mg g1 s σ) (it : ItOk K mg g1 xs J) (htl : ∀ i ∈ tl, i ∈ vs) (htl1 : ∀ i ∈ tl1, i ∈ vs1)
    (h : wpR K mg W g1 σ Q (lc2From mgt mt mi1 mgt1 mt1 me vs1 (wipeM s vs) xs [] g1.h)) (Dl : Addr) (hD : g1.H Dl = none) :
    ∃ Wd : Nat → Nat → Hp → Prop, (∃ m, Wd 0 m (upd g1.H Dl (.lst []))) ∧ ∀ i m H, Wd i m H →
      (J.stop i H ∧ Q (.ref Dl) H) ∨ (J.go i H ∧ ∃ Nx : Hp → Prop, (∀ H', Nx H' → ∃ m', m' < m ∧ Wd (i + 1) m' H') ∧ ∀ x H', J.yld i H x H' → tMG K mg tl mgt x (wipe σ vs) H' fun σ2 H2 => wipe σ2 vs = wipe σ vs ∧ tMT K mg W0 mt σ2 H2 fun b H3 =>
        if b = true then tMI K mg W0 mi1 σ2 H3 fun J1 H4 => ∃ W1 : Nat → Nat → Hp → Prop, (∃ m, W1 0 m H4) ∧ ∀ j k H, W1 j k H →
          (J1.stop j H ∧ Nx H) ∨ (J1.go j H ∧ ∃ Nx1 : Hp → Prop, (∀ H', Nx1 H' → ∃ k', k' < k ∧ W1 (j + 1) k' H') ∧ ∀ x H', J1.yld j H x H' → tMG K mg tl1 mgt1 x (wipe σ2 vs1) H' fun σ3 H5 => wipe σ3 vs1 = wipe σ2 vs1 ∧ tMT K mg W0 mt1 σ3 H5 fun b H6 =>
            if b = true then tM K mg W0 me σ3 H6 fun y H7 => ∃ acc, H7 Dl = some (.lst acc) ∧ acc.length < sizeLine ∧ Nx1 (upd H7 Dl (.lst (acc ++ [y]))) else Nx1 H6)
        else Nx H3) := by
  have hpn : Dl ∉ g1.pv := fun z => blk_ne R1 hD Dl z rfl
  refine ⟨fun i m H => m = xs.length - i ∧ LcAt K mg W g1 Dl σ Q (lc2From mgt mt mi1 mgt1 mt1 me vs1 (wipeM s vs)) xs i H, ⟨xs.length, rfl, ?_⟩, fun i m H hW => ?_⟩
  · obtain ⟨s1, r1⟩ := pv_new (o := .lst []) R1 hD
    exact ⟨⟨_, [], [], rfl, r1, s1, rfl, fun a ha => by
      show upd g1.H Dl (.lst []) a = g1.H a
      rw [upd_ne (blk_ne R1 hD a ha)], upd_same, RepL.nil, Nat.zero_le _, by rw [List.drop_zero]; exact h⟩⟩
  · obtain ⟨rfl, ⟨gi, acc, accV, rfl, Ri, si, hpv, hpk, hDi, la, hi, hw⟩⟩ := hW
    by_cases hlt : i < xs.length
    · refine .inr ⟨it.go i gi si Ri hlt, fun H' => LcAt K mg W g1 Dl σ Q (lc2From mgt mt mi1 mgt1 mt1 me vs1 (wipeM s vs)) xs (i + 1) H', fun H' hn => ⟨xs.length - (i + 1), by omega, rfl, hn⟩, fun x H' hy => ?_⟩
      obtain ⟨g', rfl, eh, e1, R', t, ht, rt⟩ := it.yld i gi x H' si Ri hlt hy
      have edrop : xs.drop i = t :: xs.drop (i + 1) := by
        rw [List.drop_eq_getElem_cons hlt]
        have : xs[i] = t := by
          have := List.getElem?_eq_getElem hlt
          rw [ht] at this; exact (Option.some.inj this).symm
        rw [this]
      rw [edrop] at hw
      unfold lc2From at hw
      have S' : RepS K mg g' (wipeM s vs) (wipe σ vs) := ((S1.sub si).mono e1).wipe vs
      refine ⟨g', wipeM s vs, t, rfl, R', S', rt, ?_⟩
      rw [eh]
      cases q : mgt t (wipeM s vs) gi.h with
      | stuck => rw [q] at hw; exact hw.elim
      | ok s2 h2 =>
        rw [q] at hw
        dsimp only at hw
        intro g2 σ2 q2 e2 R2 S2 w2
        refine ⟨(w2 vs htl).trans (wipe_wipe σ vs vs fun _ z => z), g2, s2, rfl, R2, S2, ?_⟩
        rw [q2]
        have chain : ∀ g3 : G, Ext g' g3 → Sub g1 g3 ∧ g3.pv = Dl :: g1.pv ∧ (∀ a ∈ g1.pv, g3.H a = g1.H a) ∧ g3.H Dl = some (.lst accV) ∧ RepL K mg g3 acc accV := fun g3 e3 => by
          have e := e1.trans e3
          refine ⟨⟨fun i a z => e.rho i a (si.rho i a z), fun a u z n => let ⟨z1, n1⟩ := si.keep a u z n; e.keep a u z1 n1⟩, e.pv.trans hpv, fun a ha => (e.pvk a (by rw [hpv]; exact List.mem_cons_of_mem _ ha)).trans (hpk a ha), (e.pvk Dl (by rw [hpv]; exact List.mem_cons_self)).trans hDi, la.mono e⟩
        cases q3 : mt s2 h2 with
        | stuck => rw [q3] at hw; exact hw.elim
        | ex x h3 => rw [q3] at hw; exact hw.elim
        | ok tb h3 =>
          cases tb with
          | bl bb =>
            rw [q3] at hw
            intro g3 q4 e3 R3
            cases bb with
            | false =>
              refine iteF ?_
              obtain ⟨c1, c2, c3, c4, c5⟩ := chain g3 (e2.trans e3)
              exact ⟨⟨g3, acc, accV, rfl, R3, c1, c2, c3, c4, c5, hlt, by rw [q4]; exact hw⟩⟩
            | true =>
              refine iteT ⟨g3, s2, rfl, R3, S2.mono e3, ?_⟩
              rw [q4]
              dsimp only at hw
              cases q5 : mi1 s2 h3 with
              | stuck => rw [q5] at hw; exact hw.elim
              | ex x h4 => rw [q5] at hw; exact hw.elim
              | ok ys h4 =>
                rw [q5] at hw
                dsimp only at hw
                intro g4 J1 q6 e4 R4 it1
                cases q7 : lcIn mgt1 mt1 me (wipeM s2 vs1) ys acc h4 with
                | none => rw [q7] at hw; exact hw.elim
                | some pr =>
                  obtain ⟨accf, hf⟩ := pr
                  rw [q7] at hw
                  dsimp only at hw
                  obtain ⟨c1, c2, c3, c4, c5⟩ := chain g4 ((e2.trans e3).trans e4)
                  refine ⟨fun j k H => k = ys.length - j ∧ InAt K mg g1 g4 Dl s2 σ2 (lcIn mgt1 mt1 me (wipeM s2 vs1)) (fun accf hf => wpR K mg W g1 σ Q (lc2From mgt mt mi1 mgt1 mt1 me vs1 (wipeM s vs) (xs.drop (i + 1)) accf hf)) ys j H, ⟨ys.length, rfl, ⟨g4, acc, accV, accf, hf, rfl, R4, ⟨fun _ _ z => z, fun _ _ z n => ⟨z, n⟩⟩, c1, c2, c3, c4, c5, Nat.zero_le _, (S2.mono e3).mono e4, by rw [List.drop_zero, q6]; exact q7, hw⟩⟩, fun j k H hW1 => ?_⟩
                  obtain ⟨rfl, ⟨gj, bcc, bccV, bf, bh, rfl, Rj, sy, sj, jpv, jpk, jD, lb, hj, Sj, hin, hdone⟩⟩ := hW1
                  by_cases hlt1 : j < ys.length
                  · refine .inr ⟨it1.go j gj sy Rj hlt1, fun H' => InAt K mg g1 g4 Dl s2 σ2 (lcIn mgt1 mt1 me (wipeM s2 vs1)) (fun accf hf => wpR K mg W g1 σ Q (lc2From mgt mt mi1 mgt1 mt1 me vs1 (wipeM s vs) (xs.drop (i + 1)) accf hf)) ys (j + 1) H', fun H' hn => ⟨ys.length - (j + 1), by omega, rfl, hn⟩, fun x1 H1' hy1 => ?_⟩
                    obtain ⟨g5, rfl, eh5, e5, R5, t1, ht1, rt1⟩ := it1.yld j gj x1 H1' sy Rj hlt1 hy1
                    have edrop1 : ys.drop j = t1 :: ys.drop (j + 1) := by
                      rw [List.drop_eq_getElem_cons hlt1]
                      have : ys[j] = t1 := by
                        have := List.getElem?_eq_getElem hlt1
                        rw [ht1] at this; exact (Option.some.inj this).symm
                      rw [this]
                    rw [edrop1] at hin
                    unfold lcIn at hin
                    refine ⟨g5, wipeM s2 vs1, t1, rfl, R5, (Sj.mono e5).wipe vs1, rt1, ?_⟩
                    rw [eh5]
                    have chain1 : ∀ g6 : G, Ext g5 g6 → Sub g4 g6 ∧ Sub g1 g6 ∧ g6.pv = Dl :: g1.pv ∧ (∀ a ∈ g1.pv, g6.H a = g1.H a) ∧ g6.H Dl = some (.lst bccV) ∧ RepL K mg g6 bcc bccV ∧ RepS K mg g6 s2 σ2 := fun g6 e6 => by
                      have e := e5.trans e6
                      exact ⟨⟨fun i a z => e.rho i a (sy.rho i a z), fun a u z n => let ⟨z1, n1⟩ := sy.keep a u z n; e.keep a u z1 n1⟩, ⟨fun i a z => e.rho i a (sj.rho i a z), fun a u z n => let ⟨z1, n1⟩ := sj.keep a u z n; e.keep a u z1 n1⟩, e.pv.trans jpv, fun a ha => (e.pvk a (by rw [jpv]; exact List.mem_cons_of_mem _ ha)).trans (jpk a ha), (e.pvk Dl (by rw [jpv]; exact List.mem_cons_self)).trans jD, lb.mono e, Sj.mono e⟩
                    cases p1 : mgt1 t1 (wipeM s2 vs1) gj.h with
                    | stuck => rw [p1] at hin; cases hin
                    | ok s6 h6 =>
                      rw [p1] at hin
                      dsimp only at hin
                      intro g6 σ6 p2 e6 R6 S6 w6
                      refine ⟨(w6 vs1 htl1).trans (wipe_wipe σ2 vs1 vs1 fun _ z => z), g6, s6, rfl, R6, S6, ?_⟩
                      rw [p2]
                      cases p3 : mt1 s6 h6 with
                      | stuck => rw [p3] at hin; cases hin
                      | ex x h7 => rw [p3] at hin; cases hin
                      | ok tb1 h7 =>
                        cases tb1 with
                        | bl b1 =>
                          rw [p3] at hin
                          intro g7 p4 e7 R7
                          cases b1 with
                          | false =>
                            refine iteF ?_
                            obtain ⟨d1, d2, d3, d4, d5, d6, d7⟩ := chain1 g7 (e6.trans e7)
                            exact ⟨⟨g7, bcc, bccV, bf, bh, rfl, R7, d1, d2, d3, d4, d5, d6, hlt1, d7, by rw [p4]; exact hin, hdone⟩⟩
                          | true =>
                            refine iteT ⟨g7, s6, rfl, R7, S6.mono e7, ?_⟩
                            rw [p4]
                            dsimp only at hin
                            cases p5 : me s6 h7 with
                            | stuck => rw [p5] at hin; cases hin
                            | ex x h8 => rw [p5] at hin; cases hin
                            | ok y h8 =>
                              rw [p5] at hin
                              dsimp only at hin
                              intro g8 v p6 e8 R8 r8
                              split at hin
                              · rename_i hl
                                obtain ⟨d1, d2, d3, d4, d5, d6, d7⟩ := chain1 g8 ((e6.trans e7).trans e8)
                                refine ⟨bccV, d5, big_lt (by rw [← lb.length]; exact hl), ?_⟩
                                obtain ⟨s9, R9⟩ := pv_put (o := .lst (bccV ++ [v])) R8 (by rw [d3]; exact List.mem_cons_self)
                                refine ⟨⟨_, bcc ++ [y], bccV ++ [v], bf, bh, rfl, R9, ⟨fun i a z => s9.rho i a (d1.rho i a z), fun a u z n => let ⟨z1, n1⟩ := d1.keep a u z n; s9.keep a u z1 n1⟩, ⟨fun i a z => s9.rho i a (d2.rho i a z), fun a u z n => let ⟨z1, n1⟩ := d2.keep a u z n; s9.keep a u z1 n1⟩, d3, fun a ha => ?_, upd_same, (d6.sub s9).append (RepL.cons (Rep.sub s9 y v r8) RepL.nil), hlt1, d7.sub s9, ?_, hdone⟩⟩
                                · show upd g8.H Dl _ a = g1.H a
                                  rw [upd_ne (blk_ne R1 hD a ha)]; exact d4 a ha
                                · show lcIn mgt1 mt1 me (wipeM s2 vs1) (ys.drop (j + 1)) (bcc ++ [y]) g8.h = some (bf, bh)
                                  rw [p6]; exact hin
                              · cases hin
                        | _ => rw [p3] at hin; cases hin
                  · have e : j = ys.length := by omega
                    subst e
                    refine .inl ⟨it1.stop _ gj sy Rj (Nat.le_refl _), ?_⟩
                    rw [List.drop_length] at hin
                    unfold lcIn at hin
                    cases hin
                    exact ⟨⟨gj, bcc, bccV, rfl, Rj, sj, jpv, jpk, jD, lb, hlt, hdone⟩⟩
          | _ => rw [q3] at hw; exact hw.elim
    · have e : i = xs.length := by omega
      subst e
      refine .inl ⟨it.stop _ gi si Ri (Nat.le_refl _), ?_⟩
      rw [List.drop_length] at hw
      unfold lc2From at hw
      obtain ⟨s5, R5, n5⟩ := pv_out Ri hpv hpn
      refine hw { gi with pv := g1.pv } (.ref Dl) rfl ⟨si.rho, rfl, hpk, fun a u z n => let ⟨z1, n1⟩ := si.keep a u z n; s5.keep a u z1 n1⟩ R5 ?_
      simp only [Rep]
      exact ⟨Dl, accV, rfl, ⟨hDi, n5⟩, la.sub s5⟩
theorem use_lc2 {mi mi1 : MI} {mgt mgt1 : MG} {tl tl1 vs vs1 : List Nat} (htl : ∀ i ∈ tl, i ∈ vs) (htl1 : ∀ i ∈ tl1, i ∈ vs1) {H : Hp} (h : tM K mg W (mLc2 mi mgt mt mi1 mgt1 mt1 me vs vs1) σ H Q) :
    tLc2 (tMI K mg W mi) (tMG K mg tl mgt) (tMT K mg W0 mt) (tMI K mg W0 mi1) (tMG K mg tl1 mgt1) (tMT K mg W0 mt1) (tM K mg W0 me) vs vs1 σ H Q := by
  obtain ⟨g, s, rfl, R, S, h⟩ := h
  exact ⟨g, s, rfl, R, S, wpI_lc h fun g1 xs J e1 R1 it h1 => fun Dl hD => lc2_run R1 (S.mono e1) it htl htl1 h1 Dl hD⟩
end
end Mi
end part_Mi23
section part_Mi31
set_option maxRecDepth 100000
set_option maxHeartbeats 4000000
/-! Mi, part 31: comparisons by several roads, isinstance(x, (C, D)), clear, list(e) as a changeable list, sorted(pairs). -/
namespace Mi
open PySem PySem.Spec PyProof.Rows L2
section
variable {X : Cx} {K : PySem.W.Frag} {mg : Str → Option Value} {W : WX} {g : G} {σ : L2.St} {Q : VK}
variable {a b e : Expr} {ma mb me : ME} {mr : MA} {pos p : Pos} {es : List Expr} {c x : Str}
variable {k : Nat} {qual : Str} {st : Stmt} {ps : List Str} {mf : MF} {fm : List T → MH → R}
/-! ### comparisons -/
def fAlt2 (f f' : T → T → MH → R) : T → T → MH → R := fun t u h => (f t u h).orElse (f' t u h)
/-! ### isinstance(x, (c, d)) -/
/-! ### lists -/
end
end Mi
end part_Mi31
section part_Mi32
set_option maxRecDepth 100000
set_option maxHeartbeats 4000000
/-! Mi, part 32: classmethods; cls(..). -/
namespace Mi
open PySem PySem.Spec PyProof.Rows L2
/-- a classmethod of the class -/
def HasC (P : Program) (w : World) (K : PySem.W.Frag) (mg : Str → Option Value) (base : Heap) (k : Nat) (c x qual : Str) (st : Stmt) (ps : List Str) (dts : List T) (m : MF) : Prop :=
  ∃ C p f fd dvs mc, mg c = some (.ref C) ∧ ClX.CRead K C mc ∧ ClX.CMet K C mc x p f ∧ FnH P w K mg base k x qual st ps dts m f fd dvs
section
variable {X : Cx} {K : PySem.W.Frag} {mg : Str → Option Value} {W : WX} {g : G} {σ : L2.St} {Q : VK}
variable {a b e : Expr} {ma mb me : ME} {mr mk : MA} {pos p apos : Pos} {es : List Expr} {c x : Str} {kws : List Keyword}
variable {k n j : Nat} {qual : Str} {st : Stmt} {ps ks : List Str} {is : List Nat} {dts : List T} {mf : MF} {fm : List T → MH → R}
end
end Mi
end part_Mi32
section part_Mi33
set_option maxRecDepth 100000
set_option maxHeartbeats 4000000
/-! Mi, part 33: != where the class has __eq__ alone; small things for printed classes. -/
namespace PySem
namespace MiX
open Builtin
section
variable {prog : Program} {w : World} {A : Around} {E : Value → Shared → Prop} {h : Heap} {g : Array GenState} {d : Drawn} {t : Nat} {os : OsState} {K : W.Frag} {x C f : Addr} {ox : Obj} {od : Option Obj} {b tb : Value}
end
end MiX
end PySem
end part_Mi33
section part_Mi34
set_option maxRecDepth 100000
set_option maxHeartbeats 4000000
/-! Mi, part 34: what printed classes want. -/
namespace Mi
open PySem PySem.Spec PyProof.Rows L2
section
variable {X : Cx} {K : PySem.W.Frag} {mg : Str → Option Value} {W : WX} {g : G} {σ : L2.St} {Q : VK}
variable {a b e : Expr} {ma mb me : ME} {mr mk : MA} {pos p apos : Pos} {es : List Expr} {c x : Str}
variable {k n j : Nat} {qual : Str} {st : Stmt} {ps ks : List Str} {is : List Nat} {dts : List T} {mf : MF} {fm : List T → MH → R}
/-! ### x != y -/
/-! ### list(e), changeable -/
end
/-! ### more room -/
section
variable {P : Program} {w : World} {K : PySem.W.Frag} {mg : Str → Option Value} {base : Heap} {j k : Nat} {c x qual : Str} {st : Stmt} {ps : List Str} {dts : List T} {m : MF}
theorem HasM.up (h : HasM P w K mg base j c x qual st ps dts m) (l : j ≤ k) : HasM P w K mg base k c x qual st ps dts m := let ⟨C, f, fd, dvs, h1, h2, h3, h4⟩ := h; ⟨C, f, fd, dvs, h1, h2, h3, h4.up l⟩
theorem HasI.up (h : HasI P w K mg base j c qual st ps dts m) (l : j ≤ k) : HasI P w K mg base k c qual st ps dts m := let ⟨C, f, fd, dvs, h1, h2, h3⟩ := h; ⟨C, f, fd, dvs, h1, h2, h3.up l⟩
theorem HasP.up (h : HasP P w K mg base j c x qual st m) (l : j ≤ k) : HasP P w K mg base k c x qual st m := let ⟨C, p, f, fd, dvs, h1, h2, h3, h4⟩ := h; ⟨C, p, f, fd, dvs, h1, h2, h3, h4.up l⟩
theorem HasC.up (h : HasC P w K mg base j c x qual st ps dts m) (l : j ≤ k) : HasC P w K mg base k c x qual st ps dts m := let ⟨C, p, f, fd, dvs, mc, h1, h2, h3, h4⟩ := h; ⟨C, p, f, fd, dvs, mc, h1, h2, h3, h4.up l⟩
end
/-! ### what the module says of methods -/
/-! ### .. as Bools -/
section
variable {K : PySem.W.Frag} {mg : Str → Option Value} {h : Heap} {c x : Str} {d : He.DefD} {st : Stmt} {dts : List T}
end
end Mi
end part_Mi34
section part_Mi35
set_option maxRecDepth 100000
set_option maxHeartbeats 4000000
/-! Mi, part 35: changeable lists lent to a call that changes nothing. -/
namespace Mi
open PySem PySem.Spec PyProof.Rows L2
mutual
/-- no list in it -/
def noL : T → Bool
  | .non => true
  | .bl _ => true
  | .int _ => true
  | .str _ => true
  | .tup xs => noLL xs
  | .lst _ => false
  | .frl _ => false
  | .dct _ vs => noLL vs
  | .obj _ _ vs => noLL vs
  | .ref _ => false
  | .exn _ _ vs => noLL vs
  | .cls _ => true
  | .fn _ _ _ => true
  | .fnc _ _ _ _ => false
  | .tpl _ => false
def noLL : List T → Bool
  | [] => true
  | t :: ts => noL t && noLL ts
end
theorem noLL_mem : ∀ {ts : List T}, noLL ts = true → ∀ t ∈ ts, noL t = true
  | [], _, t, h => by cases h
  | u :: ts, h, t, ht => by
    simp only [noLL, Bool.and_eq_true] at h
    rcases List.mem_cons.mp ht with e | e
    · rw [e]; exact h.1
    · exact noLL_mem h.2 t e
section
variable {X : Cx} {K : PySem.W.Frag} {mg : Str → Option Value} {W : WX} {g g' : G} {σ : L2.St} {Q : VK}
/-- a tree without lists leans on no list -/
theorem Rep.subN (k : ∀ a o, g.H a = some o → ¬ g.hid a → (∀ ws, o ≠ .lst ws) → g'.H a = some o ∧ ¬ g'.hid a) : ∀ t, noL t = true → ∀ v, Rep K mg g t v → Rep K mg g' t v := by
  intro t
  induction t using T.ind with
  | non => intro _ v h; simpa only [Rep] using h
  | bl b => intro _ v h; simpa only [Rep] using h
  | int i => intro _ v h; simpa only [Rep] using h
  | str s => intro _ v h; simpa only [Rep] using h
  | cls c => intro _ v h; simpa only [Rep] using h
  | fn kk I C =>
    intro _ v h; simp only [Rep] at h ⊢
    exact h.subH fun a o z1 z2 z3 => k a o z1 z2 (fun ws e => by obtain ⟨φ, z⟩ := z3; rw [z] at e; cases e)
  | fnc kk I C n => intro c; simp only [noL] at c; cases c
  | tup xs ih =>
    intro c v h; simp only [Rep] at h ⊢; simp only [noL] at c
    obtain ⟨p, vs, e1, h1, h2⟩ := h
    refine ⟨p, vs, e1, ?_, RepL.monoC (noLL_mem c) ih h2⟩
    rcases h1 with ⟨⟨o, h1, hd⟩, n⟩ | h1
    · have z := k _ _ h1 n (fun ws e => by cases e)
      exact .inl ⟨⟨o, z.1, hd⟩, z.2⟩
    · exact .inr h1
  | tpl xs _ => intro c; simp only [noL] at c; cases c
  | lst xs ih => intro c; simp only [noL] at c; cases c
  | frl xs ih => intro c; simp only [noL] at c; cases c
  | dct ks vs ih1 ih2 =>
    intro c v h; simp only [Rep] at h ⊢; simp only [noL] at c
    obtain ⟨p, kvs, e1, ⟨⟨o, h1⟩, n⟩, e2, h2⟩ := h
    have z := k _ _ h1 n (fun ws e => by cases e)
    exact ⟨p, kvs, e1, ⟨⟨o, z.1⟩, z.2⟩, e2, RepL.monoC (noLL_mem c) ih2 h2⟩
  | obj cc ns vs ih =>
    intro c v h; simp only [Rep] at h ⊢; simp only [noL] at c
    obtain ⟨p, C, dx, fs, e1, ⟨h1, n⟩, e2, e3, h2⟩ := h
    exact ⟨p, C, dx, fs, e1, k _ _ h1 n (fun ws e => by cases e), e2, e3, RepL.monoC (noLL_mem c) ih h2⟩
  | ref i => intro c; simp only [noL] at c; cases c
  | exn cc ns vs ih =>
    intro c v h; simp only [Rep] at h ⊢; simp only [noL] at c
    obtain ⟨p, C, d, fs, e1, ⟨h1, n⟩, ⟨h2, n2⟩, e2, e3, h3⟩ := h
    exact ⟨p, C, d, fs, e1, k _ _ h1 n (fun ws e => by have e : HO.ext _ = HO.lst ws := e; cases e), k _ _ h2 n2 (fun ws e => by cases e), e2, e3, RepL.monoC (noLL_mem c) ih h3⟩
theorem RepL.subN (k : ∀ a o, g.H a = some o → ¬ g.hid a → (∀ ws, o ≠ .lst ws) → g'.H a = some o ∧ ¬ g'.hid a) {ts : List T} {vs : List V} (c : noLL ts = true) (h : RepL K mg g ts vs) : RepL K mg g' ts vs :=
  RepL.monoC (noLL_mem c) (fun t _ c v => Rep.subN k t c v) h
/-! ### C(e, ..): made by a call that changes nothing else; a value from now on -/
end
section
variable {X : Cx} {W : WX} {e : Expr} {mb : ME} {mr mk : MA} {pos p : Pos} {es : List Expr} {c x : Str} {kws : List Keyword}
variable {k n j : Nat} {qual : Str} {st : Stmt} {ps ks : List Str} {is : List Nat} {dts : List T} {mf : MF}
end
end Mi
end part_Mi35
section part_Mi36
set_option maxRecDepth 100000
set_option maxHeartbeats 2000000
/-! Mi, part 36: a comprehension inside a comprehension; str(o) of an own class. -/
namespace Mi
open PySem PySem.Spec PyProof.Rows L2
theorem blkOk_in {X : Cx} {N : List Str} {sc scope1 scope2 : Scope} {own : List (Str × Nat)} {s : Shared} {H : Hp} {cl : List (Str × Addr)} {C : Addr} {fp : List Addr} (hN : X.N = N) (hs : X.env.scope = sc) (h : blkC N (relS scope1 sc) scope2 own = true) :
    BlkOk (X.blk s H scope1 (compEnvC scope1 cl C X.env) fp).N (X.blk s H scope1 (compEnvC scope1 cl C X.env) fp).env.scope scope2 own := by
  subst hN hs
  exact blkOk_by h
section
variable {X : Cx} {K : PySem.W.Frag} {mg : Str → Option Value} {W : WX} {g g' : G} {σ : L2.St} {Q : VK} {D : Ends}
variable {a b e : Expr} {ma mb mc me mt : ME} {mr mk : MA} {pos p apos : Pos} {es : List Expr} {c x : Str}
variable {k n j : Nat} {qual : Str} {st : Stmt} {ps ks : List Str} {dts : List T} {mf : MF} {fm : List T → MH → R}
/-! ### [.., *e, ..] -/
end
section
variable {X : Cx} {K : PySem.W.Frag} {mg : Str → Option Value} {W : WX} {g : G} {σ : L2.St} {Q : VK}
variable {a b e : Expr} {ma mb me : ME} {mr mk : MA} {pos p : Pos} {es : List Expr} {c x : Str} {kws : List Keyword}
variable {k n j : Nat} {qual : Str} {st : Stmt} {ps ks : List Str} {dts : List T} {mf : MF}
/-! ### C(k = e, ..), lists lent -/
end
end Mi
end part_Mi36
section part_Mi37
set_option maxRecDepth 100000
set_option maxHeartbeats 2000000
/-! Mi, part 37: < and >= of tuples of ints. -/
namespace Mi
open PySem PySem.Spec PyProof.Rows L2
section
variable {X : Cx} {K : PySem.W.Frag} {mg : Str → Option Value} {W : WX} {g : G} {σ : L2.St} {Q : VK}
theorem hu0 {k : Nat} {A : Around} (r : Room k A) : A.units < cLine := by have := r.un; omega
def lexT (r : Int → Int → Bool) (z : Nat → Nat → Bool) (ns ms : List Int) : Bool :=
  Ob.lexAt (fun j => decide (ns.getD j 0 = ms.getD j 0)) (fun j => r (ns.getD j 0) (ms.getD j 0)) (z ns.length ms.length) 0 (min ns.length ms.length)
def rCmpT (K : PySem.W.Frag) (r : Int → Int → Bool) (z : Nat → Nat → Bool) : R2 := fun x y H Q => ∃ (a b : Addr) (ns ms : List Int), x = .ref a ∧ y = .ref b ∧ SqT K H a (ns.map V.int) ∧ SqT K H b (ms.map V.int) ∧ Q (.bl (lexT r z ns ms)) H
theorem op_ltT (hu : X.A.units < cLine) : OpR X (compareOp .Lt) (rCmpT X.K (fun i j => decide (i < j)) fun i j => decide (i < j)) := by
  intro pins s σ H x y v u Q I rx ry h
  obtain ⟨a, b, ns, ms, rfl, rfl, ha, hb, q⟩ := h
  cases rx
  cases ry
  obtain ⟨its, r1, p1, _⟩ := I.tuple ha
  obtain ⟨its2, r2, p2, _⟩ := I.tuple hb
  have i1 : IntsAre its ns := Vals.ints r1
  have i2 : IntsAre its2 ms := Vals.ints r2
  have e1 : its.toArray.size = ns.length := by rw [List.size_toArray]; exact i1.length
  have e2 : its2.toArray.size = ms.length := by rw [List.size_toArray]; exact i2.length
  have at1 : ∀ j (h1 : j < its.toArray.size), ∃ t, its.toArray[j] = .int (ns.getD j 0) t := fun j h1 => PyProof.Rows.IntsAre.int_at i1 _ _ (by simp at h1; simp [h1])
  have at2 : ∀ j (h1 : j < its2.toArray.size), ∃ t, its2.toArray[j] = .int (ms.getD j 0) t := fun j h1 => PyProof.Rows.IntsAre.int_at i2 _ _ (by simp at h1; simp [h1])
  have R := Ob.RcOp.tuples_lt (A := X.A) (s := s) (e := fun j => decide (ns.getD j 0 = ms.getD j 0)) (r := fun j => decide (ns.getD j 0 < ms.getD j 0)) p1 p2 hu (fun j h1 h2 => by
    obtain ⟨t, et⟩ := at1 j h1
    obtain ⟨t', et'⟩ := at2 j h2
    rw [et, et']
    have z : (ns.getD j 0 == ms.getD j 0) = decide (ns.getD j 0 = ms.getD j 0) := by
      by_cases q : ns.getD j 0 = ms.getD j 0
      · rw [decide_eq_true q]; exact beq_iff_eq.mpr q
      · rw [decide_eq_false q]; exact beq_eq_false_iff_ne.mpr q
    rw [← z]
    exact SeqAt.EqAt.int_int _ _ _ _) (fun j h1 h2 _ => by
    obtain ⟨t, et⟩ := at1 j h1
    obtain ⟨t', et'⟩ := at2 j h2
    rw [et, et']
    exact Ob.RcOp.lt_int _ _ _ _)
  rw [e1, e2] at R
  have z : wpAny (model X.prog X.w) X.A (compareOp .Lt (.ref a) (.ref b)) (EP X pins σ Q) X.xe s := R X.prog X.w X.xe (EP X pins σ Q) ⟨.bl _, H, I, rfl, q⟩
  exact z
def intsT? : List T → Option (List Int)
  | [] => some []
  | .int i :: ts => (intsT? ts).map (i :: ·)
  | _ :: _ => none
theorem intsT?_eq : ∀ {ts : List T} {ns : List Int}, intsT? ts = some ns → ts = ns.map T.int
  | [], ns, h => by cases h; rfl
  | t :: ts, ns, h => by
    unfold intsT? at h
    split at h
    · rename_i h0; cases h0
    · rename_i i ts' h0
      injection h0 with h1 h2
      subst h1 h2
      cases q : intsT? ts with
      | none => rw [q] at h; cases h
      | some ks => rw [q] at h; cases h; rw [intsT?_eq q]; rfl
    · cases h
theorem repL_ints : ∀ {ns : List Int} {vs : List V}, RepL K mg g (ns.map T.int) vs → vs = ns.map V.int
  | [], vs, h => by simpa only [List.map_nil, RepL] using h
  | n :: ns, vs, h => by
    simp only [List.map_cons, RepL] at h
    obtain ⟨v, w, rfl, r1, r2⟩ := h
    rw [rep_int r1, repL_ints r2]; rfl
def fCmpT (r : Int → Int → Bool) (z : Nat → Nat → Bool) : T → T → MH → R := fun t u h => match t, u with
  | .tup xs, .tup ys => match intsT? xs, intsT? ys with
    | some ns, some ms => .ok (.bl (lexT r z ns ms)) h
    | _, _ => .stuck
  | _, _ => .stuck
theorem mCmpT {r : Int → Int → Bool} {z : Nat → Nat → Bool} : OpM X (fCmpT r z) (rCmpT X.K r z) := by
  intro W g σ t u x y Q R r1 r2 h
  unfold fCmpT at h
  split at h
  · split at h
    · rename_i ns ms e1 e2
      have e1 := intsT?_eq e1
      have e2 := intsT?_eq e2
      subst e1 e2
      obtain ⟨p, vs, rfl, h1, l1⟩ := r1.sqT
      obtain ⟨p2, vs2, rfl, h2, l2⟩ := r2.sqT
      rw [repL_ints l1] at h1
      rw [repL_ints l2] at h2
      exact ⟨p, p2, ns, ms, rfl, rfl, h1, h2, wpR_here h R rBl⟩
    · exact h.elim
  · exact h.elim
theorem opM_alt {f f' : T → T → MH → R} {r r' : R2} (h1 : OpM X f r) (h2 : OpM X f' r') : OpM X (fAlt2 f f') (fun x y H Q => r x y H Q ∨ r' x y H Q) := by
  intro W g σ t u x y Q R r1 r2 h
  unfold fAlt2 at h
  cases q : f t u g.h with
  | ok u' h' => rw [q] at h; exact .inl (h1 W g σ t u x y Q R r1 r2 (by rw [q]; exact h))
  | ex y' h' => rw [q] at h; exact .inl (h1 W g σ t u x y Q R r1 r2 (by rw [q]; exact h))
  | stuck => rw [q] at h; exact .inr (h2 W g σ t u x y Q R r1 r2 h)
def fLtA := fAlt2 fLt (fCmpT (fun i j => decide (i < j)) fun i j => decide (i < j))
theorem op_ltA (hu : X.A.units < cLine) : OpR X (compareOp .Lt) (fun x y H Q => rCmp (fun i j => decide (i < j)) (fun a b => decide (a < b)) x y H Q ∨ rCmpT X.K (fun i j => decide (i < j)) (fun i j => decide (i < j)) x y H Q) := op_ltV.or (op_ltT hu)
theorem mLtA : OpM X fLtA (fun x y H Q => rCmp (fun i j => decide (i < j)) (fun a b => decide (a < b)) x y H Q ∨ rCmpT X.K (fun i j => decide (i < j)) (fun i j => decide (i < j)) x y H Q) := opM_alt mLtV mCmpT
end
end Mi
end part_Mi37
section part_Mi48
set_option maxRecDepth 100000
set_option maxHeartbeats 2000000
/-! Mi, part 48: small things for printed walks with lambdas. -/
namespace Mi
open PySem PySem.Spec PyProof.Rows L2
/-! ### the lambdas of a text, in their order -/
def noLam : Expr := .Constant .none 0 ⟨0, 0, 0, 0⟩
def lamI (q : Str) (d : Bool) : Expr → LamI
  | .Lambda ps b sc _ => ⟨q, ps, b, sc, d⟩
  | e => ⟨q, ⟨[], [], none, [], [], none, []⟩, e, { (default : Scope) with names := [] }, d⟩
def lamPos : Expr → Pos
  | .Lambda _ _ _ p => p
  | _ => ⟨0, 0, 0, 0⟩
/-- an expression that is never reached -/
def mStk : ME := fun _ _ => .stuck
theorem se_stk {X : Cx} {W : WX} {e : Expr} : SE X W e mStk := ⟨fun pins s σ H Q I h => by
  obtain ⟨_, _, _, _, _, h⟩ := h
  exact h.elim⟩
theorem se_lamE {X : Cx} {W : WX} {I : LamI} {k : Nat} {c P : Addr} {e : Expr} {pos : Pos} (B : LamB X I c P) (he : e = .Lambda I.params I.body I.scope pos) : SE X W e (mLam k I X.env.cells P) := by
  rw [he]; exact se_lam B
/-! ### the cells' names -/
def cnOf : List (Str × NameKind) → List Str → List Str
  | [], acc => acc
  | (name, kind) :: r, acc => if kind == .cell then cnOf r (name :: acc) else cnOf r acc
theorem cells_names : ∀ (names : List (Str × NameKind)) (n : Nat) (acc : List (Str × Addr)), (cellsFrom n names acc).map (·.1) = cnOf names (acc.map (·.1))
  | [], n, acc => rfl
  | (name, kind) :: r, n, acc => by
    unfold cellsFrom cnOf
    split
    · rw [cells_names r]; rfl
    · exact cells_names r n acc
def lendC (N : List Str) (sc : Scope) (ix : List Nat) : Bool :=
  decide (cnOf sc.names []).Nodup && decide (ix.map (fun j => N[j]?) = (cnOf sc.names []).map some) && (cnOf sc.names []).all fun y => decide (sc.names.lookup y = some .cell)
theorem lendB_of {X : Cx} {N : List Str} {sc : Scope} {ix : List Nat} {n : Nat} (hf : ∀ x, X.fn x = true) (hN : X.N = N) (hs : X.env.scope = sc) (hc : X.env.cells = cellsFrom n sc.names []) (h : lendC N sc ix = true) : LendB X ix := by
  unfold lendC at h
  rw [Bool.and_eq_true, Bool.and_eq_true, decide_eq_true_eq, decide_eq_true_eq, List.all_eq_true] at h
  obtain ⟨⟨h1, h2⟩, h3⟩ := h
  have e : X.env.cells.map (·.1) = cnOf sc.names [] := by rw [hc, cells_names]; rfl
  refine ⟨hf, by rw [e]; exact h1, ?_, fun p hp => ?_⟩
  · rw [hN, h2, ← e, List.map_map]; rfl
  · have m : p.1 ∈ cnOf sc.names [] := by rw [← e]; exact List.mem_map.mpr ⟨p, hp, rfl⟩
    rw [hs]
    exact of_decide_eq_true (h3 p.1 m)
theorem lamB_of {X : Cx} {sc : Scope} {I : LamI} {c P : Addr} {q : Str} (tb : LamX.TabB X.base X.mg c P) (hc : X.env.code = .ref c) (hs : X.env.scope = sc) (hq : X.env.qual = q) (e : (I.q == q ++ ("<lambda>" : Str)) = true) (hfr : NdefX.ndefB sc I.scope [] = true) (hk : I.params.kwonlyargs = []) (hd : dfltOk I X.env) : LamB X I c P :=
  ⟨tb, hc, by rw [hq]; exact eq_of_beq e, by rw [hs]; exact NdefX.ndef_free hfr, hd, hk⟩
section
variable {X : Cx} {W : WX} {e : Expr} {es : List Expr} {mr : MA} {pos p : Pos} {x : Str}
/-- lambdas lent to a def of the table of defs -/
theorem se_lendH {ix : List Nat} {k : Nat} {qual : Str} {st : Stmt} {ps : List Str} {mf : MF} {C : List (Str × Addr)} (B : LendB X ix) (hC : X.env.cells = C) (h : HasX X k x qual st ps mf) (hr : Room k X.A) (tk : Takes X W) (hb : PosB st x qual ps) (ha : SA X W (e :: es) mr) (hg : Gl X x := by rfl)
    (hdb : (x == ("__debug__" : Str)) = false := by decide) (he : starEach (e :: es) X.env = (false, eval e X.env) :: starEach es X.env := by rfl) (hpl : (backTo pos (starEach es X.env)).any (·.1) = false := by rfl) :
    SE X W (.Call (.Name x p) (e :: es) [] pos) (mLend mf ps.length C ix mr) := by
  subst hC
  obtain ⟨f, fd, F, hm, ok⟩ := h
  exact se_lend B ok hr tk hm F.kp (F.bindsN hb) ha hg hdb he hpl
end
theorem LOk.up {P : Program} {w : World} {K : PySem.W.Frag} {mg : Str → Option Value} {base : Heap} {j k : Nat} {e : LamE} (h : LOk P w K mg base j e) (l : j ≤ k) : LOk P w K mg base k e :=
  ⟨h.frk, fun A outer s g f c' dv C ts vs Q E hr => h.run A outer s g f c' dv C ts vs Q E (hr.mono l)⟩
theorem unN {k : Nat} {A : Around} (r : L2H.RoomH k A) : A.units + 64 < cLine := by have := r.un; omega
theorem hu65N {k : Nat} {A : Around} (r : L2H.RoomH k A) : A.units + 65 < cLine := by have := r.un; omega
/-! ### head: what is caught -/
def Exm3 (K : PySem.W.Frag) (mg : Str → Option Value) (a b c : Str) (ct : List (Str × Bool)) : Prop := ∀ p ∈ ct, ∀ C, mg p.1 = some (.ref C) → PySem.W.exmAny K (.ref C) [.ref (He.ga K a), .ref (He.ga K b), .ref (He.ga K c)] = some p.2
theorem exm3B_ok {K : PySem.W.Frag} {mg : Str → Option Value} {h : Heap} {a b c : Str} {ct : List (Str × Bool)} (X : K.In h) (G : h.Ns mainGlobals mg) (q : exm3B K a b c ct = true) : Exm3 K mg a b c ct := fun p hp C hC => by
  obtain ⟨b1, b2⟩ := bb (List.all_eq_true.mp q p hp)
  have e := PySem.W.mg_of X G (He.eqO_ok b1)
  rw [hC] at e
  cases e
  exact of_decide_eq_true b2
end Mi
end part_Mi48
section part_Bg
set_option maxRecDepth 100000
set_option maxHeartbeats 2000000
/-! Bg: the law's bag of draws, once for all laws. -/
namespace Mi
open PySem PySem.Spec PyProof.Rows L2
def mBagL : MF := mDef 4 ((mSq (mSet 1 (mA fList (aCons (mSl (mVar 0) (mC .non) (m1 fPart (mC (.int 63)))) aNil)))
    (mSq (mSet 2 (m2 fAdd (mC (.int 5608)) (m2 fMul (mC (.int 31)) (mA fLen (aCons (mVar 1) aNil)))))
    (mSq (mFor (mSrc (mVar 1)) (gN 3) (mSq (mSet 2 (m2 fMod (mA fInt (aCons (m2 fAdd (m2 fAdd (m2 fMul (mVar 2) (mC (.int 47093))) (m2 fMod (mA fInt (aCons (mVar 3) aNil)) (mC (.int 2147483389)))) (mC (.int 17))) aNil)) (mC (.int 2147483549))))
    mNx))
    (mSq (mRet (mA fLstN (aCons (mVar 1) (aCons (mC (.int 0)) (aCons (mC (.int 0)) (aCons (mVar 2) aNil))))))
    mNx)))))
def mDrawL : MF := mDef 5 ((mSq (mIfS (mAnd (m2 fEq (m2 fIx (mVar 0) (mC (.int 2))) (mC (.int 0))) (m2 fLt (m2 fIx (mVar 0) (mC (.int 1))) (mA fLen (aCons (m2 fIx (mVar 0) (mC (.int 0))) aNil)))) (mSq (mSet 2 (m2 fIx (m2 fIx (mVar 0) (mC (.int 0))) (m2 fIx (mVar 0) (mC (.int 1)))))
    (mSq (mAs (m2 fAdd (m2 fIx (mVar 0) (mC (.int 1))) (mC (.int 1))) (gSt (mVar 0) (mC (.int 1))))
    (mSq (mIfS (m2 fGe (mVar 2) (m2 fPow (mC (.int 10)) (mC (.int 18)))) (mSq (mAs (mVar 2) (gSt (mVar 0) (mC (.int 2))))
    mNx) (mSq (mSet 4 (m2 fAdd (m2 fMul (m2 fIx (mVar 0) (mC (.int 3))) (mC (.int 41381))) (m2 fMod (mA fInt (aCons (mVar 2) aNil)) (mC (.int 2000000033)))))
    (mSq (mAs (m2 fMod (mA fInt (aCons (m2 fAdd (mVar 4) (m2 fIx (mVar 0) (mC (.int 1)))) aNil)) (mC (.int 2147483549))) (gSt (mVar 0) (mC (.int 3))))
    mNx)))
    mNx))) mNx)
    (mSq (mIfS (m2 fGt (m2 fIx (mVar 0) (mC (.int 2))) (mC (.int 0))) (mSq (mSet 3 (m2 fMod (mA fInt (aCons (m2 fIx (mVar 0) (mC (.int 2))) aNil)) (mVar 1)))
    (mSq (mAs (m2 fFdiv (m2 fIx (mVar 0) (mC (.int 2))) (mVar 1)) (gSt (mVar 0) (mC (.int 2))))
    (mSq (mRetF (mVar 3))
    mNx))) mNx)
    (mSq (mAs (m2 fMod (mA fInt (aCons (m2 fAdd (m2 fMul (m2 fIx (mVar 0) (mC (.int 3))) (mC (.int 45137))) (mC (.int 1019))) aNil)) (mC (.int 2147483549))) (gSt (mVar 0) (mC (.int 3))))
    (mSq (mRetF (m2 fMod (mA fInt (aCons (m2 fFdiv (m2 fMod (mA fInt (aCons (m2 fMul (m2 fIx (mVar 0) (mC (.int 3))) (m2 fIx (mVar 0) (mC (.int 3)))) aNil)) (mC (.int 999999929))) (mC (.int 37))) aNil)) (mVar 1)))
    mNx)))))
def bagO (row : List Int) (p c m : Int) : MO := .lst [.lst (row.map .int), .int p, .int c, .int m]
structure Bag (h : MH) (i : Nat) : Prop where
  ex : ∃ (row : List Int) (p c m : Int), h[i]? = some (bagO row p c m) ∧ row.length ≤ 63 ∧ 0 ≤ p ∧ 0 ≤ c ∧ 0 ≤ m ∧ m < 2147483549
theorem bIx {i : Nat} {h : MH} {row : List Int} {p c m : Int} (e : h[i]? = some (bagO row p c m)) :
    fIx (.ref i) (.int 0) h = .ok (.lst (row.map .int)) h ∧ fIx (.ref i) (.int 1) h = .ok (.int p) h ∧ fIx (.ref i) (.int 2) h = .ok (.int c) h ∧ fIx (.ref i) (.int 3) h = .ok (.int m) h := by
  have z : seqOf (.ref i) h = some [.lst (row.map .int), .int p, .int c, .int m] := by simp only [seqOf, e, bagO]
  have q : ∀ k, fIx (.ref i) (.int k) h = match seqOf (.ref i) h with
      | some xs => match atI xs k with
        | some z => .ok z h
        | none => .stuck
      | none => .stuck := fun k => rfl
  refine ⟨?_, ?_, ?_, ?_⟩ <;> (rw [q, z]; rfl)
theorem bSt {i : Nat} {h : MH} {row : List Int} {p c m : Int} {s : SM} (e : h[i]? = some (bagO row p c m)) (hs : s[0]? = some (some (.ref i))) (x : Int) :
    gSt (mVar 0) (mC (.int 1)) (.int x) s h = .ok s (h.set i (bagO row x c m)) ∧ gSt (mVar 0) (mC (.int 2)) (.int x) s h = .ok s (h.set i (bagO row p x m)) ∧ gSt (mVar 0) (mC (.int 3)) (.int x) s h = .ok s (h.set i (bagO row p c x)) := by
  have e2 : liveL (.ref i) h = some (i, [.lst (row.map .int), .int p, .int c, .int m]) := by
    simp only [liveL, e, bagO]
  refine ⟨?_, ?_, ?_⟩ <;> (simp only [gSt, mVar, mC, hs, e2]; rfl)
theorem bGet {i : Nat} {h : MH} {o o' : MO} (e : h[i]? = some o) : (h.set i o')[i]? = some o' := List.getElem?_set_self (List.getElem?_eq_some_iff.mp e).1
theorem mulOk_l {a b : Int} (h1 : -18446744073709551616 < a) (h2 : a < 18446744073709551616) : mulOk a b = true := by
  unfold mulOk
  simp only [Bool.or_eq_true, Bool.and_eq_true, decide_eq_true_eq]
  exact .inl ⟨h1, h2⟩
theorem fMul_l {a b : Int} {h : MH} (h1 : -18446744073709551616 < a) (h2 : a < 18446744073709551616) : fMul (.int a) (.int b) h = .ok (.int (a * b)) h := by
  show (if mulOk a b then R.ok (.int (a * b)) h else .stuck) = _
  rw [mulOk_l h1 h2]; rfl
theorem fMod_ok {a b : Int} {h : MH} (h1 : 0 < b) : fMod (.int a) (.int b) h = .ok (.int (a % b)) h := by
  show (if decide (0 < b) = true then R.ok (.int (a % b)) h else .stuck) = _
  rw [decide_eq_true h1]; rfl
theorem fFdiv_ok {a b : Int} {h : MH} (h1 : 0 < b) (h2 : b < 1073741824) : fFdiv (.int a) (.int b) h = .ok (.int (a / b)) h := by
  show (if (decide (0 < b) && decide (b < 1073741824)) = true then R.ok (.int (a / b)) h else .stuck) = _
  rw [decide_eq_true h1, decide_eq_true h2]; rfl
theorem fAdd_i {a b : Int} {h : MH} : fAdd (.int a) (.int b) h = .ok (.int (a + b)) h := rfl
theorem fInt_i {a : Int} {h : MH} : fInt [.int a] h = .ok (.int a) h := rfl
theorem fEq_i {a b : Int} {h : MH} : fEq (.int a) (.int b) h = .ok (.bl (decide (a = b))) h := by
  show R.ok (T.bl (PyData.eqv (.int a) (.int b))) h = _
  congr 2
  try (simp [PyData.eqv]) 
theorem fLt_i {a b : Int} {h : MH} : fLt (.int a) (.int b) h = .ok (.bl (decide (a < b))) h := rfl
theorem fGt_i {a b : Int} {h : MH} : fGt (.int a) (.int b) h = .ok (.bl (decide (b < a))) h := rfl
theorem fGe_i {a b : Int} {h : MH} : fGe (.int a) (.int b) h = .ok (.bl (decide (b ≤ a))) h := rfl
theorem fLen_l {xs : List T} {h : MH} : fLen [.lst xs] h = .ok (.int xs.length) h := rfl
/-- the second half of a draw -/
def mDraw2 : MS := mSq (mIfS (m2 fGt (m2 fIx (mVar 0) (mC (.int 2))) (mC (.int 0))) (mSq (mSet 3 (m2 fMod (mA fInt (aCons (m2 fIx (mVar 0) (mC (.int 2))) aNil)) (mVar 1)))
    (mSq (mAs (m2 fFdiv (m2 fIx (mVar 0) (mC (.int 2))) (mVar 1)) (gSt (mVar 0) (mC (.int 2))))
    (mSq (mRetF (mVar 3))
    mNx))) mNx)
    (mSq (mAs (m2 fMod (mA fInt (aCons (m2 fAdd (m2 fMul (m2 fIx (mVar 0) (mC (.int 3))) (mC (.int 45137))) (mC (.int 1019))) aNil)) (mC (.int 2147483549))) (gSt (mVar 0) (mC (.int 3))))
    (mSq (mRetF (m2 fMod (mA fInt (aCons (m2 fFdiv (m2 fMod (mA fInt (aCons (m2 fMul (m2 fIx (mVar 0) (mC (.int 3))) (m2 fIx (mVar 0) (mC (.int 3)))) aNil)) (mC (.int 999999929))) (mC (.int 37))) aNil)) (mVar 1)))
    mNx))
theorem draw2_ok {h : MH} {i : Nat} {many : Int} {s2 s3 s4 : Option T} {row : List Int} {p c m : Int} (e : h[i]? = some (bagO row p c m)) (h1 : 1 ≤ many) (h2 : many ≤ 1000000) (hc : 0 ≤ c) (hm0 : 0 ≤ m) (hm1 : m < 2147483549) :
    ∃ (r : Int) (c' m' : Int), mDraw2 [some (.ref i), some (.int many), s2, s3, s4] h = .rt (.int r) (h.set i (bagO row p c' m')) ∧ 0 ≤ r ∧ r < many ∧ 0 ≤ c' ∧ 0 ≤ m' ∧ m' < 2147483549 := by
  obtain ⟨e0, e1, e2, e3⟩ := bIx e
  unfold mDraw2
  by_cases q : 0 < c
  · refine ⟨c % many, c / many, m, ?_, Int.emod_nonneg _ (by omega), Int.emod_lt_of_pos _ (by omega), Int.ediv_nonneg hc (by omega), hm0, hm1⟩
    have st := (bSt (s := [some (.ref i), some (.int many), s2, some (.int (c % many)), s4]) e rfl (c / many)).2.1
    simp only [mSq, mIfS, m2, mVar, mC, R.bind, R.toS, e2, fGt_i, decide_eq_true q, fIfS, mSet, mA, aCons, aNil, RL.bind, fInt_i, fMod_ok (show (0 : Int) < many by omega), List.getElem?_cons_zero, List.getElem?_cons_succ, List.set_cons_succ, List.set_cons_zero,
      mAs, fFdiv_ok (show (0 : Int) < many by omega) (show many < 1073741824 by omega), st, mRetF, fzT]
  · refine ⟨((((m * 45137 + 1019) % 2147483549) * ((m * 45137 + 1019) % 2147483549)) % 999999929 / 37) % many, c, (m * 45137 + 1019) % 2147483549, ?_, Int.emod_nonneg _ (by omega), Int.emod_lt_of_pos _ (by omega), hc, Int.emod_nonneg _ (by omega), Int.emod_lt_of_pos _ (by omega)⟩
    have st := (bSt (s := [some (.ref i), some (.int many), s2, s3, s4]) e rfl ((m * 45137 + 1019) % 2147483549)).2.2
    obtain ⟨_, _, _, z3⟩ := bIx (bGet (o' := bagO row p c ((m * 45137 + 1019) % 2147483549)) e)
    have b0 := Int.emod_nonneg (m * 45137 + 1019) (show (2147483549 : Int) ≠ 0 by omega)
    have b1 := Int.emod_lt_of_pos (m * 45137 + 1019) (show (0 : Int) < 2147483549 by omega)
    simp only [mSq, mIfS, m2, mVar, mC, R.bind, R.toS, e2, e3, fGt_i, decide_eq_false q, fIfS, mSet, mA, aCons, aNil, RL.bind, fInt_i, fAdd_i, fMul_l (show -18446744073709551616 < m by omega) (show m < 18446744073709551616 by omega), fMod_ok (show (0 : Int) < many by omega), fMod_ok (show (0 : Int) < 2147483549 by omega), fMod_ok (show (0 : Int) < 999999929 by omega), List.getElem?_cons_zero, List.getElem?_cons_succ, List.set_cons_succ, List.set_cons_zero,
      mAs, fFdiv_ok (show (0 : Int) < 37 by omega) (show (37 : Int) < 1073741824 by omega), st, z3, mRetF, fzT, mNx, fMul_l (show -18446744073709551616 < (m * 45137 + 1019) % 2147483549 by omega) (show (m * 45137 + 1019) % 2147483549 < 18446744073709551616 by omega)]
def mDraw1 : MS := mIfS (mAnd (m2 fEq (m2 fIx (mVar 0) (mC (.int 2))) (mC (.int 0))) (m2 fLt (m2 fIx (mVar 0) (mC (.int 1))) (mA fLen (aCons (m2 fIx (mVar 0) (mC (.int 0))) aNil)))) (mSq (mSet 2 (m2 fIx (m2 fIx (mVar 0) (mC (.int 0))) (m2 fIx (mVar 0) (mC (.int 1)))))
    (mSq (mAs (m2 fAdd (m2 fIx (mVar 0) (mC (.int 1))) (mC (.int 1))) (gSt (mVar 0) (mC (.int 1))))
    (mSq (mIfS (m2 fGe (mVar 2) (m2 fPow (mC (.int 10)) (mC (.int 18)))) (mSq (mAs (mVar 2) (gSt (mVar 0) (mC (.int 2))))
    mNx) (mSq (mSet 4 (m2 fAdd (m2 fMul (m2 fIx (mVar 0) (mC (.int 3))) (mC (.int 41381))) (m2 fMod (mA fInt (aCons (mVar 2) aNil)) (mC (.int 2000000033)))))
    (mSq (mAs (m2 fMod (mA fInt (aCons (m2 fAdd (mVar 4) (m2 fIx (mVar 0) (mC (.int 1)))) aNil)) (mC (.int 2147483549))) (gSt (mVar 0) (mC (.int 3))))
    mNx)))
    mNx))) mNx
theorem fIx_l {xs : List T} {k : Int} {h : MH} {n : Nat} {t : T} (h1 : 0 ≤ k) (h2 : k < xs.length) (h3 : xs[k.toNat]? = some t) : fIx (.lst xs) (.int k) h = .ok t h := by
  have e : atI xs k = some t := by
    unfold atI ixN
    rw [if_pos h1, if_pos h2]
    exact h3
  show (match atI xs k with
    | some z => R.ok z h
    | none => .stuck) = _
  rw [e]
theorem fPow_18 {h : MH} : fPow (.int 10) (.int 18) h = .ok (.int 1000000000000000000) h := rfl
theorem draw1_ok {h : MH} {i : Nat} {many : Int} {row : List Int} {p c m : Int} (e : h[i]? = some (bagO row p c m)) (hp : 0 ≤ p) (hc : 0 ≤ c) (hm0 : 0 ≤ m) (hm1 : m < 2147483549) :
    ∃ (s2 s3 s4 : Option T) (p' c' m' : Int), mDraw1 [some (.ref i), some (.int many), none, none, none] h = .nx [some (.ref i), some (.int many), s2, s3, s4] (h.set i (bagO row p' c' m')) ∧ 0 ≤ p' ∧ 0 ≤ c' ∧ 0 ≤ m' ∧ m' < 2147483549 := by
  obtain ⟨e0, e1, e2, e3⟩ := bIx e
  have hself : h.set i (bagO row p c m) = h := by
    apply List.ext_getElem?
    intro k
    by_cases w : i = k
    · subst w
      rw [bGet e, e]
    · rw [List.getElem?_set_ne w]
  unfold mDraw1
  by_cases q : c = 0
  · by_cases q2 : p < row.length
    · have hx : (row.map T.int)[p.toNat]? = some (.int (row[p.toNat]'(by omega))) := by simp [List.getElem?_eq_getElem (show p.toNat < row.length by omega)]
      have hlen : ((row.map T.int).length : Int) = (row.length : Int) := by simp
      have hfx := fIx_l (n := 0) (h := h) hp (by rw [hlen]; exact q2) hx
      generalize row[p.toNat]'(by omega) = cell at hx hfx
      have st1 := (bSt (s := [some (.ref i), some (.int many), some (.int cell), none, none]) e rfl (p + 1)).1
      have g1 : (h.set i (bagO row (p + 1) c m))[i]? = some (bagO row (p + 1) c m) := bGet e
      obtain ⟨f0, f1, f2, f3⟩ := bIx g1
      by_cases q3 : 1000000000000000000 ≤ cell
      · refine ⟨some (.int cell), none, none, p + 1, cell, m, ?_, by omega, by omega, hm0, hm1⟩
        have st2 := (bSt (s := [some (.ref i), some (.int many), some (.int cell), none, none]) g1 rfl cell).2.1
        rw [List.set_set] at st2
        simp only [mSq, mIfS, mAnd, fAnd, m2, mVar, mC, R.bind, R.toS, e0, e1, e2, fEq_i, decide_eq_true q, fLen_l, hlen, fLt_i, decide_eq_true q2, fIfS, mSet, mA, aCons, aNil, RL.bind, fInt_i, List.getElem?_cons_zero, List.getElem?_cons_succ, List.set_cons_succ, List.set_cons_zero,
          hfx, mAs, fAdd_i, st1, fPow_18, fGe_i, decide_eq_true q3, st2, mNx]
      · refine ⟨some (.int cell), none, some (.int (m * 41381 + cell % 2000000033)), p + 1, c, (m * 41381 + cell % 2000000033 + (p + 1)) % 2147483549, ?_, by omega, hc, Int.emod_nonneg _ (by omega), Int.emod_lt_of_pos _ (by omega)⟩
        have st2 := (bSt (s := [some (.ref i), some (.int many), some (.int cell), none, some (.int (m * 41381 + cell % 2000000033))]) g1 rfl ((m * 41381 + cell % 2000000033 + (p + 1)) % 2147483549)).2.2
        rw [List.set_set] at st2
        simp only [mSq, mIfS, mAnd, fAnd, m2, mVar, mC, R.bind, R.toS, e0, e1, e2, fEq_i, decide_eq_true q, fLen_l, hlen, fLt_i, decide_eq_true q2, fIfS, mSet, mA, aCons, aNil, RL.bind, fInt_i, List.getElem?_cons_zero, List.getElem?_cons_succ, List.set_cons_succ, List.set_cons_zero,
          hfx, mAs, fAdd_i, st1, fPow_18, fGe_i, decide_eq_false q3, f3, f1, fMul_l (show -18446744073709551616 < m by omega) (show m < 18446744073709551616 by omega), fMod_ok (show (0 : Int) < 2147483549 by omega), fMod_ok (show (0 : Int) < 2000000033 by omega), st2, mNx]
    · refine ⟨none, none, none, p, c, m, ?_, hp, hc, hm0, hm1⟩
      have hlen : ((row.map T.int).length : Int) = (row.length : Int) := by simp
      rw [hself]
      simp only [mIfS, mAnd, fAnd, m2, mVar, mC, R.bind, R.toS, e0, e1, e2, fEq_i, decide_eq_true q, fLen_l, hlen, fLt_i, decide_eq_false q2, fIfS, mA, aCons, aNil, RL.bind, List.getElem?_cons_zero, List.getElem?_cons_succ, mNx]
  · refine ⟨none, none, none, p, c, m, ?_, hp, hc, hm0, hm1⟩
    rw [hself]
    simp only [mIfS, mAnd, fAnd, m2, mVar, mC, R.bind, R.toS, e2, fEq_i, decide_eq_false q, fIfS, List.getElem?_cons_zero, List.getElem?_cons_succ, mNx]
/-- what stays -/
structure Keeps (i : Nat) (h h' : MH) : Prop where
  len : h'.length = h.length
  get : ∀ j, j ≠ i → h'[j]? = h[j]?
theorem draw_ok {h : MH} {i : Nat} {many : Int} (B : Bag h i) (h1 : 1 ≤ many) (h2 : many ≤ 1000000) : ∃ (r : Int) (h' : MH), mDrawL [.ref i, .int many] h = .ok (.int r) h' ∧ 0 ≤ r ∧ r < many ∧ Bag h' i ∧ Keeps i h h' := by
  obtain ⟨row, p, c, m, e, hl, hp, hc, hm0, hm1⟩ := B.ex
  obtain ⟨s2, s3, s4, p', c', m', q1, hp', hc', hm0', hm1'⟩ := draw1_ok (many := many) e hp hc hm0 hm1
  have g1 : (h.set i (bagO row p' c' m'))[i]? = some (bagO row p' c' m') := bGet e
  obtain ⟨r, c2, m2, q2, r0, r1, hc2, hm2, hm3⟩ := draw2_ok (s2 := s2) (s3 := s3) (s4 := s4) g1 h1 h2 hc' hm0' hm1'
  rw [List.set_set] at q2
  refine ⟨r, h.set i (bagO row p' c2 m2), ?_, r0, r1, ⟨row, p', c2, m2, bGet e, hl, hp', hc2, hm2, hm3⟩, ⟨List.length_set, fun j hj => List.getElem?_set_ne (Ne.symm hj)⟩⟩
  show (match (match mDraw1 [some (.ref i), some (.int many), none, none, none] h with
    | .nx s1 h1 => mDraw2 s1 h1
    | r => r) with
    | .nx _ h1 => R.ok .non h1
    | .rt t h1 => .ok t h1
    | .ex x _ h1 => .ex x h1
    | _ => .stuck) = _
  rw [q1]
  dsimp only
  rw [q2]
end Mi
end part_Bg
section part_Bh
set_option maxRecDepth 100000
set_option maxHeartbeats 2000000
/-! Bh: walks of comprehensions and loops, the bag made, a draw from a list, alike. -/
namespace Mi
open PySem PySem.Spec PyProof.Rows L2
theorem lc_fm {mgt : MG} {mt me : ME} {s0 : SM} {h : MH} {p : T → Bool} {f : T → T} : ∀ (xs acc : List T), (∀ x ∈ xs, ∃ s1, mgt x s0 h = .ok s1 h ∧ mt s1 h = .ok (.bl (p x)) h ∧ (p x = true → me s1 h = .ok (f x) h)) → acc.length + xs.length ≤ big →
    lcFrom mgt mt me s0 xs acc h = .ok (.lst (acc ++ (xs.filter p).map f)) h
  | [], acc, _, _ => by simp [lcFrom]
  | x :: xs, acc, hx, hl => by
    obtain ⟨s1, e1, e2, e3⟩ := hx x List.mem_cons_self
    simp only [List.length_cons] at hl
    unfold lcFrom
    rw [e1]
    dsimp only
    rw [e2]
    cases q : p x with
    | true =>
      dsimp only
      rw [e3 q]
      dsimp only
      rw [if_pos (by omega), lc_fm xs (acc ++ [f x]) (fun y hy => hx y (List.mem_cons_of_mem _ hy)) (by rw [List.length_append]; simp; omega)]
      simp [List.filter_cons, q]
    | false =>
      dsimp only
      rw [lc_fm xs acc (fun y hy => hx y (List.mem_cons_of_mem _ hy)) (by omega)]
      simp [List.filter_cons, q]
theorem lc_map {mgt : MG} {mt me : ME} {s0 : SM} {h : MH} {f : T → T} (xs : List T) (hx : ∀ x ∈ xs, ∃ s1, mgt x s0 h = .ok s1 h ∧ mt s1 h = .ok (.bl true) h ∧ me s1 h = .ok (f x) h) (hl : xs.length ≤ big) :
    lcFrom mgt mt me s0 xs [] h = .ok (.lst (xs.map f)) h := by
  have := lc_fm (p := fun _ => true) xs [] (fun x hx' => let ⟨s1, a, b, c⟩ := hx x hx'; ⟨s1, a, b, fun _ => c⟩) (by simpa using hl)
  rw [this]
  have e : xs.filter (fun _ => true) = xs := List.filter_eq_self.mpr fun _ _ => rfl
  rw [e]
  rfl
theorem for_inv {mgt : MG} {mb : MS} {I : List T → SM → MH → Prop} : ∀ (xs pre : List T) (s : SM) (h : MH), I pre s h →
    (∀ pre x s h, I pre s h → x ∈ xs → ∃ s1 h1 s2 h2, mgt x s h = .ok s1 h1 ∧ (mb s1 h1 = .nx s2 h2 ∨ mb s1 h1 = .ct s2 h2) ∧ I (pre ++ [x]) s2 h2) →
    ∃ s' h', forFrom mgt mb xs s h = .nx s' h' ∧ I (pre ++ xs) s' h'
  | [], pre, s, h, hI, _ => ⟨s, h, rfl, by simpa using hI⟩
  | x :: xs, pre, s, h, hI, st => by
    obtain ⟨s1, h1, s2, h2, e1, e2, hI2⟩ := st pre x s h hI List.mem_cons_self
    obtain ⟨s', h', e3, hI3⟩ := for_inv xs (pre ++ [x]) s2 h2 hI2 fun pre y s h hI hy => st pre y s h hI (List.mem_cons_of_mem _ hy)
    refine ⟨s', h', ?_, by simpa using hI3⟩
    unfold forFrom
    rw [e1]
    dsimp only
    rcases e2 with e2 | e2 <;> (rw [e2]; dsimp only; exact e3)
theorem cut_to {xs : List T} {n : Nat} : cutT xs none (some (n : Int)) = xs.take n := by
  unfold cutT
  rw [HT.sIx_none, HT.sIx_nat, List.drop_zero, Nat.sub_zero]
  by_cases h : n ≤ xs.length
  · rw [Nat.min_eq_left h]
  · rw [Nat.min_eq_right (by omega), List.take_of_length_le (by omega), List.take_of_length_le (by omega)]
/-- a draw from a list or tuple -/
def mOfL : MF := mDef 2 ((mSq (mRetF (m2 fIx (mVar 1) (mA (fS 2 mDrawL) (aCons (mVar 0) (aCons (mA fLen (aCons (mVar 1) aNil)) aNil)))))
    mNx))
theorem fzT_closed {t : T} {h : MH} (c : closed t = true) : fzT t h = (t, h) := by
  cases t with
  | ref i => simp [closed] at c
  | _ => rfl
theorem atI_get {xs : List T} {k : Int} (h1 : 0 ≤ k) (h2 : k < xs.length) : atI xs k = some (xs[k.toNat]'(by omega)) := by
  unfold atI ixN
  rw [if_pos h1, if_pos h2]
  exact List.getElem?_eq_getElem (by omega)
theorem of_lst {h : MH} {i : Nat} {xs : List T} (B : Bag h i) (h1 : xs ≠ []) (h2 : xs.length ≤ 1000000) (hc : closedL xs = true) :
    ∃ (x : T) (h' : MH), mOfL [.ref i, .lst xs] h = .ok x h' ∧ x ∈ xs ∧ Bag h' i ∧ Keeps i h h' := by
  have hp : 0 < xs.length := List.length_pos_iff.mpr h1
  obtain ⟨r, h', e, r0, r1, B', k⟩ := draw_ok (many := (xs.length : Int)) B (by omega) (by omega)
  refine ⟨xs[r.toNat]'(by omega), h', ?_, List.getElem_mem _, B', k⟩
  have e2 : fIx (.lst xs) (.int r) h' = .ok (xs[r.toNat]'(by omega)) h' := by
    show (match atI xs r with
      | some z => R.ok z h'
      | none => .stuck) = _
    rw [atI_get r0 r1]
  have e3 := fzT_closed (h := h') (closedL_mem hc _ (List.getElem_mem (show r.toNat < xs.length by omega)))
  have e4 : (fS 2 mDrawL) [.ref i, .int xs.length] h = .ok (.int r) h' := e
  simp only [mOfL, mDef, mSq, mA, aCons, aNil, m2, mVar, R.bind, R.toS, RL.bind, List.map_cons, List.map_nil, List.length_cons, List.length_nil, List.getElem?_cons_zero, List.getElem?_cons_succ, List.cons_append, List.nil_append, Nat.reduceAdd, Nat.reduceSub, List.replicate_zero, fLen_l, e4, mRetF, e2, e3]
/-! ### alike -/
def mAlikeL : Nat → MF
  | 0 => fun _ _ => .stuck
  | n + 1 => mDef 5 ((mSq (mIfS (mOr (m2 (fIs false) (mVar 1) (mC .non)) (m2 (fIs false) (mVar 0) (mC .non))) (mSq (mRetF (mAndV (m2 (fIs false) (mVar 1) (mC .non)) (m2 (fIs false) (mVar 0) (mC .non))))
    mNx) mNx)
    (mSq (mFor (mSrc (mA fTup (aCons (mC (.int 1)) (aCons (mC (.int 2)) (aCons (mC (.int 3)) aNil))))) (gN 2) (mSq (mIfS (mAnd (m2 fEq (mVar 2) (mC (.int 1))) (mOr (mTru (m1 (fIsi .bl) (mVar 1))) (mTru (m1 (fIsi .bl) (mVar 0))))) (mSq (mRetF (mAndV (m1 (fIsi .bl) (mVar 1)) (mAndV (m1 (fIsi .bl) (mVar 0)) (m2 fEq (mVar 0) (mVar 1)))))
    mNx) mNx)
    (mSq (mIfS (mAnd (m2 fEq (mVar 2) (mC (.int 2))) (mOr (mTru (m1 (fIsi .str) (mVar 1))) (mTru (m1 (fIsi .str) (mVar 0))))) (mSq (mRetF (mAndV (m1 (fIsi .str) (mVar 1)) (mAndV (m1 (fIsi .str) (mVar 0)) (m2 fEq (mVar 0) (mVar 1)))))
    mNx) mNx)
    (mSq (mIfS (mAnd (m2 fEq (mVar 2) (mC (.int 3))) (mOr (mTru (m1 (fIsi .int) (mVar 1))) (mTru (m1 (fIsi .int) (mVar 0))))) (mSq (mRetF (mAndV (m1 (fIsi .int) (mVar 1)) (mAndV (m1 (fIsi .int) (mVar 0)) (m2 fEq (mVar 0) (mVar 1)))))
    mNx) mNx)
    mNx))))
    (mSq (mIfS (mOr (m2 fNe (m1 (fIsi .tup) (mVar 1)) (m1 (fIsi .tup) (mVar 0))) (m2 fNe (m1 (fIsi .lst) (mVar 1)) (m1 (fIsi .lst) (mVar 0)))) (mSq (mRetF (mC (.bl false)))
    mNx) mNx)
    (mSq (mRetF (mAndV (m2 fEq (mA fLen (aCons (mVar 0) aNil)) (mA fLen (aCons (mVar 1) aNil))) (mA fAll (aCons (mLc (mIA iZp (aCons (mVar 0) (aCons (mVar 1) aNil))) (gT 2 (gsCons (gN 3) (gsCons (gN 4) gsNil))) (mC (.bl true)) (mA (fP 2 (mAlikeL n)) (aCons (mVar 3) (aCons (mVar 4) aNil))) [3, 4]) aNil))))
    mNx)))))
theorem alike_non {n : Nat} {h : MH} : mAlikeL (n + 1) [.non, .non] h = .ok (.bl true) h := rfl
theorem alike_bl {n : Nat} {h : MH} {b : Bool} : mAlikeL (n + 1) [.bl b, .bl b] h = .ok (.bl true) h := by cases b <;> rfl
theorem alike_str0 {n : Nat} {h : MH} {b c : Str} : mAlikeL (n + 1) [.str b, .str c] h = .ok (.bl (decide (b = c))) h := rfl
theorem alike_int0 {n : Nat} {h : MH} {b c : Int} : mAlikeL (n + 1) [.int b, .int c] h = .ok (.bl (b == c)) h := rfl
def mAlZip (n : Nat) : ME := mLc (mIA iZp (aCons (mVar 0) (aCons (mVar 1) aNil))) (gT 2 (gsCons (gN 3) (gsCons (gN 4) gsNil))) (mC (.bl true)) (mA (fP 2 (mAlikeL n)) (aCons (mVar 3) (aCons (mVar 4) aNil))) [3, 4]
def mAlEnd (n : Nat) : ME := mAndV (m2 fEq (mA fLen (aCons (mVar 0) aNil)) (mA fLen (aCons (mVar 1) aNil))) (mA fAll (aCons (mAlZip n) aNil))
theorem alZip_ok {n : Nat} {h : MH} {t u : T} {xs ys : List T} {s2 : Option T} (ht : seqOf t h = some xs) (hu : seqOf u h = some ys) (ht' : srcOf t = some xs) (hu' : srcOf u = some ys) (hl : xs.length = ys.length) (hb : xs.length ≤ big)
    (hel : ∀ p ∈ xs.zip ys, closed p.1 = true ∧ closed p.2 = true ∧ ∃ h', mAlikeL n [p.1, p.2] [] = .ok (.bl true) h') :
    mAlZip n [some t, some u, s2, none, none] h = .ok (.lst ((xs.zip ys).map fun _ => .bl true)) h := by
  have e1 : (mIA iZp (aCons (mVar 0) (aCons (mVar 1) aNil))) [some t, some u, s2, none, none] h = .ok (zipT xs ys) h := by
    simp only [mIA, aCons, aNil, mVar, RL.bindL, List.getElem?_cons_zero, List.getElem?_cons_succ, iZp, ht', hu']
  have e2 : lcFrom (gT 2 (gsCons (gN 3) (gsCons (gN 4) gsNil))) (mC (.bl true)) (mA (fP 2 (mAlikeL n)) (aCons (mVar 3) (aCons (mVar 4) aNil))) [some t, some u, s2, none, none] (zipT xs ys) [] h = .ok (.lst ((zipT xs ys).map fun _ => .bl true)) h := by
    refine lc_map (f := fun _ => .bl true) _ (fun x hx => ?_) (by unfold zipT; rw [List.length_map, List.length_zip]; omega)
    obtain ⟨q, hq, rfl⟩ := List.mem_map.mp hx
    obtain ⟨c1, c2, h', e⟩ := hel q hq
    refine ⟨[some t, some u, s2, some q.1, some q.2], rfl, rfl, ?_⟩
    show (if [q.1, q.2].length = 2 ∧ closedL [q.1, q.2] = true then pureR (mAlikeL n [q.1, q.2] []) h else .stuck) = _
    rw [if_pos ⟨rfl, by simp [closedL, c1, c2]⟩, e]
    rfl
  show ((mIA iZp (aCons (mVar 0) (aCons (mVar 1) aNil))) [some t, some u, s2, none, none] h).bind _ = _
  rw [e1]
  show lcFrom _ _ _ (wipeM [some t, some u, s2, none, none] [3, 4]) (zipT xs ys) [] h = _
  have e3 : wipeM [some t, some u, s2, none, none] [3, 4] = [some t, some u, s2, none, none] := rfl
  rw [e3, e2]
  unfold zipT
  rw [List.map_map]
  rfl
theorem bls_true (xs : List (T × T)) : blsOf (xs.map fun _ => T.bl true) = some (xs.map fun _ => true) := by
  induction xs with
  | nil => rfl
  | cons x xs ih => simp only [List.map_cons, blsOf, ih, Option.map_some]
theorem all_true (xs : List (T × T)) : ((xs.map fun _ => true).all id) = true := by
  induction xs with
  | nil => rfl
  | cons x xs ih => simpa using ih
theorem alEnd_ok {n : Nat} {h : MH} {t u : T} {xs ys : List T} {s2 : Option T} (el : fLen [t] h = .ok (.int xs.length) h) (eu : fLen [u] h = .ok (.int ys.length) h) (ht : seqOf t h = some xs) (hu : seqOf u h = some ys) (ht' : srcOf t = some xs) (hu' : srcOf u = some ys) (hl : xs.length = ys.length) (hb : xs.length ≤ big)
    (hel : ∀ p ∈ xs.zip ys, closed p.1 = true ∧ closed p.2 = true ∧ ∃ h', mAlikeL n [p.1, p.2] [] = .ok (.bl true) h') :
    mAlEnd n [some t, some u, s2, none, none] h = .ok (.bl true) h := by
  have z := alZip_ok (s2 := s2) ht hu ht' hu' hl hb hel
  have e4 : fAll [.lst ((xs.zip ys).map fun _ => .bl true)] h = .ok (.bl true) h := by
    simp only [fAll, fBls, lstOf, bls_true, all_true]
  simp only [mAlEnd, mAndV, m2, mA, aCons, aNil, RL.bind, R.bind, mVar, List.getElem?_cons_zero, List.getElem?_cons_succ, el, eu, fEq_i, hl, decide_true, fTru, fAndV, z, e4]
theorem alike_tup {n : Nat} {h : MH} {xs ys : List T} (hl : xs.length = ys.length) (hb : xs.length ≤ big)
    (hel : ∀ p ∈ xs.zip ys, closed p.1 = true ∧ closed p.2 = true ∧ ∃ h', mAlikeL n [p.1, p.2] [] = .ok (.bl true) h') : mAlikeL (n + 1) [.tup xs, .tup ys] h = .ok (.bl true) h := by
  have e : mAlikeL (n + 1) [.tup xs, .tup ys] h = (match (mSq (mRetF (mAlEnd n)) mNx) [some (.tup xs), some (.tup ys), some (.int 3), none, none] h with
    | .nx _ h1 => R.ok .non h1
    | .rt t h1 => .ok t h1
    | .ex x _ h1 => .ex x h1
    | _ => .stuck) := rfl
  rw [e]
  have z := alEnd_ok (n := n) (h := h) (t := .tup xs) (u := .tup ys) (s2 := some (.int 3)) rfl rfl rfl rfl rfl rfl hl hb hel
  simp only [mSq, mRetF, R.toS, z, fzT]
theorem alike_lst {n : Nat} {h : MH} {xs ys : List T} (hl : xs.length = ys.length) (hb : xs.length ≤ big)
    (hel : ∀ p ∈ xs.zip ys, closed p.1 = true ∧ closed p.2 = true ∧ ∃ h', mAlikeL n [p.1, p.2] [] = .ok (.bl true) h') : mAlikeL (n + 1) [.lst xs, .lst ys] h = .ok (.bl true) h := by
  have e : mAlikeL (n + 1) [.lst xs, .lst ys] h = (match (mSq (mRetF (mAlEnd n)) mNx) [some (.lst xs), some (.lst ys), some (.int 3), none, none] h with
    | .nx _ h1 => R.ok .non h1
    | .rt t h1 => .ok t h1
    | .ex x _ h1 => .ex x h1
    | _ => .stuck) := rfl
  rw [e]
  have z := alEnd_ok (n := n) (h := h) (t := .lst xs) (u := .lst ys) (s2 := some (.int 3)) rfl rfl rfl rfl rfl rfl hl hb hel
  simp only [mSq, mRetF, R.toS, z, fzT]
/-- a plain tree of depth below n -/
inductive Pl : Nat → T → Prop where
  | non {n : Nat} : Pl (n + 1) .non
  | bl {n : Nat} (b : Bool) : Pl (n + 1) (.bl b)
  | int {n : Nat} (i : Int) : Pl (n + 1) (.int i)
  | str {n : Nat} (s : Str) : Pl (n + 1) (.str s)
  | tup {n : Nat} {xs : List T} (h : ∀ x ∈ xs, Pl n x) (hb : xs.length ≤ big) : Pl (n + 1) (.tup xs)
  | lst {n : Nat} {xs : List T} (h : ∀ x ∈ xs, Pl n x) (hb : xs.length ≤ big) : Pl (n + 1) (.lst xs)
theorem closedL_of : ∀ {xs : List T}, (∀ x ∈ xs, closed x = true) → closedL xs = true
  | [], _ => rfl
  | x :: xs, h => by
    simp only [closedL, Bool.and_eq_true]
    exact ⟨h x List.mem_cons_self, closedL_of fun y hy => h y (List.mem_cons_of_mem _ hy)⟩
theorem Pl.closed {n : Nat} {t : T} (p : Pl n t) : Mi.closed t = true := by
  induction p with
  | non => rfl
  | bl b => rfl
  | int i => rfl
  | str s => rfl
  | tup h hb ih => simp only [Mi.closed]; exact closedL_of ih
  | lst h hb ih => simp only [Mi.closed]; exact closedL_of ih
theorem zip_self {xs : List T} {p : T × T} (h : p ∈ xs.zip xs) : p.1 = p.2 ∧ p.1 ∈ xs := by
  induction xs with
  | nil => cases h
  | cons x xs ih =>
    rw [List.zip_cons_cons] at h
    rcases List.mem_cons.mp h with e | e
    · subst e; exact ⟨rfl, List.mem_cons_self⟩
    · exact ⟨(ih e).1, List.mem_cons_of_mem _ (ih e).2⟩
theorem alike_refl {n : Nat} {t : T} (p : Pl n t) (h : MH) : mAlikeL n [t, t] h = .ok (.bl true) h := by
  induction p generalizing h with
  | non => exact alike_non
  | bl b => exact alike_bl
  | int i => rw [alike_int0, beq_self_eq_true]
  | str s => rw [alike_str0, decide_eq_true rfl]
  | tup hp hb ih =>
    refine alike_tup rfl hb fun q hq => ?_
    obtain ⟨e, m⟩ := zip_self hq
    rw [← e]
    exact ⟨(hp _ m).closed, (hp _ m).closed, [], ih _ m []⟩
  | lst hp hb ih =>
    refine alike_lst rfl hb fun q hq => ?_
    obtain ⟨e, m⟩ := zip_self hq
    rw [← e]
    exact ⟨(hp _ m).closed, (hp _ m).closed, [], ih _ m []⟩
end Mi
end part_Bh
section part_Bs
set_option maxRecDepth 100000
set_option maxHeartbeats 2000000
/-! Bs: texts as lists of signs. -/
namespace Mi
open PySem PySem.Spec PyProof.Rows L2
def sS (l : List Nat) : Str := ⟨l.toArray⟩
theorem sS_len (l : List Nat) : (sS l).length = l.length := by simp [sS, Str.length]
theorem sS_list (l : List Nat) : (sS l).cps.toList = l := by simp [sS]
theorem sS_inj {l k : List Nat} : sS l = sS k ↔ l = k := by
  constructor
  · intro h
    have := congrArg (fun z : Str => z.cps.toList) h
    simpa [sS] using this
  · intro h; rw [h]
theorem sS_app (l k : List Nat) : sS l ++ sS k = sS (l ++ k) := by
  show (⟨l.toArray ++ k.toArray⟩ : Str) = _
  simp [sS]
theorem fAdd_s {l k : List Nat} {h : MH} (hb : l.length + k.length ≤ big) : fAdd (.str (sS l)) (.str (sS k)) h = .ok (.str (sS (l ++ k))) h := by
  show (if (sS l).length + (sS k).length ≤ big then R.ok (T.str (sS l ++ sS k)) h else .stuck) = _
  rw [sS_len, sS_len, if_pos hb, sS_app]
theorem fLen_s {l : List Nat} {h : MH} (hb : l.length ≤ big) : fLen [.str (sS l)] h = .ok (.int l.length) h := by
  show (if (sS l).length ≤ big then R.ok (.int (sS l).length) h else .stuck) = _
  rw [sS_len, if_pos hb]
theorem fIx_s {l : List Nat} {k : Int} {c : Nat} {h : MH} (hb : l.length ≤ big) (e : atI l k = some c) : fIx (.str (sS l)) (.int k) h = .ok (.str (sS [c])) h := by
  show (if (sS l).length ≤ big then (match atI (sS l).cps.toList k with
      | some c => R.ok (T.str ⟨#[c]⟩) h
      | none => .stuck) else .stuck) = _
  rw [sS_len, if_pos hb, sS_list, e]
  rfl
theorem atI_nat {α : Type} {l : List α} {k : Nat} (h : k < l.length) : atI l (k : Int) = some l[k] := by
  unfold atI ixN
  rw [if_pos (by omega), if_pos (by omega)]
  show l[((k : Int)).toNat]? = _
  rw [Int.toNat_natCast]
  exact List.getElem?_eq_getElem h
end Mi
end part_Bs
section part_Bt
set_option maxRecDepth 100000
set_option maxHeartbeats 2000000
/-! Bt: the mirrors' equations in one bundle, for simp. -/
namespace Mi
open PySem PySem.Spec PyProof.Rows L2
theorem mi :
    (∀ (N : Nat) (mb : MS) (ts : List T) (h : MH), mDef N mb ts h = (match mb (ts.map some ++ List.replicate (N - ts.length) none) h with
      | .nx _ h1 => R.ok .non h1
      | .rt t h1 => .ok t h1
      | .ex x _ h1 => .ex x h1
      | _ => .stuck)) ∧
    (∀ (m m' : MS) (s : SM) (h : MH), mSq m m' s h = (match m s h with
      | .nx s1 h1 => m' s1 h1
      | r => r)) ∧
    (∀ (s : SM) (h : MH), mNx s h = .nx s h) ∧ (∀ (s : SM) (h : MH), mPass s h = .nx s h) ∧ (∀ (s : SM) (h : MH), mBk s h = .bk s h) ∧ (∀ (s : SM) (h : MH), mCt s h = .ct s h) ∧
    (∀ (me : ME) (s : SM) (h : MH), mEx me s h = (me s h).toS s fun _ h1 => .nx s h1) ∧
    (∀ (me : ME) (s : SM) (h : MH), mRet me s h = (me s h).toS s fun t h1 => .rt t h1) ∧
    (∀ (me : ME) (s : SM) (h : MH), mRetF me s h = (me s h).toS s fun t h1 => .rt (fzT t h1).1 (fzT t h1).2) ∧
    (∀ (s : SM) (h : MH), mRetN s h = .rt .non h) ∧
    (∀ (mc : ME) (m m' : MS) (s : SM) (h : MH), mIfS mc m m' s h = (mc s h).toS s (fIfS m m' s)) ∧
    (∀ (m m' : MS) (s : SM) (h : MH), fIfS m m' s (.bl true) h = m s h) ∧ (∀ (m m' : MS) (s : SM) (h : MH), fIfS m m' s (.bl false) h = m' s h) ∧
    (∀ (i : Nat) (me : ME) (s : SM) (h : MH), mSet i me s h = (me s h).toS s fun t h1 => .nx (s.set i (some t)) h1) ∧
    (∀ (t : T) (h : MH) (s : SM) (f : T → MH → SR), (R.ok t h).toS s f = f t h) ∧ (∀ (x : Exc) (h : MH) (s : SM) (f : T → MH → SR), (R.ex x h).toS s f = .ex x s h) ∧
    (∀ (t : T) (h : MH) (f : T → MH → R), (R.ok t h).bind f = f t h) ∧ (∀ (x : Exc) (h : MH) (f : T → MH → R), (R.ex x h).bind f = .ex x h) ∧
    (∀ (ts : List T) (h : MH) (f : List T → MH → R), (RL.ok ts h).bind f = f ts h) ∧
    (∀ (i : Nat) (s : SM) (h : MH), mVar i s h = (match s[i]? with
      | some (some t) => R.ok t h
      | _ => .stuck)) ∧ (∀ (t : T) (s : SM) (h : MH), mC t s h = .ok t h) ∧
    (∀ (f : T → T → MH → R) (ma mb : ME) (s : SM) (h : MH), m2 f ma mb s h = (ma s h).bind fun t h1 => (mb s h1).bind fun u h2 => f t u h2) ∧
    (∀ (f : T → MH → R) (ma : ME) (s : SM) (h : MH), m1 f ma s h = (ma s h).bind f) ∧
    (∀ (s : SM) (h : MH), aNil s h = .ok [] h) ∧ (∀ (ma : ME) (mr : MA) (s : SM) (h : MH), aCons ma mr s h = (match ma s h with
      | .ok t h1 => match mr s h1 with
        | .ok ts h2 => RL.ok (t :: ts) h2
        | .ex x h2 => .ex x h2
        | .stuck => .stuck
      | .ex x h1 => .ex x h1
      | .stuck => .stuck)) ∧
    (∀ (f : List T → MH → R) (mr : MA) (s : SM) (h : MH), mA f mr s h = (mr s h).bind f) ∧
    (∀ (ma mb : ME) (s : SM) (h : MH), mAnd ma mb s h = (ma s h).bind (fAnd mb s)) ∧ (∀ (mb : ME) (s : SM) (h : MH), fAnd mb s (.bl true) h = mb s h) ∧ (∀ (mb : ME) (s : SM) (h : MH), fAnd mb s (.bl false) h = .ok (.bl false) h) ∧
    (∀ (ma mb : ME) (s : SM) (h : MH), mOr ma mb s h = (ma s h).bind (fOr mb s)) ∧ (∀ (mb : ME) (s : SM) (h : MH), fOr mb s (.bl true) h = .ok (.bl true) h) ∧ (∀ (mb : ME) (s : SM) (h : MH), fOr mb s (.bl false) h = mb s h) ∧
    (∀ (ma : ME) (s : SM) (h : MH), mNot ma s h = (ma s h).bind fNot) ∧ (∀ (b : Bool) (h : MH), fNot (.bl b) h = .ok (.bl (!b)) h) ∧
    (∀ (mc ma mb : ME) (s : SM) (h : MH), mIf mc ma mb s h = (mc s h).bind (fIf ma mb s)) ∧ (∀ (ma mb : ME) (s : SM) (h : MH), fIf ma mb s (.bl true) h = ma s h) ∧ (∀ (ma mb : ME) (s : SM) (h : MH), fIf ma mb s (.bl false) h = mb s h) ∧
    (∀ (ma mb : ME) (s : SM) (h : MH), mOrV ma mb s h = (ma s h).bind (fOrV mb s)) ∧ (∀ (ma mb : ME) (s : SM) (h : MH), mAndV ma mb s h = (ma s h).bind (fAndV mb s)) ∧ (∀ (ma : ME) (s : SM) (h : MH), mNotV ma s h = (ma s h).bind fNotV) ∧
    (∀ (mb : ME) (s : SM) (h : MH), fAndV mb s (.bl true) h = mb s h) ∧ (∀ (mb : ME) (s : SM) (h : MH), fAndV mb s (.bl false) h = .ok (.bl false) h) ∧
    (∀ (mb : ME) (s : SM) (h : MH), fOrV mb s (.bl true) h = .ok (.bl true) h) ∧ (∀ (mb : ME) (s : SM) (h : MH), fOrV mb s (.bl false) h = mb s h) ∧ (∀ (b : Bool) (h : MH), fNotV (.bl b) h = .ok (.bl (!b)) h) ∧
    (∀ (ma : ME) (s : SM) (h : MH), mTru ma s h = (ma s h).bind fTru) ∧ (∀ (b : Bool) (h : MH), fTru (.bl b) h = .ok (.bl b) h) ∧
    (∀ (mi : MI) (mgt : MG) (mb : MS) (s : SM) (h : MH), mFor mi mgt mb s h = (match mi s h with
      | .ok xs h1 => forFrom mgt mb xs s h1
      | .ex x h1 => .ex x s h1
      | .stuck => .stuck)) ∧
    (∀ (me : ME) (mgt : MG) (s : SM) (h : MH), mAs me mgt s h = (me s h).toS s fun t h1 => match mgt t s h1 with
      | .ok s1 h2 => .nx s1 h2
      | .stuck => .stuck) ∧
    (∀ (i : Nat) (t : T) (s : SM) (h : MH), gN i t s h = .ok (s.set i (some t)) h) ∧
    (∀ (f : List T → MH → RL) (mr : MA) (s : SM) (h : MH), mIA f mr s h = (mr s h).bindL f) ∧ (∀ (ts : List T) (h : MH) (f : List T → MH → RL), (RL.ok ts h).bindL f = f ts h) ∧
    (∀ (ma : ME) (s : SM) (h : MH), mSrc ma s h = (ma s h).bindL iS) ∧ (∀ (t : T) (h : MH) (f : T → MH → RL), (R.ok t h).bindL f = f t h) ∧
    (∀ (mt ml mu : ME) (s : SM) (h : MH), mSl mt ml mu s h = (mt s h).bind fun t h1 => (ml s h1).bind fun l h2 => (mu s h2).bind fun u h3 => fSl t l u h3) ∧
    (∀ (i : Int) (h : MH), fPart (.int i) h = .ok (.int i) h) ∧ (∀ (i : Int) (h : MH), fNeg (.int i) h = .ok (.int (-i)) h) ∧
    (∀ (T' : String) (f : T → List T → MH → R) (mo : ME) (mr : MA) (s : SM) (h : MH), mMe T' f mo mr s h = (mo s h).bind fun t h1 => if tyOK T' t h1 then (mr s h1).bind fun ts h2 => f t ts h2 else .stuck) ∧
    (∀ (n nk : Nat) (is : List Nat) (fm : List T → MH → R) (mr mk : MA) (s : SM) (h : MH), mKw n nk is fm mr mk s h = (mr s h).bind fun ts h1 => (mk s h1).bind fun us h2 => if ts.length = n ∧ us.length = nk then fm (pick is (ts ++ us)) h2 else .stuck) ∧
    (∀ (c : Ty5) (t : T) (h : MH), fIsi c t h = (match tyOfT t h with
      | some a => R.ok (.bl (isi5 a c)) h
      | none => .stuck)) ∧
    (∀ (i j : Nat) (mr : MA) (s : SM) (h : MH), mPar i j mr s h = (match mr s h with
      | .ok [t, u] h1 => SR.nx ((s.set i (some t)).set j (some u)) h1
      | .ok _ _ => .stuck
      | .ex x h1 => .ex x s h1
      | .stuck => .stuck)) := by
  repeat' apply And.intro
  all_goals (intros; rfl)
theorem mz : (∀ h : MH, fzT .non h = (.non, h)) ∧ (∀ (b : Bool) (h : MH), fzT (.bl b) h = (.bl b, h)) ∧ (∀ (b : Int) (h : MH), fzT (.int b) h = (.int b, h)) ∧ (∀ (b : Str) (h : MH), fzT (.str b) h = (.str b, h)) ∧
    (∀ (b : List T) (h : MH), fzT (.tup b) h = (.tup b, h)) ∧ (∀ (b : List T) (h : MH), fzT (.lst b) h = (.lst b, h)) ∧ (∀ (b : List T) (h : MH), fzT (.frl b) h = (.frl b, h)) := by
  repeat' apply And.intro
  all_goals (intros; rfl)
/-- slots -/
theorem ms : (∀ (x : T) (xs : List T), (x :: xs).map some = some x :: xs.map some) ∧ (([] : List T).map some = []) ∧ (∀ (x : T) (xs : List T), (x :: xs).length = xs.length + 1) ∧ (([] : List T).length = 0) ∧
    (∀ (x : Option T) (xs ys : List (Option T)), (x :: xs) ++ ys = x :: (xs ++ ys)) ∧ (∀ ys : List (Option T), [] ++ ys = ys) ∧
    (∀ (x : Option T) (xs : List (Option T)), (x :: xs)[0]? = some x) ∧ (∀ (x : Option T) (xs : List (Option T)) (i : Nat), (x :: xs)[i + 1]? = xs[i]?) ∧
    (∀ (x y : Option T) (xs : List (Option T)), (x :: xs).set 0 y = y :: xs) ∧ (∀ (x y : Option T) (xs : List (Option T)) (i : Nat), (x :: xs).set (i + 1) y = x :: xs.set i y) ∧
    (∀ (n : Nat) (x : Option T), List.replicate (n + 1) x = x :: List.replicate n x) ∧ (∀ (x : Option T), List.replicate 0 x = []) := by
  repeat' apply And.intro
  all_goals (intros; rfl)
end Mi
end part_Bt
section part_Bl
set_option maxRecDepth 100000
set_option maxHeartbeats 2000000
/-! Bl: plain laws of defs that make lambdas: the bag, a lambda called, _law_why, _law_whys. -/
namespace Mi
open PySem PySem.Spec PyProof.Rows L2
theorem bag_t {ns : List Int} {t0 : T} (h0 : t0 = .frl (ns.map .int) ∨ t0 = .lst (ns.map .int)) (h : MH) : ∃ o, mBagL [t0] h = .ok (.ref h.length) (h ++ [o]) ∧ Bag (h ++ [o]) h.length := by
  have hcut : cutT (ns.map T.int) none (some (63 : Int)) = (ns.take 63).map T.int := by
    have := cut_to (xs := ns.map T.int) (n := 63)
    rw [List.map_take] <;> exact this
  have hl : ((ns.take 63).map T.int).length ≤ 63 := by simp; omega
  generalize (ns.take 63) = row at hcut hl
  let mb : MS := mSq (mSet 2 (m2 fMod (mA fInt (aCons (m2 fAdd (m2 fAdd (m2 fMul (mVar 2) (mC (.int 47093))) (m2 fMod (mA fInt (aCons (mVar 3) aNil)) (mC (.int 2147483389)))) (mC (.int 17))) aNil)) (mC (.int 2147483549)))) mNx
  have lp : ∀ (s : SM) (m : Int), s = [some t0, some (.lst (row.map .int)), some (.int (5608 + 31 * (row.length : Int))), none] → ∃ s' m', forFrom (gN 3) mb (row.map .int) s h = .nx s' h ∧ (∃ z, s' = [some t0, some (.lst (row.map .int)), some (.int m'), z]) ∧ 0 ≤ m' ∧ m' < 2147483549 := by
    intro s m hs
    have hl' : row.length ≤ 63 := by simpa using hl
    obtain ⟨s', h', e, ⟨z, m', e2, e3, b0, b1⟩⟩ := for_inv (mgt := gN 3) (mb := mb) (I := fun pre s h' => ∃ z m, h' = h ∧ s = [some t0, some (.lst (row.map .int)), some (.int m), z] ∧ 0 ≤ m ∧ m < 2147483549) (row.map .int) [] s h ⟨none, 5608 + 31 * (row.length : Int), rfl, hs, by omega, by omega⟩ (by
      rintro pre x s h1 ⟨z, m, rfl, rfl, b0, b1⟩ hx
      obtain ⟨c, _, rfl⟩ := List.mem_map.mp hx
      refine ⟨_, h1, _, h1, rfl, .inl ?_, some (.int c), (m * 47093 + c % 2147483389 + 17) % 2147483549, rfl, rfl, Int.emod_nonneg _ (by omega), Int.emod_lt_of_pos _ (by omega)⟩
      simp only [mb, mSq, mSet, m2, mA, aCons, aNil, RL.bind, R.bind, R.toS, mVar, mC, List.set_cons_succ, List.set_cons_zero, List.getElem?_cons_zero, List.getElem?_cons_succ, fMul_l (show -18446744073709551616 < m by omega) (show m < 18446744073709551616 by omega), fInt_i, fAdd_i,
        fMod_ok (show (0 : Int) < 2147483389 by omega), fMod_ok (show (0 : Int) < 2147483549 by omega), mNx])
    subst e2
    exact ⟨s', m', e, ⟨z, e3⟩, b0, b1⟩
  obtain ⟨s', m', e1, ⟨z, e2⟩, b0, b1⟩ := lp _ 0 rfl
  refine ⟨bagO row 0 0 m', ?_, ⟨row, 0, 0, m', by simp, by simpa using hl, by omega, by omega, b0, b1⟩⟩
  subst e2
  have ef : (mFor (mSrc (mVar 1)) (gN 3) mb) [some t0, some (.lst (row.map .int)), some (.int (5608 + 31 * (row.length : Int))), none] h = .nx [some t0, some (.lst (row.map .int)), some (.int m'), z] h := e1
  have e0 : mBagL [t0] h = (match (mSq (mFor (mSrc (mVar 1)) (gN 3) mb) (mSq (mRet (mA fLstN (aCons (mVar 1) (aCons (mC (.int 0)) (aCons (mC (.int 0)) (aCons (mVar 2) aNil)))))) mNx)) [some t0, some (.lst (row.map .int)), some (.int (5608 + 31 * (row.length : Int))), none] h with
    | .nx _ h1 => R.ok .non h1
    | .rt t h1 => .ok t h1
    | .ex x _ h1 => .ex x h1
    | _ => .stuck) := by
    have e3 : fSl t0 .non (.int 63) h = .ok (.lst (row.map .int)) h := by rcases h0 with rfl | rfl <;> (rw [← hcut]; rfl)
    have e4 : ((row.map T.int).length : Int) = row.length := by simp
    simp only [mBagL, mDef, mSq, mSet, mA, aCons, aNil, mSl, mVar, mC, m1, fPart, R.bind, R.toS, RL.bind, List.map_cons, List.map_nil, List.length_cons, List.length_nil, List.getElem?_cons_zero, List.getElem?_cons_succ, List.cons_append, List.nil_append, Nat.reduceAdd, Nat.reduceSub, List.replicate_succ, List.replicate_zero, e3, List.set_cons_succ, List.set_cons_zero, m2, fLen_l, e4, fList, seqOf, fMul_l (show (-18446744073709551616 : Int) < 31 by omega) (show (31 : Int) < 18446744073709551616 by omega), fAdd_i]
    rfl
  rw [e0]
  show (match (match (mFor (mSrc (mVar 1)) (gN 3) mb) [some t0, some (.lst (row.map .int)), some (.int (5608 + 31 * (row.length : Int))), none] h with
    | .nx s1 h1 => (mSq (mRet (mA fLstN (aCons (mVar 1) (aCons (mC (.int 0)) (aCons (mC (.int 0)) (aCons (mVar 2) aNil)))))) mNx) s1 h1
    | r => r) with
    | .nx _ h1 => R.ok .non h1
    | .rt t h1 => .ok t h1
    | .ex x _ h1 => .ex x h1
    | _ => .stuck) = _
  rw [ef]
  rfl
/-! ### small steps -/
theorem var_ok {s : SM} {k : Nat} {t : T} (h : MH) (e : s[k]? = some (some t)) : mVar k s h = .ok t h := by simp only [mi, e]
theorem seq_nx {m m' : MS} {s s1 : SM} {h h1 : MH} (e : m s h = .nx s1 h1) : mSq m m' s h = m' s1 h1 := by simp only [mi, e]
theorem seq_rt {m m' : MS} {s : SM} {h h1 : MH} {t : T} (e : m s h = .rt t h1) : mSq m m' s h = .rt t h1 := by simp only [mi, e]
theorem cons_ok {me : ME} {mr : MA} {s : SM} {h h1 h2 : MH} {t : T} {ts : List T} (e : me s h = .ok t h1) (e' : mr s h1 = .ok ts h2) : aCons me mr s h = .ok (t :: ts) h2 := by simp only [mi, e, e']
theorem nil_ok {s : SM} {h : MH} : aNil s h = .ok [] h := rfl
theorem big_of {n : Nat} (h : n ≤ 100000) : n ≤ big := by unfold big; omega
theorem fP2 {m : MF} {t1 t2 u : T} {h : MH} (c1 : closed t1 = true) (c2 : closed t2 = true) (e : m [t1, t2] [] = .ok u []) (cu : closed u = true) : fP 2 m [t1, t2] h = .ok u h := by
  unfold fP
  rw [if_pos ⟨rfl, by simp [closedL, c1, c2]⟩, e]
  show (if closed u = true then R.ok u h else .stuck) = _
  rw [if_pos cu]
theorem Keeps.trans {i : Nat} {h h1 h2 : MH} (a : Keeps i h h1) (b : Keeps i h1 h2) : Keeps i h h2 := ⟨b.len.trans a.len, fun j hj => (b.get j hj).trans (a.get j hj)⟩
theorem Keeps.refl {i : Nat} {h : MH} : Keeps i h h := ⟨rfl, fun _ _ => rfl⟩
theorem Bag.app {h t : MH} {i : Nat} (B : Bag h i) : Bag (h ++ t) i := by
  obtain ⟨row, p, c, m, e, z⟩ := B.ex
  exact ⟨row, p, c, m, by rw [List.getElem?_append_left (List.getElem?_eq_some_iff.mp e).1]; exact e, z⟩
theorem Pl.ans {n : Nat} {z : Str} {t : T} (p : Pl (n + 1) t) : Pl (n + 2) (.tup [.str z, t]) := .tup (fun x hx => by
  simp only [List.mem_cons, List.not_mem_nil, or_false] at hx
  rcases hx with rfl | rfl
  · exact .str _
  · exact p) (big_of (by simp))
theorem Pl.l0 {n : Nat} : ∀ x ∈ ([] : List T), Pl n x := fun _ h => by cases h
theorem Pl.lc {n : Nat} {t : T} {ts : List T} (a : Pl n t) (b : ∀ x ∈ ts, Pl n x) : ∀ x ∈ t :: ts, Pl n x := List.forall_mem_cons.2 ⟨a, b⟩
/-! ### cells -/
theorem putAt_app : ∀ (hb cs ds : List MO), ds.length = cs.length → putAt (hb ++ cs) hb.length ds = hb ++ ds
  | hb, cs, ds, l => by
    apply List.ext_getElem?
    intro j
    by_cases l1 : j < hb.length
    · rw [putAt_lt _ _ l1, List.getElem?_append_left l1, List.getElem?_append_left l1]
    · by_cases l2 : j < hb.length + ds.length
      · have h1 : j - hb.length < ds.length := by omega
        have := putAt_mid ds (hb ++ cs) (n := hb.length) (i := j - hb.length) (c := ds[j - hb.length]) (by simp; omega) (List.getElem?_eq_getElem h1)
        rw [show hb.length + (j - hb.length) = j by omega] at this
        rw [this, List.getElem?_append_right (by omega), List.getElem?_eq_getElem h1]
      · rw [putAt_ge _ _ (by omega), List.getElem?_eq_none (by simp; omega), List.getElem?_eq_none (by simp; omega)]
theorem celVal_app (hb cs : MH) (j : Nat) : celVal (hb ++ cs) hb.length j = celVal cs 0 j := by
  unfold celVal
  rw [List.getElem?_append_right (by omega), show hb.length + j - hb.length = 0 + j by omega]
theorem celVals_app (hb cs : MH) : ∀ js : List Nat, celVals (hb ++ cs) hb.length js = celVals cs 0 js
  | [] => rfl
  | j :: js => by
    unfold celVals
    rw [celVal_app, celVals_app hb cs js]
theorem allCel_app (hb cs : MH) (m : Nat) : allCel (hb ++ cs) hb.length m = allCel cs 0 m := by
  unfold allCel
  congr 1
  funext i
  unfold isCel
  rw [List.getElem?_append_right (by omega), show hb.length + i - hb.length = 0 + i by omega]
section
variable {tab : List LamE} {k : Nat} {e : LamE} {C : List (Str × Addr)} {hb cs : MH} {ts : List T}
theorem actM_eq (ok : okC C e.fr e.js = true) (al : allCel cs 0 C.length = true) (cv : celVals cs 0 e.js = some ts) (lc : cs.length = C.length) :
    actM e C hb.length (hb ++ cs) = (match e.m ts (hb ++ deads C) with
      | .ok t h2 => .ok t (putAt h2 hb.length cs)
      | .ex x h2 => .ex x (putAt h2 hb.length cs)
      | .stuck => .stuck) := by
  unfold actM
  rw [allCel_app, ok, al, Bool.and_self, if_pos rfl, celVals_app, cv]
  dsimp only
  rw [putAt_app _ _ _ (by simp [lc]), show ((hb ++ cs).drop hb.length).take C.length = cs by rw [List.drop_left, ← lc, List.take_length]]
  first | done | (cases e.m ts (hb ++ deads C) <;> rfl)
theorem actR_ok (ht : tab[k]? = some e) {t : T} (ok : okC C e.fr e.js = true) (al : allCel cs 0 C.length = true) (lc : cs.length = C.length) (cv : celVals cs 0 e.js = some ts) (he : ∀ h, e.m ts h = .ok t h) :
    actR tab k e.I C hb.length (hb ++ cs) = .ok t (hb ++ cs) := by
  unfold actR
  rw [ht]
  dsimp only
  rw [if_pos rfl, actM_eq ok al cv lc, he]
  dsimp only
  rw [putAt_app _ _ _ (by simp [lc])]
theorem actR_ex (ht : tab[k]? = some e) {x : Exc} (ok : okC C e.fr e.js = true) (al : allCel cs 0 C.length = true) (lc : cs.length = C.length) (cv : celVals cs 0 e.js = some ts) (he : ∀ h, e.m ts h = .ex x h) :
    actR tab k e.I C hb.length (hb ++ cs) = .ex x (hb ++ cs) := by
  unfold actR
  rw [ht]
  dsimp only
  rw [if_pos rfl, actM_eq ok al cv lc, he]
  dsimp only
  rw [putAt_app _ _ _ (by simp [lc])]
end
/-! ### _law_why, _law_whys -/
inductive All2 (p : T → T → Prop) : List T → List T → Prop where
  | nil : All2 p [] []
  | cons {t u : T} {ts us : List T} (a : p t u) (b : All2 p ts us) : All2 p (t :: ts) (u :: us)
noncomputable def mWhyL (tab : List LamE) (ct : List (Str × Bool)) (su : MS) : MF := mDef 2 (mSq (mTry3 ct 1 (mSq (mRetF (mA fTup (aCons (mC (.str "")) (aCons (mAct tab 0) aNil)))) mNx) su) mNx)
noncomputable def mWhysL (why : MF) : MF := mDef 2 (mSq (mRetF (mLc (mSrc (mVar 0)) (gN 1) (mC (.bl true)) (mA (fS 1 why) (aCons (mVar 1) aNil)) [1])) mNx)
section
variable {tab : List LamE} {ct : List (Str × Bool)} {su : MS} {k n : Nat} {I : LamI} {C : List (Str × Addr)} {h h' : MH}
theorem why_ok {t : T} (e : actR tab k I C n h = .ok t h') : mWhyL tab ct su [.fnc k I C n] h = .ok (.tup [.str "", t]) h' := by
  have e1 : mAct tab 0 [some (.fnc k I C n), none] h = .ok t h' := e
  have e2 : fTup [.str "", t] h' = .ok (.tup [.str "", t]) h' := rfl
  simp only [mWhyL, mTry3, mi, ms, mz, Nat.reduceAdd, Nat.reduceSub, e1, e2]
theorem why_ex {x : Exc} {u : T} (e : actR tab k I C n h = .ex x h') (hc : ct.lookup x.c = some true) (hs : su [some (.fnc k I C n), some (.exn x.c x.ns x.vs)] h' = .rt u h') : mWhyL tab ct su [.fnc k I C n] h = .ok u h' := by
  have e1 : mAct tab 0 [some (.fnc k I C n), none] h = .ex x h' := e
  simp only [mWhyL, mTry3, handM, mi, ms, mz, Nat.reduceAdd, Nat.reduceSub, e1, hc, hs, goneS, RL.bind, R.toS]
theorem whys_ok {why : MF} {ts rs : List T} (hl : ts.length ≤ big) (hr : All2 (fun t r => why [t] h = .ok r h) ts rs) : mWhysL why [.lst ts] h = .ok (.lst rs) h := by
  let f : T → T := fun t => match why [t] h with
    | .ok r _ => r
    | _ => .non
  have e : ts.map f = rs := by
    clear hl
    induction hr with
    | nil => rfl
    | cons a _ ih => simp only [List.map_cons, ih, f, a]
  have hm : ∀ t ∈ ts, why [t] h = .ok (f t) h := by
    clear hl e
    induction hr with
    | nil => intro t ht; cases ht
    | cons a _ ih =>
      intro t ht
      rcases List.mem_cons.mp ht with rfl | q
      · simp only [f, a]
      · exact ih t q
  have e1 : mLc (mSrc (mVar 0)) (gN 1) (mC (.bl true)) (mA (fS 1 why) (aCons (mVar 1) aNil)) [1] [some (.lst ts), none] h = .ok (.lst rs) h := by
    show lcFrom _ _ _ [some (.lst ts), none] ts [] h = _
    rw [lc_map (f := f) ts (fun x hx => ⟨[some (.lst ts), some x], rfl, rfl, ?_⟩) hl, e]
    show (if 1 = 1 then why [x] h else .stuck) = _
    rw [if_pos rfl, hm x hx]
  simp only [mWhysL, mi, ms, mz, Nat.reduceAdd, Nat.reduceSub, e1]
/-- the lambdas lent, the answers in a list -/
theorem lend_ok' {m : MF} {ix : List Nat} {mr : MA} {s : SM} {ts rs : List T} {hb : MH} (e : mr s hb = .ok [.lst ts] hb) (hc : allCel (celsOf ix s) 0 C.length = true) (hl : (celsOf ix s).length = C.length)
    (hm : m [.lst (ts.map (closeV C hb.length))] (hb ++ celsOf ix s) = .ok (.lst rs) (hb ++ celsOf ix s)) : mLend m 1 C ix mr s hb = .ok (.lst rs) (hb ++ deads C) := by
  unfold mLend
  rw [e]
  show fLend m 1 C ix s [.lst ts] hb = _
  unfold fLend
  rw [if_pos (show [T.lst ts].length = 1 from rfl), show List.map (closeT C hb.length) [T.lst ts] = [.lst (ts.map (closeV C hb.length))] from rfl, hm]
  dsimp only
  rw [allCel_app, hc, if_pos rfl, putAt_app _ _ _ (by simp [hl])]
theorem lam_ok {q : Str} {P : Addr} {s : SM} (e : h[0]? = some (.tab q P)) (hq : q = I.q := by rfl) : mLam k I C P s h = .ok (.fn k I C) h := by
  unfold mLam
  rw [e]
  dsimp only
  rw [if_pos ⟨hq, rfl⟩]
/-- what a lambda answers, asked by _law_why -/
def AskOk (ct : List (Str × Bool)) (su : MS) (e : LamE) (ts : List T) (r : T) : Prop := (∃ t, (∀ h, e.m ts h = .ok t h) ∧ r = .tup [.str "", t]) ∨ (∃ x : Exc, (∀ h, e.m ts h = .ex x h) ∧ ct.lookup x.c = some true ∧ ∀ t0 h, su [t0, some (.exn x.c x.ns x.vs)] h = .rt r h)
theorem why_of {e : LamE} {hb cs : MH} {ts : List T} {r : T} {n : Nat} (hn : n = hb.length) (a : AskOk ct su e ts r) (ht : tab[k]? = some e) (ok : okC C e.fr e.js = true) (al : allCel cs 0 C.length = true) (lc : cs.length = C.length) (cv : celVals cs 0 e.js = some ts) :
    mWhyL tab ct su [.fnc k e.I C n] (hb ++ cs) = .ok r (hb ++ cs) := by
  subst hn
  rcases a with ⟨t, h1, rfl⟩ | ⟨x, h1, h2, h3⟩
  · exact why_ok (actR_ok ht ok al lc cv h1)
  · exact why_ex (actR_ex ht ok al lc cv h1) h2 (h3 _ _)
theorem closeV_fn (n : Nat) : closeV C n (.fn k I C) = .fnc k I C n := if_pos rfl
end
end Mi
end part_Bl
section part_Bm
set_option maxRecDepth 100000
set_option maxHeartbeats 2000000
/-! Bm: more small steps of plain laws: appends to a live list, loops that append. -/
namespace Mi
open PySem PySem.Spec PyProof.Rows L2
theorem live_at {k : Nat} {h : MH} {ys : List T} (e : h[k]? = some (.lst ys)) : liveL (.ref k) h = some (k, ys) := by unfold liveL; dsimp only; rw [e]
theorem fz_at {i k : Nat} {m : MS} {s : SM} {h : MH} {ys : List T} (e : s[i]? = some (some (.ref k))) (eh : h[k]? = some (.lst ys)) : mFz i m s h = m (s.set i (some (.lst ys))) (h.set k .dead) := by
  have z : fzT (.ref k) h = (.lst ys, h.set k .dead) := by
    unfold fzT
    dsimp only
    rw [eh]
  show (match s[i]? with
    | some (some t) => m (s.set i (some (fzT t h).1)) (fzT t h).2
    | _ => m s h) = _
  rw [e]
  dsimp only
  rw [z]
theorem drawC {h : MH} {i : Nat} {many : Int} (B : Bag h i) (h1 : 1 ≤ many) (h2 : many ≤ 1000000) : ∃ (r : Int) (h' : MH), (fS 2 mDrawL) [.ref i, .int many] h = .ok (.int r) h' ∧ 0 ≤ r ∧ r < many ∧ Bag h' i ∧ Keeps i h h' := by
  obtain ⟨r, h', e, z⟩ := draw_ok B h1 h2
  exact ⟨r, h', e, z⟩
theorem ofC {h : MH} {i : Nat} {xs : List T} (B : Bag h i) (h1 : xs ≠ []) (h2 : xs.length ≤ 1000000) (hc : closedL xs = true) :
    ∃ (x : T) (h' : MH), (fS 2 mOfL) [.ref i, .lst xs] h = .ok x h' ∧ x ∈ xs ∧ Bag h' i ∧ Keeps i h h' := by
  obtain ⟨x, h', e, z⟩ := of_lst B h1 h2 hc
  exact ⟨x, h', e, z⟩
theorem Keeps.tab {h h' : MH} {o : MO} (k : Keeps 1 h h') (t : h[0]? = some o) : h'[0]? = some o := (k.get 0 (by decide)).trans t
theorem Bag.put {h : MH} {i k : Nat} {o : MO} (B : Bag h i) (hk : k ≠ i) : Bag (h.set k o) i := by
  obtain ⟨row, p, c, m, e, z⟩ := B.ex
  exact ⟨row, p, c, m, by rw [List.getElem?_set_ne hk]; exact e, z⟩
theorem Bag.lt {h : MH} {i : Nat} (B : Bag h i) : i < h.length := by
  obtain ⟨row, p, c, m, e, z⟩ := B.ex
  exact (List.getElem?_eq_some_iff.mp e).1
/-- the turns of the law's main loop -/
theorem turns {mgt : MG} {mb : MS} {Inv : SM → MH → Prop} : ∀ (xs : List T) (s : SM) (h : MH), Inv s h → (∀ x ∈ xs, ∀ s h, Inv s h → ∃ s1 h1 s2 h2, mgt x s h = .ok s1 h1 ∧ mb s1 h1 = .nx s2 h2 ∧ Inv s2 h2) → ∃ s2 h2, forFrom mgt mb xs s h = .nx s2 h2 ∧ Inv s2 h2
  | [], s, h, p, _ => ⟨s, h, rfl, p⟩
  | x :: xs, s, h, p, st => by
    obtain ⟨s1, h1, s2, h2, e1, e2, p2⟩ := st x List.mem_cons_self s h p
    obtain ⟨s3, h3, e3, p3⟩ := turns xs s2 h2 p2 (fun y hy => st y (List.mem_cons_of_mem _ hy))
    refine ⟨s3, h3, ?_, p3⟩
    unfold forFrom
    rw [e1]
    dsimp only
    rw [e2]
    exact e3
end Mi
end part_Bm
section part_Mi49
set_option maxRecDepth 100000
set_option maxHeartbeats 2000000
/-! Mi, part 49: operators of own classes. -/
namespace Mi
open PySem PySem.Spec PyProof.Rows L2
section
variable {X : Cx} {W : WX} {g : G} {a b : Expr} {ma mb : ME} {k : Nat} {c qual mn : Str} {st : Stmt} {ps : List Str} {mf : MF} {fm : List T → MH → R} {σ : L2.St} {Q : VK} {pos : Pos} {H : Hp}
end
/-! ### x = [.. for .. for ..], x of the frame alone -/
section
variable {X : Cx} {W : WX} {mt mt1 me : ME} {x : Str} {pos p : Pos}
theorem ss_setLc2 {i : Nat} {py : Pos} {elt tg iter tg1 iter1 : Expr} {ifs ifs1 : List Expr} {scope : Scope} {own : List (Str × Nat)} {vs1 : List Nat} {mi mi1 : MI} {mgt mgt1 : MG} {tl tl1 : List Nat} (hc : X.calm = true) (hN : X.N.Nodup) (hi : SI X W tg iter mi) (ok : BlkOk X.N X.env.scope scope own) (htl : subN tl (own.map (·.2)) = true) (htl1 : subN tl1 vs1 = true) (hv : subN vs1 (own.map (·.2)) = true)
    (hg : ∀ (s : Shared) (H : Hp) (C : Addr) (cl : List (Str × Addr)) (fp : List Addr), SG (X.blk s H scope (compEnvC scope cl C X.env) fp) tg tl mgt)
    (ht : ∀ (s : Shared) (H : Hp) (C : Addr) (cl : List (Str × Addr)) (fp : List Addr), PTs (X.blk s H scope (compEnvC scope cl C X.env) fp) ifs (tMT X.K X.mg W0 mt))
    (hi1 : ∀ (s : Shared) (H : Hp) (C : Addr) (cl : List (Str × Addr)) (fp : List Addr), SI (X.blk s H scope (compEnvC scope cl C X.env) fp) W0 tg1 iter1 mi1)
    (hg1 : ∀ (s : Shared) (H : Hp) (C : Addr) (cl : List (Str × Addr)) (fp : List Addr), SG (X.blk s H scope (compEnvC scope cl C X.env) fp) tg1 tl1 mgt1)
    (ht1 : ∀ (s : Shared) (H : Hp) (C : Addr) (cl : List (Str × Addr)) (fp : List Addr), PTs (X.blk s H scope (compEnvC scope cl C X.env) fp) ifs1 (tMT X.K X.mg W0 mt1))
    (he : ∀ (s : Shared) (H : Hp) (C : Addr) (cl : List (Str × Addr)) (fp : List Addr), SE (X.blk s H scope (compEnvC scope cl C X.env) fp) W0 elt me)
    (hsw : swapsWith (.ListComp elt [⟨tg, iter, ifs, 0⟩, ⟨tg1, iter1, ifs1, 0⟩] scope p) (some (.Name x py)) pos.line X.env = pure true) (hy : X.N[i]? = some x := by rfl) (hyl : X.env.scope.names.lookup x = some .local := by rfl)
    (hs : ∀ x, foldedSetIterable iter X.env x = pure x := by intro _; rfl) (hs1 : ∀ env x, foldedSetIterable iter1 env x = pure x := by intro _ _; rfl) :
    SS X W (.Assign [.Name x py] (.ListComp elt [⟨tg, iter, ifs, 0⟩, ⟨tg1, iter1, ifs1, 0⟩] scope p) pos) (mSet i (mLc2 mi mgt mt mi1 mgt1 mt1 me (own.map (·.2)) vs1)) :=
  weakS (ps_setLc2 hc hN hy hyl hsw hi ok (subN_ok hv) hg ht hi1 hg1 ht1 he hs hs1) fun D σ H h => by
    obtain ⟨g, s, rfl, R, S, h⟩ := h
    exact use_lc2 (W := W) (subN_ok htl) (subN_ok htl1) ⟨g, s, rfl, R, S, wpS_bind S h fun g1 t v e1 R1 r1 h1 => h1 g1 _ rfl (Ext.refl _) R1 ((S.mono e1).set r1 i)⟩
end
/-! ### head -/
section
variable {K : PySem.W.Frag} {mg : Str → Option Value} {h : Heap} {c : Str}
end
end Mi
end part_Mi49
section part_Mi50
set_option maxRecDepth 100000
set_option maxHeartbeats 2000000
/-! Mi, part 50: o.m(k = e, ..). -/
namespace Mi
open PySem PySem.Spec PyProof.Rows L2
def mMethK (c m : Str) (nk : Nat) (is : List Nat) (dts : List T) (fm : List T → MH → R) (mo : ME) (mk : MA) : ME := fun s h => (mo s h).bind fun t h1 => if isOf c m t h1 then (mk s h1).bind fun us h2 => if us.length = nk then fm (pick is (t :: (us ++ dts))) h2 else .stuck else .stuck
section
variable {X : Cx} {W : WX} {g : G} {a e : Expr} {ma : ME} {mr mk : MA} {k : Nat} {c qual x : Str} {st : Stmt} {ps : List Str} {mf : MF} {fm : List T → MH → R} {σ : L2.St} {Q : VK} {p pos apos : Pos} {H : Hp} {dts : List T} {kws : List Keyword} {ks : List Str} {is : List Nat}
end
end Mi
end part_Mi50
section part_Mi51
set_option maxRecDepth 100000
set_option maxHeartbeats 2000000
/-! Mi, part 51: xs[::-1], lists and tuples. -/
namespace Mi
open PySem PySem.Spec PyProof.Rows L2 HT
section
variable {prog : Program} {w : World} {A : Around} {E : Value → Shared → Prop} {s : Shared}
theorem fm : ∀ (l : List Nat) (f g : Nat → Option Value), (∀ m ∈ l, f m = g m) → l.filterMap f = l.filterMap g
  | [], _, _, _ => rfl
  | a :: l, f, g, h => by
    simp only [List.filterMap_cons, h a List.mem_cons_self, fm l f g fun m hm => h m (List.mem_cons_of_mem _ hm)]
end
section
variable {X : Cx} {W : WX} {a : Expr} {ma : ME}
end
end Mi
end part_Mi51
section part_Mi52
set_option maxRecDepth 100000
set_option maxHeartbeats 2000000
/-! Mi, part 52: sorted(xs), xs a list of data that compare, of any length and depth. -/
namespace Mi
open PySem PySem.Spec PyProof.Rows L2
section
variable {X : Cx} {K : PySem.W.Frag} {mg : Str → Option Value} {g : G}
end
end Mi
end part_Mi52
section part_Mi53
set_option maxRecDepth 100000
set_option maxHeartbeats 4000000
/-! Mi, part 53: static methods with one keyword-only parameter, read off their class. -/
namespace Mi
open PySem PySem.Spec PyProof.Rows L2
/-- C.m is a staticmethod: its record at p, its def at g -/
structure SMet (K : PySem.W.Frag) (C : Addr) (mc : Value) (m : Str) (p g : Addr) : Prop where
  at_ : PySem.W.findCls K (.ref C) mc m = some (.get (.builtin "staticmethod.__get__") (.ref p) .none (.ref C))
  rc : ∃ rest, PySem.W.recIn K p "staticmethod" = some (.ref g :: rest)
/-- a def with keyword-only defaults kdts -/
structure FnK (P : Program) (w : World) (K : PySem.W.Frag) (mg : Str → Option Value) (base : Heap) (k : Nat) (x qual : Str) (st : Stmt) (ps : List Str) (kdts : List (Str × T)) (m : MF) (f : Addr) (fd : FuncData) (kvs : List (Str × V)) : Prop where
  F : FunD K x qual (defArgs st) (defBody st) (defScope st) [] kvs f fd
  kn : kvs.map (·.1) = kdts.map (·.1)
  kr : ∀ g, RepL K mg g (kdts.map (·.2)) (kvs.map (·.2))
  ne : kvs ≠ []
  ok : FnOk P w K mg base (L2.CX P w) k f fd ps (spM K mg ps.length m)
def HasS (P : Program) (w : World) (K : PySem.W.Frag) (mg : Str → Option Value) (base : Heap) (k : Nat) (c x qual : Str) (st : Stmt) (ps : List Str) (kdts : List (Str × T)) (m : MF) : Prop :=
  ∃ C p f fd kvs mc, mg c = some (.ref C) ∧ ClX.CRead K C mc ∧ SMet K C mc x p f ∧ FnK P w K mg base k x qual st ps kdts m f fd kvs
theorem HasS.up {P : Program} {w : World} {K : PySem.W.Frag} {mg : Str → Option Value} {base : Heap} {j k : Nat} {c x qual : Str} {st : Stmt} {ps : List Str} {kdts : List (Str × T)} {m : MF} (h : HasS P w K mg base j c x qual st ps kdts m) (l : j ≤ k) : HasS P w K mg base k c x qual st ps kdts m := by
  obtain ⟨C, p, f, fd, kvs, mc, h1, h2, h3, h4⟩ := h
  exact ⟨C, p, f, fd, kvs, mc, h1, h2, h3, ⟨h4.F, h4.kn, h4.kr, h4.ne, h4.ok.mono l⟩⟩
/-- how a call binds: n positional values, keywords ks; the keyword-only parameters kn lack -/
def KwO (st : Stmt) (x qual : Str) (ps : List Str) (n : Nat) (kn ks : List Str) (is : List Nat) : Prop := ∀ (D : Addr) (doc pm : Value) (an : Option Addr) (cdv ct : Value) (us mv ws : List Value), us.length = n → mv.length = kn.length → ws.length = ks.length →
  KwChain D (kn.zip mv) (bindArgs (PySem.W.fnOf x qual (defArgs st) (defBody st) (defScope st) .none (.ref D) doc pm an cdv ct) ⟨us, ks.zip ws⟩) (ps.zip (pick is (us ++ ws ++ mv)))
section
variable {X : Cx} {K : PySem.W.Frag} {mg : Str → Option Value} {W : WX} {g : G} {σ : L2.St} {Q : VK}
variable {a b e : Expr} {ma mb me : ME} {mr mk : MA} {pos p apos : Pos} {es : List Expr} {c x : Str} {kws : List Keyword}
variable {k n j : Nat} {qual : Str} {st : Stmt} {ps ks : List Str} {is : List Nat} {kdts ms : List (Str × T)} {mf : MF} {fm : List T → MH → R}
end
/-! ### what the module says of them -/
theorem kKw_ok {K : PySem.W.Frag} {mg : Str → Option Value} {D : Addr} : ∀ {l : List (Str × T)}, kKw K D l = true → ∃ kvs : List (Str × V), kvs.map (·.1) = l.map (·.1) ∧ (∀ g, RepL K mg g (l.map (·.2)) (kvs.map (·.2))) ∧ ∀ q ∈ kvs, ∃ u, PySem.W.nsIn K D q.1 = some (some u) ∧ RelV q.2 u
  | [], _ => ⟨[], rfl, fun g => RepL.nil, fun q h => by cases h⟩
  | (y, t) :: r, h => by
    unfold kKw at h
    obtain ⟨h1, h2⟩ := Bool.and_eq_true_iff.mp h
    obtain ⟨kvs, e1, e2, e3⟩ := kKw_ok (mg := mg) h2
    split at h1
    · rename_i u q
      obtain ⟨v, rv, rr⟩ := kT_of (mg := mg) t u h1
      refine ⟨(y, v) :: kvs, by rw [List.map_cons, List.map_cons, e1], fun g => RepL.cons (rr g) (e2 g), fun q' hq => ?_⟩
      rcases List.mem_cons.mp hq with z | z
      · rw [z]; exact ⟨u, q, rv⟩
      · exact e3 q' z
    · cases h1
theorem okK_ok {K : PySem.W.Frag} {mg : Str → Option Value} {a : Addr} {x qual : Str} {st : Stmt} {kdts : List (Str × T)} (e : fnS K a = some (x, qual, defArgs st, .stmts (defBody st), defScope st, mainGlobals, builtinsNs)) (b : okK K a qual kdts = true) (hne : kdts ≠ []) :
    ∃ fd kvs, FunD K x qual (defArgs st) (defBody st) (defScope st) [] kvs a fd ∧ kvs.map (·.1) = kdts.map (·.1) ∧ (∀ g, RepL K mg g (kdts.map (·.2)) (kvs.map (·.2))) ∧ kvs ≠ [] := by
  unfold okK at b
  obtain ⟨kp, b⟩ := bb b
  unfold fnS at e
  split at b
  · rename_i oc od fd osl lk
    rw [lk] at e
    obtain ⟨n1, n2, n3, n4, n5, n6, n7, n8, n9, n10, n11, n12, n13, n14, n15⟩ := fd
    have e2 : (some (n1, n2, n3, n4, n5, n6, n15) : FnS) = some (x, qual, defArgs st, .stmts (defBody st), defScope st, mainGlobals, builtinsNs) := e
    simp only [Option.some.injEq, Prod.mk.injEq] at e2
    obtain ⟨h1, h2, h3, h4, h5, h6, h8⟩ := e2
    subst h1 h2 h3 h4 h5 h6 h8
    obtain ⟨b1, b⟩ := bb b
    obtain ⟨b2, b3⟩ := bb b
    have e7 : n7 = [] := List.isEmpty_iff.mp b1
    subst e7
    dsimp only at b3
    split at b3
    · rename_i D bz
      obtain ⟨kvs, z1, z2, z3⟩ := kKw_ok (mg := mg) b3
      have ne : kvs ≠ [] := fun z => by
        rw [z] at z1
        exact hne (List.map_eq_nil_iff.mp z1.symm)
      exact ⟨_, kvs, ⟨⟨oc, od, _, _, n10, n11, n12, n13, n14, osl, rfl, lk, b2, .inl ⟨rfl, rfl⟩, .inr ⟨D, rfl, z3⟩⟩, kp⟩, z1, z2, ne⟩
    · cases b3
  · cases b
section
variable {K : PySem.W.Frag} {mg : Str → Option Value} {h : Heap} {c x : Str} {st : Stmt} {kdts : List (Str × T)}
end
end Mi
end part_Mi53
section part_Mi54
set_option maxRecDepth 100000
set_option maxHeartbeats 4000000
/-! Mi, part 54: sorted({i, j}) of ints, tuple(range(n)), abs(n). -/
namespace Mi
open PySem PySem.Spec PyProof.Rows L2
section
variable {prog : Program} {w : World} {A : Around} {E : Value → Shared → Prop} {s : Shared}
end
section
variable {X : Cx} {W : WX} {g : G} {a b e : Expr} {ma mb me : ME} {mr : MA} {p pos p1 p2 q1 q2 : Pos} {σ : L2.St} {Q : VK} {ta tb : TE}
/-! ### tuple(range(n)) -/
end
/-! ### a def whose code object is known -/
end Mi
namespace Mi
open PySem PySem.Spec PyProof.Rows L2
section
variable {X : Cx} {W : WX} {a b c : Expr} {ma mb mc : ME} {pos : Pos}
end
end Mi
end part_Mi54
section part_Mi55
set_option maxRecDepth 100000
set_option maxHeartbeats 4000000
/-! Mi, part 55: dicts that do not change: dict(t), d[k], d.get(k, x), k in d, {..}; dicts of the module with text keys. -/
namespace Mi
open PySem PySem.Spec PyProof.Rows L2
/-! ### keys -/
def keyOfT : T → Option Key
  | .int i => some (.inl i)
  | .str x => some (.inr x)
  | _ => none
/-- what a dict holds at a key -/
def look (k : Key) : List T → List T → Option T
  | x :: ks, v :: vs => if keyOfT x = some k then some v else look k ks vs
  | _, _ => none
section
variable {X : Cx} {K : PySem.W.Frag} {mg : Str → Option Value} {W : WX} {g : G} {σ : L2.St} {Q : VK}
/-! ### d[k] -/
/-! ### d.get(k, x) -/
def fDget2 : T → T → T → MH → R := fun t u d h => match t, keyOfT u with
  | .dct ks vs, some k => match look k ks vs with
    | some v => .ok v h
    | none => .ok d h
  | _, _ => .stuck
def isDct : T → Bool
  | .dct _ _ => true
  | _ => false
def mDget2 (mo ma mb : ME) : ME := fun s h => (mo s h).bind fun t h1 => if isDct t then (ma s h1).bind fun u h2 => (mb s h2).bind fun d h3 => fDget2 t u d h3 else .stuck
/-! ### k in d -/
/-! ### dict(t), t a tuple of pairs -/
/-! ### a dict of the module, text keys -/
end
end Mi
end part_Mi55
section part_Mi56
set_option maxRecDepth 100000
set_option maxHeartbeats 4000000
/-! Mi, part 56: sorted(set(xs)), xs a list of any length whose different pairs are few. -/
namespace Mi
open PySem PySem.Spec PyProof.Rows L2
section
variable {P : Program} {w : World} {A : Around} {E : Value → Shared → Prop} {s : Shared}
end
section
variable {X : Cx} {K : PySem.W.Frag} {mg : Str → Option Value} {W : WX} {g : G} {σ : L2.St} {Q : VK}
end
end Mi
end part_Mi56
section part_Mi57
set_option maxRecDepth 100000
set_option maxHeartbeats 4000000
/-! Mi, part 57: a head that knows dicts of the module with text keys; text.index(text). -/
namespace Mi
open PySem PySem.Spec PyProof.Rows L2
/-! ### the hook -/
/-! ### text.index(text) -/
section
variable {X : Cx}
end
end Mi
end part_Mi57
section part_Mi58
set_option maxRecDepth 100000
set_option maxHeartbeats 4000000
/-! Mi, part 58: constants of a class, displays of constant dicts, static methods with a star parameter; heads with constant dicts and no lambdas. -/
namespace Mi
open PySem PySem.Spec PyProof.Rows L2
/-! ### a constant of a class -/
section
variable {X : Cx} {K : PySem.W.Frag} {mg : Str → Option Value} {W : WX} {g : G} {σ : L2.St} {Q : VK} {h : Heap}
variable {a b e : Expr} {ma mb me : ME} {mr mk : MA} {pos p apos : Pos} {es : List Expr} {c x f : Str} {t : T} {st : Stmt}
/-! ### {k: v, ..} of constants -/
end
/-! ### static methods with a star parameter -/
def spV (K : PySem.W.Frag) (mg : Str → Option Value) (m : MF) : Sp := fun vs H Q E => vs.length ≤ sizeLine ∧ ∀ (o : Obj) p, o.dict = none → H p = none → spM K mg 1 m [V.ref p] (upd H p (.frz o (.tup vs))) Q E
def HasV (P : Program) (w : World) (K : PySem.W.Frag) (mg : Str → Option Value) (base : Heap) (k : Nat) (c x : Str) (m : MF) : Prop :=
  ∃ C p f mc, mg c = some (.ref C) ∧ ClX.CRead K C mc ∧ SMet K C mc x p f ∧ PySem.W.keepIn K (.ref f) = true ∧ L2.FnR P w K mg base (L2.CX P w) k f (spV K mg m)
theorem HasV.up {P : Program} {w : World} {K : PySem.W.Frag} {mg : Str → Option Value} {base : Heap} {j k : Nat} {c x : Str} {m : MF} (h : HasV P w K mg base j c x m) (l : j ≤ k) : HasV P w K mg base k c x m := by
  obtain ⟨C, p, f, mc, h1, h2, h3, h4, h5⟩ := h
  exact ⟨C, p, f, mc, h1, h2, h3, h4, h5.mono l⟩
section
variable {X : Cx} {W : WX} {g : G} {σ : L2.St} {Q : VK}
variable {e : Expr} {mr : MA} {pos p apos : Pos} {es : List Expr} {c x : Str} {k : Nat} {mf : MF} {fm : List T → MH → R}
end
section
variable {K : PySem.W.Frag} {mg : Str → Option Value} {h : Heap} {c x : Str} {st : Stmt}
end
end Mi
namespace Mi
open PySem PySem.Spec PyProof.Rows L2
/-! ### the hook of a law without lambdas whose module has constant dicts -/
end Mi
end part_Mi58
section part_Mi59
set_option maxRecDepth 100000
set_option maxHeartbeats 4000000
/-! Mi, part 59: an expression runs while a changeable list is locked: it is read as a value, and stands unchanged behind. -/
namespace Mi
open PySem PySem.Spec PyProof.Rows L2
section
variable {X : Cx} {K : PySem.W.Frag} {mg : Str → Option Value} {W : WX} {g g' : G} {σ : L2.St} {Q : VK}
/-- the ghost under the lock -/
def G.lk (g : G) (k : Nat) (d : Addr) (od : Obj) (vs : List V) : G := ⟨g.rho, g.h.set k .dead, g.pv, upd g.H d (.frz od (.lst vs))⟩
/-- the ghost behind it -/
def G.un (g : G) (k : Nat) (d : Addr) (xs : List T) (vs : List V) : G := ⟨g.rho, g.h.set k (.lst xs), g.pv, upd g.H d (.lst vs)⟩
section
variable {k : Nat} {d : Addr} {od : Obj} {vs : List V} {xs : List T}
end
end
end Mi
end part_Mi59
section part_Bw
set_option maxRecDepth 100000
set_option maxHeartbeats 2000000
/-! Bw: what must hold of a mirror's answers: rules to walk through a mirror by its form. -/
namespace Mi
open PySem PySem.Spec PyProof.Rows L2
/-- an expression answers (Q) or raises (X) -/
def WE (r : R) (Q : T → MH → Prop) (X : Exc → MH → Prop) : Prop := (∃ t h, r = .ok t h ∧ Q t h) ∨ ∃ x h, r = .ex x h ∧ X x h
def WA (r : RL) (Q : List T → MH → Prop) (X : Exc → MH → Prop) : Prop := (∃ t h, r = .ok t h ∧ Q t h) ∨ ∃ x h, r = .ex x h ∧ X x h
def WG (r : GR) (Q : SM → MH → Prop) : Prop := ∃ s h, r = .ok s h ∧ Q s h
/-- a statement goes on (N), returns (V) or raises (X) -/
def WS (r : SR) (N : SM → MH → Prop) (V : T → MH → Prop) (X : Exc → SM → MH → Prop) : Prop := (∃ s h, r = .nx s h ∧ N s h) ∨ (∃ t h, r = .rt t h ∧ V t h) ∨ ∃ x s h, r = .ex x s h ∧ X x s h
section
variable {s : SM} {h h1 : MH} {t u : T} {b : Bool} {ts : List T} {Q : T → MH → Prop} {QA : List T → MH → Prop} {X : Exc → MH → Prop} {N : SM → MH → Prop} {V : T → MH → Prop} {Y : Exc → SM → MH → Prop}
theorem we_at {r : R} (e : r = .ok t h) (q : Q t h) : WE r Q X := .inl ⟨t, h, e, q⟩
theorem we_ax {r : R} {x : Exc} (e : r = .ex x h) (q : X x h) : WE r Q X := .inr ⟨x, h, e, q⟩
theorem wa_at {r : RL} (e : r = .ok ts h) (q : QA ts h) : WA r QA X := .inl ⟨ts, h, e, q⟩
theorem wg_at {r : GR} (e : r = .ok s h) (q : N s h) : WG r N := ⟨s, h, e, q⟩
theorem ws_at {r : SR} (e : r = .nx s h) (q : N s h) : WS r N V Y := .inl ⟨s, h, e, q⟩
theorem ws_ar {r : SR} (e : r = .rt t h) (q : V t h) : WS r N V Y := .inr (.inl ⟨t, h, e, q⟩)
theorem ws_ax {r : SR} {x : Exc} (e : r = .ex x s h) (q : Y x s h) : WS r N V Y := .inr (.inr ⟨x, s, h, e, q⟩)
theorem we_mono {r : R} {Q' : T → MH → Prop} (w : WE r Q X) (f : ∀ t h, Q t h → Q' t h) : WE r Q' X := w.imp (fun ⟨t, h, e, q⟩ => ⟨t, h, e, f t h q⟩) id
theorem ws_mono {r : SR} {N' : SM → MH → Prop} (w : WS r N V Y) (f : ∀ s h, N s h → N' s h) : WS r N' V Y := w.imp (fun ⟨t, h, e, q⟩ => ⟨t, h, e, f t h q⟩) id
/-! ### expressions -/
theorem we_var {k : Nat} (e : s[k]? = some (some t)) (q : Q t h) : WE (mVar k s h) Q X := we_at (var_ok h e) q
theorem we_c (q : Q t h) : WE (mC t s h) Q X := we_at rfl q
theorem we_bind {r : R} {f : T → MH → R} (w : WE r (fun t h1 => WE (f t h1) Q X) X) : WE (r.bind f) Q X := by
  rcases w with ⟨t, h, rfl, w⟩ | ⟨x, h, rfl, q⟩
  · exact w
  · exact we_ax rfl q
theorem wa_bind {r : RL} {f : List T → MH → R} (w : WA r (fun t h1 => WE (f t h1) Q X) X) : WE (r.bind f) Q X := by
  rcases w with ⟨t, h, rfl, w⟩ | ⟨x, h, rfl, q⟩
  · exact w
  · exact we_ax rfl q
theorem we_m1 {f : T → MH → R} {a : ME} (w : WE (a s h) (fun t h1 => WE (f t h1) Q X) X) : WE (m1 f a s h) Q X := we_bind w
theorem we_m2 {f : T → T → MH → R} {a c : ME} (w : WE (a s h) (fun t h1 => WE (c s h1) (fun u h2 => WE (f t u h2) Q X) X) X) : WE (m2 f a c s h) Q X :=
  we_bind (we_mono w fun _ _ q => we_bind q)
theorem we_mA {f : List T → MH → R} {mr : MA} (w : WA (mr s h) (fun ts h1 => WE (f ts h1) Q X) X) : WE (mA f mr s h) Q X := wa_bind w
theorem wa_nil (q : QA [] h) : WA (aNil s h) QA X := wa_at rfl q
theorem wa_cons {me : ME} {mr : MA} (w : WE (me s h) (fun t h1 => WA (mr s h1) (fun ts h2 => QA (t :: ts) h2) X) X) : WA (aCons me mr s h) QA X := by
  rcases w with ⟨t, h1, e1, w⟩ | ⟨x, h1, e, q⟩
  · rcases w with ⟨ts, h2, e2, q⟩ | ⟨x, h2, e2, q⟩
    · exact wa_at (cons_ok e1 e2) q
    · exact .inr ⟨x, h2, by simp only [mi, e1, e2], q⟩
  · exact .inr ⟨x, h1, by simp only [mi, e], q⟩
theorem we_ftup (l : decide (ts.length ≤ 1000) = true) (q : Q (.tup ts) h) : WE (fTup ts h) Q X := we_at (by
  unfold fTup
  rw [if_pos (big_of (Nat.le_trans (of_decide_eq_true l) (by decide)))]) q
theorem we_flst (l : decide (ts.length ≤ 1000) = true) (q : Q (.lst ts) h) : WE (fLst ts h) Q X := we_at (by
  unfold fLst
  rw [if_pos (big_of (Nat.le_trans (of_decide_eq_true l) (by decide)))]) q
theorem we_tru {a : ME} (w : WE (a s h) (fun t h1 => WE (fTru t h1) Q X) X) : WE (mTru a s h) Q X := we_bind w
theorem we_ftru (q : Q (.bl b) h) : WE (fTru (.bl b) h) Q X := we_at rfl q
theorem we_not {a : ME} (w : WE (a s h) (fun t h1 => WE (fNot t h1) Q X) X) : WE (mNot a s h) Q X := we_bind w
theorem we_fnot_t (q : Q (.bl false) h) : WE (fNot (.bl true) h) Q X := we_at rfl q
theorem we_fnot_f (q : Q (.bl true) h) : WE (fNot (.bl false) h) Q X := we_at rfl q
theorem we_fnot (q : Q (.bl (!b)) h) : WE (fNot (.bl b) h) Q X := we_at rfl q
theorem we_and {a c : ME} (w : WE (a s h) (fun t h1 => WE (fAnd c s t h1) Q X) X) : WE (mAnd a c s h) Q X := we_bind w
theorem we_and_t {c : ME} (q : WE (c s h) Q X) : WE (fAnd c s (.bl true) h) Q X := q
theorem we_and_f {c : ME} (q : Q (.bl false) h) : WE (fAnd c s (.bl false) h) Q X := we_at rfl q
theorem we_or {a c : ME} (w : WE (a s h) (fun t h1 => WE (fOr c s t h1) Q X) X) : WE (mOr a c s h) Q X := we_bind w
theorem we_or_f {c : ME} (q : WE (c s h) Q X) : WE (fOr c s (.bl false) h) Q X := q
theorem we_or_t {c : ME} (q : Q (.bl true) h) : WE (fOr c s (.bl true) h) Q X := we_at rfl q
theorem we_if {a c d : ME} (w : WE (a s h) (fun t h1 => WE (fIf c d s t h1) Q X) X) : WE (mIf a c d s h) Q X := we_bind w
theorem we_if_t {c d : ME} (q : WE (c s h) Q X) : WE (fIf c d s (.bl true) h) Q X := q
theorem we_if_f {c d : ME} (q : WE (d s h) Q X) : WE (fIf c d s (.bl false) h) Q X := q
theorem we_andv {a c : ME} (w : WE (a s h) (fun t h1 => WE (fAndV c s t h1) Q X) X) : WE (mAndV a c s h) Q X := we_bind w
theorem we_andv_t {c : ME} (q : WE (c s h) Q X) : WE (fAndV c s (.bl true) h) Q X := q
theorem we_andv_f {c : ME} (q : Q (.bl false) h) : WE (fAndV c s (.bl false) h) Q X := we_at rfl q
theorem we_orv {a c : ME} (w : WE (a s h) (fun t h1 => WE (fOrV c s t h1) Q X) X) : WE (mOrV a c s h) Q X := we_bind w
theorem we_orv_f {c : ME} (q : WE (c s h) Q X) : WE (fOrV c s (.bl false) h) Q X := q
theorem we_orv_t {c : ME} (q : Q (.bl true) h) : WE (fOrV c s (.bl true) h) Q X := we_at rfl q
theorem we_notv {a : ME} (w : WE (a s h) (fun t h1 => WE (fNotV t h1) Q X) X) : WE (mNotV a s h) Q X := we_bind w
theorem we_fnotv_t (q : Q (.bl false) h) : WE (fNotV (.bl true) h) Q X := we_at rfl q
theorem we_fnotv_f (q : Q (.bl true) h) : WE (fNotV (.bl false) h) Q X := we_at rfl q
theorem we_fnotv (q : Q (.bl (!b)) h) : WE (fNotV (.bl b) h) Q X := we_at rfl q
theorem we_sl {a c d : ME} (w : WE (a s h) (fun t h1 => WE (c s h1) (fun l h2 => WE (d s h2) (fun u h3 => WE (fSl t l u h3) Q X) X) X) X) : WE (mSl a c d s h) Q X :=
  we_bind (we_mono w fun _ _ q => we_bind (we_mono q fun _ _ q => we_bind q))
theorem we_part {k : Int} (q : Q (.int k) h) : WE (fPart (.int k) h) Q X := we_at rfl q
theorem we_chain {f f' : T → T → MH → R} {a c d : ME} (w : WE (a s h) (fun t h1 => WE (c s h1) (fun u h2 => WE (f t u h2) (fun k h3 => (k = .bl true ∧ WE (d s h3) (fun w h4 => WE (f' u w h4) Q X) X) ∨ k = .bl false ∧ Q (.bl false) h3) X) X) X) : WE (mChain f f' a c d s h) Q X :=
  we_bind (we_mono w fun _ _ q => we_bind (we_mono q fun _ _ q => we_bind (we_mono q fun _ _ q => by
    rcases q with ⟨rfl, q⟩ | ⟨rfl, q⟩
    · exact we_bind q
    · exact we_at rfl q)))
theorem we_me {T' : String} {f : T → List T → MH → R} {mo : ME} {mr : MA} (w : WE (mo s h) (fun t h1 => tyOK T' t h1 = true ∧ WA (mr s h1) (fun ts h2 => WE (f t ts h2) Q X) X) X) : WE (mMe T' f mo mr s h) Q X :=
  we_bind (we_mono w fun t h1 ⟨e, q⟩ => by rw [if_pos e]; exact wa_bind q)
theorem we_meth {c m : Str} {dts : List T} {fm : List T → MH → R} {mo : ME} {mr : MA} (w : WE (mo s h) (fun t h1 => isOf c m t h1 = true ∧ WA (mr s h1) (fun ts h2 => WE (fm (t :: (ts ++ dts)) h2) Q X) X) X) : WE (mMeth c m dts fm mo mr s h) Q X :=
  we_bind (we_mono w fun t h1 ⟨e, q⟩ => by rw [if_pos e]; exact wa_bind q)
theorem we_methK {c m : Str} {nk : Nat} {js : List Nat} {dts : List T} {fm : List T → MH → R} {mo : ME} {mk : MA} (w : WE (mo s h) (fun t h1 => isOf c m t h1 = true ∧ WA (mk s h1) (fun us h2 => us.length = nk ∧ WE (fm (pick js (t :: (us ++ dts))) h2) Q X) X) X) : WE (mMethK c m nk js dts fm mo mk s h) Q X :=
  we_bind (we_mono w fun t h1 ⟨e, q⟩ => by
    rw [if_pos e]
    refine wa_bind ?_
    rcases q with ⟨us, h2, e2, l, q⟩ | q
    · refine wa_at e2 ?_
      rw [if_pos l]
      exact q
    · exact .inr q)
theorem we_lc {mi' : MI} {mgt : MG} {mt me : ME} {own : List Nat} (w : WA (mi' s h) (fun xs h1 => WE (lcFrom mgt mt me (wipeM s own) xs [] h1) Q X) X) : WE (mLc mi' mgt mt me own s h) Q X := wa_bind w
theorem ws_fzB {i k : Nat} {m : MS} (e : s[i]? = some (some (.ref k))) (B : Bag h k) (w : ∀ ys, WS (m (s.set i (some (.lst ys))) (h.set k .dead)) N V Y) : WS (mFz i m s h) N V Y := by
  obtain ⟨row, p, c, m', eh, _⟩ := B.ex
  rw [fz_at (ys := [.lst (row.map .int), .int p, .int c, .int m']) e eh]
  exact w _
theorem we_dget2 {mo ma mb : ME} (w : WE (mo s h) (fun t h1 => isDct t = true ∧ WE (ma s h1) (fun u h2 => WE (mb s h2) (fun d h3 => WE (fDget2 t u d h3) Q X) X) X) X) : WE (mDget2 mo ma mb s h) Q X :=
  we_bind (we_mono w fun t h1 ⟨e, q⟩ => by rw [if_pos e]; exact we_bind (we_mono q fun _ _ q => we_bind q))
theorem we_fS {n : Nat} {m : MF} (l : ts.length = n) (q : WE (m ts h) Q X) : WE (fS n m ts h) Q X := by
  unfold fS
  rw [if_pos l]
  exact q
theorem we_fMkN {n : Nat} {f : List T → MH → R} (l : ts.length = n) (q : WE (f ts h) Q X) : WE (fMkN n f ts h) Q X := by
  unfold fMkN
  rw [if_pos l]
  exact q
/-! ### sources of loops -/
theorem wa_src {a : ME} (w : WE (a s h) (fun t h1 => WA (iS t h1) QA X) X) : WA (mSrc a s h) QA X := by
  rcases w with ⟨t, h1, e, q⟩ | ⟨x, h1, e, q⟩
  · unfold mSrc; rw [e]; exact q
  · exact .inr ⟨x, h1, by unfold mSrc; rw [e]; rfl, q⟩
theorem wa_iS {xs : List T} (e : srcOf t = some xs) (q : QA xs h) : WA (iS t h) QA X := wa_at (by unfold iS; rw [e]) q
theorem wa_IA {f : List T → MH → RL} {mr : MA} (w : WA (mr s h) (fun ts h1 => WA (f ts h1) QA X) X) : WA (mIA f mr s h) QA X := by
  rcases w with ⟨t, h1, e, q⟩ | ⟨x, h1, e, q⟩
  · unfold mIA; rw [e]; exact q
  · exact .inr ⟨x, h1, by unfold mIA; rw [e]; rfl, q⟩
/-! ### targets -/
theorem wg_n {i : Nat} (q : N (s.set i (some t)) h) : WG (gN i t s h) N := wg_at rfl q
theorem wg_t {n : Nat} {ms : MGs} {xs : List T} (l : xs.length = n) (w : WG (ms xs s h) N) : WG (gT n ms (.tup xs) s h) N := by
  show WG (if xs.length = n then ms xs s h else .stuck) N
  rw [if_pos l]
  exact w
theorem wg_p {n : Nat} {ms : MGs} {xs : List T} (l : xs.length = n) (w : WG (ms xs s h) N) : WG (gT n ms (.tpl xs) s h) N := by
  show WG (if xs.length = n then ms xs s h else .stuck) N
  rw [if_pos l]
  exact w
theorem wg_nil (q : N s h) : WG (gsNil [] s h) N := wg_at rfl q
theorem wg_cons {m : MG} {ms : MGs} {r : List T} (w : WG (m t s h) (fun s1 h1 => WG (ms r s1 h1) N)) : WG (gsCons m ms (t :: r) s h) N := by
  obtain ⟨s1, h1, e, q⟩ := w
  show WG (match m t s h with
    | .ok s1 h1 => ms r s1 h1
    | .stuck => .stuck) N
  rw [e]
  exact q
/-! ### statements -/
theorem ws_nx (q : N s h) : WS (mNx s h) N V Y := ws_at rfl q
theorem ws_sq {m m' : MS} (w : WS (m s h) (fun s1 h1 => WS (m' s1 h1) N V Y) V Y) : WS (mSq m m' s h) N V Y := by
  rcases w with ⟨s1, h1, e, q⟩ | ⟨t, h1, e, q⟩ | ⟨x, s1, h1, e, q⟩
  · rw [seq_nx e]; exact q
  · exact ws_ar (seq_rt e) q
  · exact ws_ax (by simp only [mi, e]) q
theorem ws_toS {r : R} {f : T → MH → SR} (w : WE r (fun t h1 => WS (f t h1) N V Y) (fun x h1 => Y x s h1)) : WS (r.toS s f) N V Y := by
  rcases w with ⟨t, h1, rfl, q⟩ | ⟨x, h1, rfl, q⟩
  · exact q
  · exact ws_ax rfl q
theorem ws_set {i : Nat} {me : ME} (w : WE (me s h) (fun t h1 => N (s.set i (some t)) h1) (fun x h1 => Y x s h1)) : WS (mSet i me s h) N V Y := ws_toS (we_mono w fun _ _ q => ws_at rfl q)
theorem ws_ex {me : ME} (w : WE (me s h) (fun _ h1 => N s h1) (fun x h1 => Y x s h1)) : WS (mEx me s h) N V Y := ws_toS (we_mono w fun _ _ q => ws_at rfl q)
theorem ws_ret {me : ME} (w : WE (me s h) (fun t h1 => V t h1) (fun x h1 => Y x s h1)) : WS (mRet me s h) N V Y := ws_toS (we_mono w fun _ _ q => ws_ar rfl q)
theorem ws_retF {me : ME} (w : WE (me s h) (fun t h1 => closed t = true ∧ V t h1) (fun x h1 => Y x s h1)) : WS (mRetF me s h) N V Y := ws_toS (we_mono w fun t h1 ⟨c, q⟩ => ws_ar (t := t) (h := h1) (by rw [fzT_closed c]) q)
theorem ws_ifs {mc : ME} {m m' : MS} (w : WE (mc s h) (fun t h1 => WS (fIfS m m' s t h1) N V Y) (fun x h1 => Y x s h1)) : WS (mIfS mc m m' s h) N V Y := ws_toS w
theorem ws_ifs_t {m m' : MS} (q : WS (m s h) N V Y) : WS (fIfS m m' s (.bl true) h) N V Y := q
theorem ws_ifs_f {m m' : MS} (q : WS (m' s h) N V Y) : WS (fIfS m m' s (.bl false) h) N V Y := q
theorem ws_as {me : ME} {mgt : MG} (w : WE (me s h) (fun t h1 => WG (mgt t s h1) N) (fun x h1 => Y x s h1)) : WS (mAs me mgt s h) N V Y := ws_toS (we_mono w fun t h1 ⟨s1, h2, e, q⟩ => ws_at (s := s1) (h := h2) (by rw [e]) q)
theorem ws_raise {f : List T → MH → R} {mr : MA} (w : WA (mr s h) (fun ts h1 => ∃ c ns vs h2, f ts h1 = .ok (.exn c ns vs) h2 ∧ Y ⟨c, ns, vs⟩ s h2) (fun x h1 => Y x s h1)) : WS (mRaise f mr s h) N V Y := by
  rcases w with ⟨ts, h1, e, c, ns, vs, h2, e2, q⟩ | ⟨x, h1, e, q⟩
  · exact ws_ax (x := ⟨c, ns, vs⟩) (s := s) (h := h2) (by unfold mRaise; rw [e]; dsimp only; rw [e2]) q
  · exact ws_ax (by unfold mRaise; rw [e]) q
theorem ws_fz {i k : Nat} {m : MS} {ys : List T} (e : s[i]? = some (some (.ref k))) (eh : h[k]? = some (.lst ys)) (w : WS (m (s.set i (some (.lst ys))) (h.set k .dead)) N V Y) : WS (mFz i m s h) N V Y := by rw [fz_at e eh]; exact w
theorem ws_for {mi' : MI} {mgt : MG} {mb : MS} (w : WA (mi' s h) (fun xs h1 => WS (forFrom mgt mb xs s h1) N V Y) (fun x h1 => Y x s h1)) : WS (mFor mi' mgt mb s h) N V Y := by
  rcases w with ⟨xs, h1, e, q⟩ | ⟨x, h1, e, q⟩
  · unfold mFor; rw [e]; exact q
  · exact ws_ax (by unfold mFor; rw [e]) q
/-- a loop, by what holds ahead of the items that are left -/
theorem ws_inv {mgt : MG} {mb : MS} (I : List T → SM → MH → Prop) (f : ∀ s h, I [] s h → N s h) (st : ∀ x xs s h, I (x :: xs) s h → WG (mgt x s h) (fun s1 h1 => WS (mb s1 h1) (I xs) V Y)) : ∀ (xs : List T) (s : SM) (h : MH), I xs s h → WS (forFrom mgt mb xs s h) N V Y
  | [], s, h, i => ws_at rfl (f s h i)
  | x :: xs, s, h, i => by
    obtain ⟨s1, h1, e1, q⟩ := st x xs s h i
    have fe : forFrom mgt mb (x :: xs) s h = (match mb s1 h1 with
      | .nx s2 h2 => forFrom mgt mb xs s2 h2
      | .ct s2 h2 => forFrom mgt mb xs s2 h2
      | .bk s2 h2 => .nx s2 h2
      | r => r) := by
      rw [forFrom, e1]
      first | done | rfl
    rcases q with ⟨s2, h2, e, q⟩ | ⟨t, h2, e, q⟩ | ⟨y, s2, h2, e, q⟩
    · rw [fe, e]
      exact ws_inv I f st xs s2 h2 q
    · exact ws_ar (by rw [fe, e]) q
    · exact ws_ax (by rw [fe, e]) q
/-- a def -/
theorem we_def {n : Nat} {m : MS} (w : WS (m (ts.map some ++ List.replicate (n - ts.length) none) h) (fun _ h1 => Q .non h1) Q (fun x _ h1 => X x h1)) : WE (mDef n m ts h) Q X := by
  unfold mDef
  rcases w with ⟨s1, h1, e, q⟩ | ⟨t, h1, e, q⟩ | ⟨x, s1, h1, e, q⟩
  · exact we_at (t := .non) (h := h1) (by rw [e]) q
  · exact we_at (t := t) (h := h1) (by rw [e]) q
  · exact we_ax (x := x) (h := h1) (by rw [e]) q
theorem we_eq {r : R} (w : WE r (fun t' h' => t' = t ∧ h' = h) (fun _ _ => False)) : r = .ok t h := by
  rcases w with ⟨t, h, e, rfl, rfl⟩ | ⟨_, _, _, f⟩
  · exact e
  · exact f.elim
theorem we_out {r : R} (w : WE r Q (fun _ _ => False)) : ∃ t h, r = .ok t h ∧ Q t h := w.elim id fun ⟨_, _, _, f⟩ => f.elim
/-! ### small facts -/
theorem app_at {k : Nat} {ys : List T} (e : h[k]? = some (.lst ys)) (hy : ys.length ≤ 10000) : fAppend (.ref k) [t] h = .ok .non (h.set k (.lst (ys ++ [t]))) := by
  show (match liveL (.ref k) h with
    | some (i', xs) => if xs.length < big then R.ok .non (h.set i' (.lst (xs ++ [t]))) else .stuck
    | none => .stuck) = _
  rw [live_at e]
  dsimp only
  rw [if_pos (Nat.lt_of_lt_of_le (show ys.length < 10001 by omega) (big_of (by omega)))]
end
end Mi
end part_Bw
section part_Mi60
set_option maxRecDepth 100000
set_option maxHeartbeats 2000000
/-! Mi, part 60: lambdas made by a def that is not the law: its table at any place, the same for every frame. -/
namespace Mi
open PySem PySem.Spec PyProof.Rows L2
section
variable {X : Cx} {K : PySem.W.Frag} {mg : Str → Option Value} {W : WX} {g g' : G} {σ : L2.St} {Q : VK}
end
/-! ### the lambdas of a text, in their order, under conditions too -/
def lams2 : Nat → Expr → List Expr
  | 0, _ => []
  | n + 1, e => match e with
    | .Lambda _ _ _ _ => [e]
    | .List es _ => es.flatMap (lams2 n)
    | .Tuple es _ _ => es.flatMap (lams2 n)
    | .BinOp a _ b _ => lams2 n a ++ lams2 n b
    | .Call f as _ _ => lams2 n f ++ as.flatMap (lams2 n)
    | .UnaryOp _ a _ => lams2 n a
    | .Compare a _ bs _ => lams2 n a ++ bs.flatMap (lams2 n)
    | .BoolOp _ es _ => es.flatMap (lams2 n)
    | .IfExp t a b _ => lams2 n t ++ lams2 n a ++ lams2 n b
    | _ => []
def lamsS2 : Nat → Stmt → List Expr
  | 0, _ => []
  | n + 1, s => match s with
    | .Assign _ v _ => lams2 12 v
    | .For _ _ b _ _ => b.flatMap (lamsS2 n)
    | .If t b o _ => lams2 12 t ++ b.flatMap (lamsS2 n) ++ o.flatMap (lamsS2 n)
    | .Expr v _ => lams2 12 v
    | .Return (some v) _ => lams2 12 v
    | _ => []
def lamsOf2 (b : List Stmt) : List Expr := b.flatMap (lamsS2 12)
/-! ### the same for every frame -/
end Mi
end part_Mi60
section part_Mi61
set_option maxRecDepth 100000
set_option maxHeartbeats 2000000
/-! Mi, part 61: dicts that are filled: {}, d[k] = v. -/
namespace Mi
open PySem PySem.Spec PyProof.Rows L2
section
variable {X : Cx} {K : PySem.W.Frag} {mg : Str → Option Value} {W : WX} {g : G} {σ : L2.St} {Q : VK} {pos : Pos}
/-! ### {} -/
/-! ### d[k] = v -/
/-! ### list(d) -/
/-! ### reads of a dict that is filled -/
end
end Mi
end part_Mi61
section part_Mi62
set_option maxRecDepth 100000
set_option maxHeartbeats 4000000
/-! Mi, part 62: dicts that were filled and then stand for good; loops over them; dict(list of pairs), list(d.items()), k in d. -/
namespace Mi
open PySem PySem.Spec PyProof.Rows L2
section
variable {X : Cx} {K : PySem.W.Frag} {mg : Str → Option Value} {W : WX} {g : G} {σ : L2.St} {Q : VK} {pos : Pos} {a b e : Expr} {ma mb me : ME}
/-! ### a filled dict stands for good -/
section
variable {k : Nat} {d : Addr} {od : Obj} {u : HO} {o : MO}
end
/-! ### {} that stands -/
/-! ### d[k] of a dict that is being filled -/
/-! ### k in d -/
/-! ### for k in d -/
/-! ### dict(list of pairs) -/
/-! ### list(d.items()) -/
end
end Mi
end part_Mi62
section part_Mi63
set_option maxRecDepth 100000
set_option maxHeartbeats 4000000
/-! Mi, part 63: {k: v for .. in ..}, which then stands for good. -/
namespace Mi
open PySem PySem.Spec PyProof.Rows L2
section
variable {X : Cx} {K : PySem.W.Frag} {mg : Str → Option Value} {W : WX} {g : G} {σ : L2.St} {Q : VK} {pos : Pos} {mt mk mv : ME}
/-! ### x += k of ints -/
end
end Mi
end part_Mi63
section part_Mi64
set_option maxRecDepth 100000
/-! Mi, part 64: a cheaper hook for large tops: each object is looked at once. -/
namespace Mi
open PySem PySem.Spec PyProof.Rows L2
end Mi
namespace Mi
open PySem PySem.W PySem.Calls PyProof.Rows
end Mi
end part_Mi64
section part_Mi65
set_option maxRecDepth 100000
set_option maxHeartbeats 4000000
/-! Mi, part 65: dicts whose keys are tuples of any depth: setdefault, d[k], len. -/
namespace Mi
open PySem PySem.Spec PyProof.Rows L2
section
variable {K : PySem.W.Frag} {mg : Str → Option Value} {g : G} {P : Program} {w : World} {h : Heap}
abbrev PrN : NestedKey × Addr × V → NestedKey × Addr × Value → Prop := fun x y => x.1 = y.1 ∧ x.2.1 = y.2.1 ∧ RelV x.2.2 y.2.2
end
section
variable {X : Cx} {pins : List (Addr × Obj)} {σ : L2.St} {H : Hp} {s : Shared} {a : Addr}
section
variable {o e f : Expr} {td ty tx : TE} {apos cpos : Pos}
end
end
section
variable {X : Cx} {K : PySem.W.Frag} {mg : Str → Option Value} {W : WX} {g : G} {σ : L2.St} {Q : VK}
end
end Mi
end part_Mi65
section part_Mi66
set_option maxRecDepth 100000
set_option maxHeartbeats 4000000
/-! Mi, part 66: {k: v} as a dict that is filled later; in of such a dict. -/
namespace Mi
open PySem PySem.Spec PyProof.Rows L2
section
variable {X : Cx} {K : PySem.W.Frag} {mg : Str → Option Value} {W : WX} {g : G} {σ : L2.St} {Q : VK} {pos : Pos} {a b e : Expr} {ma mb me : ME}
/-! ### k in d, d being filled -/
end
end Mi
end part_Mi66
section part_Mi67
set_option maxRecDepth 100000
set_option maxHeartbeats 4000000
/-! Mi, part 67: a, b, c = x, y, z with plain local names. -/
namespace Mi
open PySem PySem.Spec PyProof.Rows L2
section
variable {X : Cx} {K : PySem.W.Frag} {mg : Str → Option Value} {W : WX} {g : G} {σ : L2.St} {Q : VK} {pos : Pos} {a b c e : Expr} {mr : MA}
/-! ### tuple.index(text) -/
/-! ### C.index(text), C a constant tuple of the module -/
end
end Mi
end part_Mi67
section part_Mi68
set_option maxRecDepth 100000
set_option maxHeartbeats 4000000
/-! Mi, part 68: dicts whose keys are tuples of any depth: in, d[k] = v, comprehensions. -/
namespace Mi
open PySem PySem.Spec PyProof.Rows L2
/-- the dict at a, as it stands in every heap that holds H -/
def DnA (P : Program) (w : World) (K : PySem.W.Frag) (H : Hp) (a : Addr) (xs : List (NestedKey × Addr × V)) : Prop := Mut (H a) ∧ ∀ h : Heap, HOk P w H h → K.In h → (a == sysModules) = false ∧ ∃ ys, Paired PrN xs ys ∧ h.DictOfH (nestedKind P w) a ys
section
variable {K : PySem.W.Frag} {mg : Str → Option Value} {g : G} {P : Program} {w : World}
/-! ### a value is stored -/
end
section
variable {X : Cx} {pins : List (Addr × Obj)} {σ : L2.St} {H : Hp} {s : Shared} {a : Addr}
theorem DnA.at' {xs : List (NestedKey × Addr × V)} (h : DnA X.prog X.w X.K H a xs) (I : Inv X pins σ H s) : (a == sysModules) = false ∧ ∃ ys, Paired PrN xs ys ∧ s.heap.DictOfH (nestedKind X.prog X.w) a ys := h.2 s.heap I.hok I.kIn
end
section
variable {X : Cx} {K : PySem.W.Frag} {mg : Str → Option Value} {W : WX} {g : G} {σ : L2.St} {Q : VK}
end
end Mi
end part_Mi68
section part_Mi69
set_option maxRecDepth 100000
set_option maxHeartbeats 4000000
/-! Mi, part 69: {k: v for .. in ..} with tuples of any depth as keys, which is changed later. -/
namespace Mi
open PySem PySem.Spec PyProof.Rows L2
section
variable {X : Cx}
end
section
variable {X : Cx} {K : PySem.W.Frag} {mg : Str → Option Value} {W : WX} {g : G} {σ : L2.St} {Q : VK} {pos : Pos} {mt mk mv : ME} {P : Program} {w : World}
end
end Mi
end part_Mi69
section part_Mi70
set_option maxRecDepth 100000
set_option maxHeartbeats 4000000
/-! Mi, part 70: lists inside objects stand for good at the end of a constructor; x == []. -/
namespace Mi
open PySem PySem.Spec PyProof.Rows L2
mutual
/-- u in the place of the k-th changeable object -/
def sbT (k : Nat) (u : T) : T → T
  | .non => .non
  | .bl b => .bl b
  | .int i => .int i
  | .str s => .str s
  | .tup xs => .tup (sbL k u xs)
  | .lst xs => .lst (sbL k u xs)
  | .frl xs => .frl (sbL k u xs)
  | .dct ks vs => .dct ks (sbL k u vs)
  | .obj c ns vs => .obj c ns (sbL k u vs)
  | .ref i => if i = k then u else .ref i
  | .exn c ns vs => .exn c ns (sbL k u vs)
  | .cls c => .cls c
  | .fn n I C => .fn n I C
  | .fnc n I C m => .fnc n I C m
  | .tpl xs => .tpl (sbL k u xs)
def sbL (k : Nat) (u : T) : List T → List T
  | [] => []
  | t :: ts => sbT k u t :: sbL k u ts
end
def sbO (k : Nat) (u : T) : MO → MO
  | .dead => .dead
  | .lst xs => .lst (sbL k u xs)
  | .dct ks vs => .dct ks (sbL k u vs)
  | .ins c ns vs => .ins c ns (sbL k u vs)
  | .tab q P => .tab q P
  | .cel t => .cel (t.map (sbT k u))
  | .dcn w kts => .dcn w (kts.map fun q => (q.1, sbT k u q.2))
section
variable {K : PySem.W.Frag} {mg : Str → Option Value} {g g' : G} {k : Nat} {u : T}
theorem RepL.sbOf : ∀ {ts : List T} {vs : List V}, (∀ t ∈ ts, ∀ v, Rep K mg g t v → Rep K mg g (sbT k u t) v) → RepL K mg g ts vs → RepL K mg g (sbL k u ts) vs
  | [], vs, _, h => by simpa only [RepL, sbL] using h
  | t :: ts, vs, f, h => by
    simp only [RepL, sbL] at h ⊢
    obtain ⟨v, r, e, h1, h2⟩ := h
    exact ⟨v, r, e, f t List.mem_cons_self v h1, RepL.sbOf (fun t ht => f t (List.mem_cons_of_mem _ ht)) h2⟩
theorem Rep.sb (e : ∀ v, Rep K mg g (.ref k) v → Rep K mg g u v) : ∀ t v, Rep K mg g t v → Rep K mg g (sbT k u t) v := by
  intro t
  induction t using T.ind with
  | non => intro v h; simpa only [sbT] using h
  | bl b => intro v h; simpa only [sbT] using h
  | int i => intro v h; simpa only [sbT] using h
  | str s => intro v h; simpa only [sbT] using h
  | tup xs ih =>
    intro v h; simp only [Rep, sbT] at h ⊢
    obtain ⟨p, vs, e1, h1, h2⟩ := h
    exact ⟨p, vs, e1, h1, RepL.sbOf ih h2⟩
  | tpl xs ih =>
    intro v h; simp only [Rep, sbT] at h ⊢
    obtain ⟨p, vs, e1, h1, h2⟩ := h
    exact ⟨p, vs, e1, h1, RepL.sbOf ih h2⟩
  | lst xs ih =>
    intro v h; simp only [Rep, sbT] at h ⊢
    obtain ⟨p, vs, e1, h1, h2⟩ := h
    exact ⟨p, vs, e1, h1, RepL.sbOf ih h2⟩
  | frl xs ih =>
    intro v h; simp only [Rep, sbT] at h ⊢
    obtain ⟨p, vs, e1, h1, h2⟩ := h
    exact ⟨p, vs, e1, h1, RepL.sbOf ih h2⟩
  | dct ks vs ih1 ih2 =>
    intro v h; simp only [Rep, sbT] at h ⊢
    obtain ⟨p, kvs, e1, h1, e2, h2⟩ := h
    exact ⟨p, kvs, e1, h1, e2, RepL.sbOf ih2 h2⟩
  | obj c ns vs ih =>
    intro v h; simp only [Rep, sbT] at h ⊢
    obtain ⟨p, C, dx, fs, e1, h1, e2, e3, h2⟩ := h
    exact ⟨p, C, dx, fs, e1, h1, e2, e3, RepL.sbOf ih h2⟩
  | ref i =>
    intro v h
    unfold sbT
    split
    · rename_i q; subst q; exact e v h
    · exact h
  | cls c => intro v h; simpa only [sbT] using h
  | fn n I C => intro v h; simpa only [sbT] using h
  | fnc n I C m => intro v h; simpa only [sbT] using h
  | exn c ns ts ih =>
    intro v h; simp only [Rep, sbT] at h ⊢
    obtain ⟨p, C, d, fs, e1, h1, h2, e2, e3, h3⟩ := h
    exact ⟨p, C, d, fs, e1, h1, h2, e2, e3, RepL.sbOf ih h3⟩
theorem RepL.sb (e : ∀ v, Rep K mg g (.ref k) v → Rep K mg g u v) {ts : List T} {vs : List V} (h : RepL K mg g ts vs) : RepL K mg g (sbL k u ts) vs := RepL.sbOf (fun t _ v => Rep.sb e t v) h
theorem sbL_map (ts : List T) : sbL k u ts = ts.map (sbT k u) := by
  induction ts with
  | nil => rfl
  | cons t ts ih => simp only [sbL, List.map_cons, ih]
theorem RepO.sb (e : ∀ v, Rep K mg g (.ref k) v → Rep K mg g u v) {a : Addr} {o : MO} (h : RepO K mg g a o) : RepO K mg g a (sbO k u o) := by
  cases o with
  | dead => trivial
  | lst xs => obtain ⟨vs, h1, h2⟩ := h; exact ⟨vs, h1, h2.sb e⟩
  | dct ks ts => obtain ⟨kvs, h1, h2, h3⟩ := h; exact ⟨kvs, h1, h2, h3.sb e⟩
  | ins c ns ts => obtain ⟨C, dx, fs, h1, h2, h3, h4⟩ := h; exact ⟨C, dx, fs, h1, h2, h3, h4.sb e⟩
  | tab q P => exact h
  | cel ot =>
    obtain ⟨ob, w, h1, h2, h3⟩ := h
    refine ⟨ob, w, h1, h2, fun t z => ?_⟩
    cases ot with
    | none => cases z
    | some t0 =>
      have z : some (sbT k u t0) = some t := z
      cases z
      obtain ⟨v, u', z1, z2, z3⟩ := h3 t0 rfl
      exact ⟨v, u', z1, z2, Rep.sb e t0 v z3⟩
  | dcn w kts =>
    obtain ⟨xs, h1, h2, h3, h4, h5⟩ := h
    refine ⟨xs, h1, h2, ?_, ?_, ?_⟩
    · rw [List.map_map]; exact h3
    · rw [List.map_map]; exact h4
    · have := h5.sb e
      rw [sbL_map, List.map_map] at this
      rw [List.map_map]; exact this
end
section
variable {X : Cx} {K : PySem.W.Frag} {mg : Str → Option Value} {W : WX} {g : G} {σ : L2.St} {Q : VK} {pos : Pos} {a b : Expr} {ma mb : ME}
/-! ### x == [] -/
end
end Mi
end part_Mi70
section part_Mi71
set_option maxRecDepth 100000
set_option maxHeartbeats 4000000
/-! Mi, part 71: comprehensions three deep. -/
namespace Mi
open PySem PySem.Spec PyProof.Rows L2
section
variable {X : Cx} {W : WX} {pos p : Pos} {x : Str}
end
end Mi
end part_Mi71
section part_Mi72
set_option maxRecDepth 100000
set_option maxHeartbeats 2000000
/-! Mi, part 72: the hook of a law's top over a told list of addresses: the looks cost less, for nothing is sought. -/
namespace Mi
open PySem PySem.Spec PyProof.Rows L2
end Mi
end part_Mi72
section part_Mi73
set_option maxRecDepth 100000
set_option maxHeartbeats 4000000
/-! Mi, part 73: == of tuples (of tuples) whose items are instances with an own __eq__. -/
namespace PySem.MiEq
open PySem.SeqAt
open AutoSeq1 (wpAny_loadPart')
open MeetsSeq MeetsSeq2 MeetsSeq3 SeqRoads2
section
variable {prog : Program} {w : World}
/-- the items, pair by pair; the state goes on -/
def EqLp (prog : Program) (w : World) (A : Around) (E : Value → Shared → Prop) (fin : Bool → Shared → Prop) : List (Value × Value) → Shared → Prop
  | [], s => fin true s
  | q :: r, s => wpAny (model prog w) A (eqBool q.1 q.2) (fun b s' => (b = true → EqLp prog w A E fin r s') ∧ (b = false → fin false s')) E s
theorem EqLp.mono {A : Around} {E E' : Value → Shared → Prop} {fin fin' : Bool → Shared → Prop} (he : ∀ e s, E e s → E' e s) (hf : ∀ k s, fin k s → fin' k s) : ∀ {l : List (Value × Value)} {s : Shared}, EqLp prog w A E fin l s → EqLp prog w A E' fin' l s
  | [], s, h => hf _ _ h
  | q :: r, s, h => wpAny_mono h (fun b s' z => ⟨fun e => EqLp.mono he hf (z.1 e), fun e => hf _ _ (z.2 e)⟩) he
variable {A : Around} {s : Shared} {E : Value → Shared → Prop}
end
end PySem.MiEq
namespace Mi
open PySem PySem.Spec PyProof.Rows L2
/-! ### two trees that cannot be one object -/
section
variable {X : Cx} {K : PySem.W.Frag} {mg : Str → Option Value} {W : WX} {g : G} {σ : L2.St} {Q : VK}
variable {c : Str} {cs : List Str} {fm : List T → MH → R}
variable {mn qual : Str} {st : Stmt} {ps : List Str} {mf : MF} {k : Nat} {a b : Expr} {ma mb : ME} {pos : Pos}
section
variable {h0 : MH} {pins : List (Addr × Obj)}
structure RoomT (k n : Nat) (A : Around) : Prop where
  hd : A.handled = none
  dp : A.depth + 3 * k + 5 < recursionLimit
  un : A.units + n + 16 * k + 200 < cLine
theorem RoomT.in1 {k n : Nat} {A : Around} (r : RoomT k (n + 1) A) : RoomT k n A.in1 := ⟨r.hd, r.dp, by have := r.un; show A.units + 1 + n + 16 * k + 200 < cLine; omega⟩
theorem RoomT.room {k n : Nat} {A : Around} (r : RoomT k n A) : Room k A := ⟨r.hd, r.dp, by have := r.un; omega⟩
end
end
end Mi
end part_Mi73
section part_Mi74
set_option maxRecDepth 100000
set_option maxHeartbeats 4000000
/-! Mi, part 74: {k: v} with a tuple as key; del d[k]; list(range(n)). -/
namespace Mi
open PySem PySem.Spec PyProof.Rows L2
section
variable {X : Cx} {K : PySem.W.Frag} {mg : Str → Option Value} {W : WX} {g : G} {σ : L2.St} {Q : VK} {pos tpos p : Pos} {a b o i e : Expr} {ma mb mo mi me : ME}
/-! ### del d[k] -/
/-! ### list(range(n)) -/
variable {p1 p2 q1 q2 : Pos}
end
end Mi
end part_Mi74
section part_Mi75
set_option maxRecDepth 100000
set_option maxHeartbeats 4000000
/-! Mi, part 75: k in d as a test, d standing for good. -/
namespace Mi
open PySem PySem.Spec PyProof.Rows L2
section
variable {X : Cx} {K : PySem.W.Frag} {mg : Str → Option Value} {W : WX} {g : G} {σ : L2.St} {Q : VK} {pos tpos p : Pos} {a b o i e : Expr} {ma mb mo mi me : ME}
end
end Mi
end part_Mi75
section part_Mi76
set_option maxRecDepth 100000
set_option maxHeartbeats 4000000
/-! Mi, part 76: enumerate over a dict that stands; {k: v for ..} that is changed later; an expression runs while a dict is locked. -/
namespace PySem
open Sem (wp)
open Builtin PySem.Spec PyProof.Rows L2
section
variable {prog : Program} {w : World} {A : Around} {E : Value → Shared → Prop} {s : Shared}
theorem nextOf_key_item {it d : Addr} {i n ep : Nat} {od : Obj} {es : Array DictEntry} {en : DictEntry} {Q : Value → Shared → Prop} (hit : s.heap.IsKeyIter it d i n ep) (hod : s.heap.get? d = some od) (hdd : od.data = .dict es ep)
    (hsz : es.size = n) (hx : es[i]? = some en) (hQ : ∀ h', h'.IsKeyIter it d (i + 1) n ep → Heap.SameBut it s.heap h' → Q en.key { s with heap := h' }) : wpAny (model prog w) A (Builtin.SmallTypes.nextOf (.ref it)) Q E s := by
  obtain ⟨o, ho, hc, hd⟩ := id hit
  unfold Builtin.SmallTypes.nextOf
  refine wpAny_bind (wpAny_callSpecial?_slot (name := Str.ofString "__next__") hit.typeIs F.slot_dict_keyiterator_next
    (wpAny_call_entry F.slot_dict_keyiterator_next hit.typeIs F.entry_dict_keyiterator_next ?_ (F.args_dict_keyiterator_next_1 _)))
  refine wpAny_bind (wpAny_pure ?_)
  refine wpAny_bind ?_
  refine wpAny_bind ?_
  first | refine wpAny_bind (wpAny_typeNameOfWhole_keyiter hit.typeIs (wpAny_pure ?_)) | refine wpAny_bind (wpAny_typeNameOf_keyiter hit.typeIs (wpAny_pure ?_))
  refine wpAny_bind (wpAny_fieldsOf ho hd ?_)
  have hown : Builtin.Dict_items.ownsTuple "dict_keyiterator" = false := by decide
  simp only [hown, Bool.false_eq_true, if_false]
  show wpAny _ _ (if (Value.ref d == Value.none) = true then _ else _) _ _ s
  rw [if_neg (show ¬ ((Value.ref d == Value.none) = true) from Bool.false_ne_true)]
  refine wpAny_bind (wpAny_pure ?_)
  refine wpAny_bind (wpAny_dictEntries hod hdd ?_)
  rw [if_neg (by rw [hsz]; simp)]
  refine wpAny_bind (wpAny_pure ?_)
  refine wpAny_bind (wpAny_dictEpoch hod hdd ?_)
  rw [if_neg (by simp)]
  refine wpAny_pure ?_
  obtain ⟨hlt', hen⟩ := Array.getElem?_eq_some_iff.mp hx
  simp only [show ¬ ((i : Int) < 0) from by omega, if_false, Int.toNat_natCast, Array.getElem?_eq_getElem hlt']
  refine wpAny_bind ?_
  first | refine wpAny_bind (wpAny_typeNameOfWhole_keyiter hit.typeIs (wpAny_pure ?_)) | refine wpAny_bind (wpAny_typeNameOf_keyiter hit.typeIs (wpAny_pure ?_))
  refine wpAny_bind (wpAny_isOneOf_keyiter hit.typeIs ?_)
  show wpAny _ _ (setField (.ref it) 1 (rawInt ((i : Int) + 1)) >>= _) _ _ s
  refine wpAny_bind (wpAny_setField ho hd (by simp) ?_)
  have hit' : (s.heap.update it (Obj.mapFields (·.setIfInBounds 1 (rawInt ((i : Int) + 1))))).IsKeyIter it d (i + 1) n ep :=
    ⟨_, Heap.get?_update_self _ ho (Obj.isFreed_of_fields (Obj.data_mapFields hd _)), (Obj.cls_mapFields ..).trans hc, by rw [Obj.data_mapFields hd]; simp [rawInt]⟩
  refine wpAny_bind (wpAny_holding ?_)
  refine wpAny_bind (wpAny_isOneOf_keyiter (s := { s with heap := s.heap.update it (Obj.mapFields (·.setIfInBounds 1 (rawInt ((i : Int) + 1)))) }) hit'.typeIs ?_)
  show wpAny _ _ (pure es[i].key) _ _ _
  rw [hen]
  exact wpAny_pure (wpAny_pure ⟨_, rfl, wpAny_pure (hQ _ hit' (Heap.SameBut.update ..))⟩)
theorem nextOf_key_end {it d : Addr} {i n ep : Nat} {od : Obj} {es : Array DictEntry} {Q : Value → Shared → Prop} (hh : A.handled = none) (hit : s.heap.IsKeyIter it d i n ep) (hod : s.heap.get? d = some od) (hdd : od.data = .dict es ep)
    (hsz : es.size = n) (hge : n ≤ i) (hE : ∀ h' e, Heap.ExtBut it s.heap h' → (∃ o, h'.get? e = some o ∧ o.cls = .type "StopIteration") → E (.ref e) { s with heap := h' }) : wpAny (model prog w) A (Builtin.SmallTypes.nextOf (.ref it)) Q E s := by
  obtain ⟨o, ho, hc, hd⟩ := id hit
  unfold Builtin.SmallTypes.nextOf
  refine wpAny_bind (wpAny_callSpecial?_slot (name := Str.ofString "__next__") hit.typeIs F.slot_dict_keyiterator_next
    (wpAny_call_entry F.slot_dict_keyiterator_next hit.typeIs F.entry_dict_keyiterator_next ?_ (F.args_dict_keyiterator_next_1 _)))
  refine wpAny_bind (wpAny_pure ?_)
  refine wpAny_bind ?_
  refine wpAny_bind ?_
  first | refine wpAny_bind (wpAny_typeNameOfWhole_keyiter hit.typeIs (wpAny_pure ?_)) | refine wpAny_bind (wpAny_typeNameOf_keyiter hit.typeIs (wpAny_pure ?_))
  refine wpAny_bind (wpAny_fieldsOf ho hd ?_)
  have hown : Builtin.Dict_items.ownsTuple "dict_keyiterator" = false := by decide
  simp only [hown, Bool.false_eq_true, if_false]
  show wpAny _ _ (if (Value.ref d == Value.none) = true then _ else _) _ _ s
  rw [if_neg (show ¬ ((Value.ref d == Value.none) = true) from Bool.false_ne_true)]
  refine wpAny_bind (wpAny_pure ?_)
  refine wpAny_bind (wpAny_dictEntries hod hdd ?_)
  rw [if_neg (by rw [hsz]; simp)]
  refine wpAny_bind (wpAny_pure ?_)
  refine wpAny_bind (wpAny_dictEpoch hod hdd ?_)
  rw [if_neg (by simp)]
  refine wpAny_pure ?_
  have hge' : es.size ≤ i := by rw [hsz]; exact hge
  simp only [show ¬ ((i : Int) < 0) from by omega, if_false, Int.toNat_natCast, Array.getElem?_eq_none hge']
  refine wpAny_bind ?_
  first | refine wpAny_bind (wpAny_typeNameOfWhole_keyiter hit.typeIs (wpAny_pure ?_)) | refine wpAny_bind (wpAny_typeNameOf_keyiter hit.typeIs (wpAny_pure ?_))
  show wpAny _ _ (setField (.ref it) 0 .none >>= _) _ _ s
  refine wpAny_bind (wpAny_setField ho hd (by simp) ?_)
  show wpAny _ _ (newExc (.type "StopIteration") [] >>= _) _ _ _
  refine wpAny_bind ?_
  simp only [newExc, newTuple]
  refine wpAny_bind (wpAny_newObj_type ?_ (by size_fits))
  refine wpAny_bind (m := firstArgMember _ _) (wpAny_of_eq (a := Value.none) (by first | rfl | (simp only [firstArgMember]; rfl)) ?_)
  refine wpAny_newObj_type ?_ (by size_fits)
  simp only [raiseNew]
  refine wpAny_bind (wpAny_handled ?_)
  first | rw [show A.in1.handled = none from hh] | rw [hh]
  refine wpAny_bind (wpAny_pure (wpAny_throw ?_))
  exact hE _ _ (((Heap.SameBut.update ..).extBut.push _).push _) ⟨_, Heap.get?_push_size _ rfl, rfl⟩
end
theorem Draws.keys {prog : Program} {w : World} {A : Around} (hh : A.handled = none) (it d : Addr) (hne : d ≠ it) (od : Obj) (es : Array DictEntry) (ep : Nat) (hdd : od.data = .dict es ep) :
    Draws prog w A it [it, d] es.size (fun i v => ∃ en : DictEntry, es[i]? = some en ∧ v = en.key) (fun i h => h.IsKeyIter it d i es.size ep ∧ h.get? d = some od) where
  live := fun _ _ st => let ⟨o, ho, _⟩ := st.1; ⟨o, ho⟩
  frame := fun _ _ _ st hk => ⟨st.1.at fun o e => hk it (by simp) o e, hk d (by simp) _ st.2⟩
  item := fun i s Q E hi st hQ => by
    refine nextOf_key_item st.1 st.2 hdd rfl (Array.getElem?_eq_getElem hi) fun h' hit' hs' => ?_
    exact hQ _ h' s.toks ⟨_, Array.getElem?_eq_getElem hi, rfl⟩ ⟨hit', (hs'.2 d hne).trans st.2⟩ hs'
  done := fun s Q E st hE => nextOf_key_end hh st.1 st.2 hdd rfl (Nat.le_refl _) hE
end PySem
namespace Mi
open PySem PySem.Spec PyProof.Rows L2
section
variable {X : Cx} {K : PySem.W.Frag} {mg : Str → Option Value} {W : WX} {g g' : G} {σ : L2.St} {Q : VK}
end
section
variable {X : Cx} {K : PySem.W.Frag} {mg : Str → Option Value} {W : WX} {g : G} {σ : L2.St} {Q : VK} {pos : Pos} {mt mk mv : ME}
/-! ### enumerate(d) -/
end
section
variable {X : Cx} {W : WX} {a : Expr} {mr : MA} {p pos tpos : Pos} {K : PySem.W.Frag} {mg : Str → Option Value} {g : G} {elts : List Expr} {kk : Nat}
end
end Mi
end part_Mi76
section part_Mi77
set_option maxRecDepth 100000
set_option maxHeartbeats 4000000
/-! Mi, part 77: x, *rest = a tuple. -/
namespace PySem
open Sem (wp)
open PySem.Spec PyProof.Rows L2 PySem.W
section
variable {prog : Program} {w : World} {A : Around} {E : Value → Shared → Prop} {s : Shared}
end
end PySem
namespace Mi
open PySem PySem.Spec PyProof.Rows L2
section
variable {X : Cx} {K : PySem.W.Frag} {mg : Str → Option Value} {W : WX} {g : G} {σ : L2.St} {Q : VK} {pos p2 : Pos} {e1 e2 : Expr} {k : Nat}
end
end Mi
end part_Mi77
section part_Mi78
set_option maxRecDepth 100000
set_option maxHeartbeats 4000000
/-! Mi, part 78: x in D, D a dict of the module with text keys; C.m(*text). -/
namespace Mi
open PySem PySem.Spec PyProof.Rows L2
section
variable {X : Cx} {K : PySem.W.Frag} {mg : Str → Option Value} {W : WX} {g : G} {σ : L2.St} {Q : VK} {pos p1 : Pos} {b : Expr} {mb : ME} {x : Str} {tab : List (Str × T)}
end
/-! ### C.m(*text) -/
section
variable {X : Cx} {pins : List (Addr × Obj)} {σ : L2.St} {H : Hp} {s : Shared}
end
section
variable {X : Cx} {W : WX} {g : G} {σ : L2.St} {Q : VK}
variable {e : Expr} {me : ME} {pos p apos sp : Pos} {c x : Str} {k : Nat} {mf : MF} {fm : List T → MH → R}
end
/-! ### startswith, endswith -/
section
variable {X : Cx}
end
/-! ### max of a list of ints -/
section
variable {X : Cx}
end
end Mi
end part_Mi78
section part_Mi79
set_option maxRecDepth 100000
set_option maxHeartbeats 4000000
/-! Mi, part 79: a list with items is not the empty list, whatever the items are. -/
namespace Mi
open PySem PySem.Spec PyProof.Rows L2
section
variable {X : Cx} {W : WX}
end
end Mi
end part_Mi79
section part_Mi80
set_option maxRecDepth 100000
set_option maxHeartbeats 4000000
/-! Mi, part 80: a list comprehension whose element may raise (the state of HandS's lc_core, walked once more with an exception that leaves). -/
namespace Mi
open PySem PySem.Spec PyProof.Rows L2
section
variable {M : Model} {A : Around} {E : Value → Shared → Prop} {s : Shared} {Z : Obj → Prop} {base : Heap} {env : Env} {outer l : List Env} {L C e : Addr}
end
section
variable {X : Cx} {W : WX}
end
end Mi
end part_Mi80
section part_Mi81
set_option maxRecDepth 100000
set_option maxHeartbeats 4000000
/-! Mi, part 81: comprehensions whose element may raise. -/
namespace Mi
open PySem PySem.Spec PyProof.Rows L2
section
variable {X : Cx} {K : PySem.W.Frag} {mg : Str → Option Value} {W : WX} {g : G} {σ : L2.St} {Q : VK} {D : Ends} {mt me : ME}
/-! ### x + y, lists, as a new list that will be changed -/
/-! ### x * n of a tuple; the new one is known as it stands -/
end
end Mi
end part_Mi81
section part_Mi82
set_option maxRecDepth 100000
set_option maxHeartbeats 4000000
/-! Mi, part 82: the maker's cells lent to a call from within a comprehension (Mi43's se_lend, the cells told by what holds of them). -/
namespace Mi
open PySem PySem.Spec PyProof.Rows L2
section
variable {X : Cx} {W : WX} {e : Expr} {es : List Expr} {mr : MA} {pos p : Pos} {x : Str}
end
section
variable {X : Cx} {W : WX} {e : Expr} {es : List Expr} {mr : MA} {pos p : Pos} {x : Str} {mi : MI} {mt me : ME}
end
end Mi
end part_Mi82
section part_Mi83
set_option maxRecDepth 100000
set_option maxHeartbeats 4000000
/-! Mi, part 83: an own __init__ that begins with super().__init__(..) of an own class. -/
namespace Mi
open PySem PySem.Spec PyProof.Rows L2
open NdefX (NF envF ncx startF NScope CellsAt inv_startN)
section
variable {P : Program} {w : World} {K : PySem.W.Frag} {mg : Str → Option Value} {base : Heap} {g : G}
end
end Mi
end part_Mi83
section part_Mi84
set_option maxRecDepth 100000
set_option maxHeartbeats 4000000
/-! Mi, part 84: instances whose __init__ has super(); truth of own objects; range downwards; list of a dict with nested keys. -/
namespace Mi
open PySem PySem.Spec PyProof.Rows L2
open NdefX (NF envF ncx)
/-- its promise -/
def HasJ (P : Program) (w : World) (K : PySem.W.Frag) (mg : Str → Option Value) (base : Heap) (k : Nat) (c : Str) (st : Stmt) (ps : List Str) (m : MF) : Prop :=
  ∃ C f nm ql cl cd doc pm ctv, mg c = some (.ref C) ∧ Mk K C f ∧ FnOk P w K mg base (L2.CX P w) k f (NF.fd ⟨nm, ql, defArgs st, defBody st, defScope st, cl, cd⟩ doc pm ctv) ps (spM K mg ps.length m)
theorem HasJ.up {P : Program} {w : World} {K : PySem.W.Frag} {mg : Str → Option Value} {base : Heap} {j k : Nat} {c : Str} {st : Stmt} {ps : List Str} {m : MF} (h : HasJ P w K mg base j c st ps m) (l : j ≤ k) : HasJ P w K mg base k c st ps m := by
  obtain ⟨C, f, nm, ql, cl, cd, doc, pm, ctv, h1, h2, h3⟩ := h
  exact ⟨C, f, nm, ql, cl, cd, doc, pm, ctv, h1, h2, h3.mono l⟩
section
variable {P : Program} {w : World} {K : PySem.W.Frag} {mg : Str → Option Value} {base : Heap}
end
section
variable {X : Cx} {W : WX} {e : Expr} {mb : ME} {mr mk : MA} {pos p : Pos} {es : List Expr} {c x : Str} {k : Nat} {st : Stmt} {ps : List Str} {mf : MF}
/-! ### truth of own objects -/
variable {qual : Str} {fm : List T → MH → R} {a : Expr} {ma : ME}
end
end Mi
end part_Mi84
section part_Mi85
set_option maxRecDepth 100000
set_option maxHeartbeats 4000000
/-! Mi, part 85: range downwards; a loop over a dict with nested keys (which stands from then on); list of such a dict. -/
namespace PySem.W
open PySem PySem.Calls PyProof.Rows
section
variable {prog : Program} {w : World} {d : Addr} {es : Array DictEntry} {ep : Nat}
end
end PySem.W
namespace Mi
open PySem PySem.Spec PyProof.Rows L2
/-! ### range(i, j, -1) -/
section
variable {X : Cx} {K : PySem.W.Frag} {mg : Str → Option Value} {W : WX} {g : G} {σ : L2.St} {Q : VK} {a b c e : Expr} {ma mb : ME} {mr : MA} {p pos : Pos}
/-! ### list(d), d with nested keys -/
/-! ### for k in d -/
end
end Mi
end part_Mi85
section part_Mi86
set_option maxRecDepth 100000
set_option maxHeartbeats 4000000
/-! Mi, part 86: d.get(k, x), d with nested keys; defs with a keyword-only parameter; bool(x), x of an own class. -/
namespace PySem
section
variable {prog : Program} {w : World} {A : Around} {E : Value → Shared → Prop} {s : Shared} {x : Addr}
end
end PySem

namespace Mi
open PySem PySem.Spec PyProof.Rows L2
section
variable {X : Cx} {K : PySem.W.Frag} {mg : Str → Option Value} {W : WX} {g : G} {σ : L2.St} {Q : VK}
/-! ### d.get(y, z), d with nested keys -/
end
/-! ### defs with keyword-only parameters -/
def HasO (P : Program) (w : World) (K : PySem.W.Frag) (mg : Str → Option Value) (base : Heap) (k : Nat) (x qual : Str) (st : Stmt) (ps : List Str) (kdts : List (Str × T)) (m : MF) : Prop :=
  ∃ f fd kvs, mg x = some (.ref f) ∧ FnK P w K mg base k x qual st ps kdts m f fd kvs
theorem HasO.up {P : Program} {w : World} {K : PySem.W.Frag} {mg : Str → Option Value} {base : Heap} {j k : Nat} {x qual : Str} {st : Stmt} {ps : List Str} {kdts : List (Str × T)} {m : MF} (h : HasO P w K mg base j x qual st ps kdts m) (l : j ≤ k) : HasO P w K mg base k x qual st ps kdts m := by
  obtain ⟨f, fd, kvs, h1, h4⟩ := h
  exact ⟨f, fd, kvs, h1, ⟨h4.F, h4.kn, h4.kr, h4.ne, h4.ok.mono l⟩⟩
/-- what the module says of it -/
def FunO (K : PySem.W.Frag) (mg : Str → Option Value) (x qual : Str) (st : Stmt) (kdts : List (Str × T)) : Prop := ∃ f fd kvs, mg x = some (.ref f) ∧ FunD K x qual (defArgs st) (defBody st) (defScope st) [] kvs f fd ∧ kvs.map (·.1) = kdts.map (·.1) ∧ (∀ g, RepL K mg g (kdts.map (·.2)) (kvs.map (·.2))) ∧ kvs ≠ []
def mKwO (n nk : Nat) (is : List Nat) (mdts : List T) (fm : List T → MH → R) (mr mk : MA) : ME := fun s h => (mr s h).bind fun ts h1 => (mk s h1).bind fun us h2 => if ts.length = n ∧ us.length = nk then fm (pick is (ts ++ us ++ mdts)) h2 else .stuck
section
variable {X : Cx} {K : PySem.W.Frag} {mg : Str → Option Value} {W : WX} {g : G} {σ : L2.St} {Q : VK}
variable {a b e : Expr} {ma mb me : ME} {mr mk : MA} {pos p apos : Pos} {es : List Expr} {c x : Str} {kws : List Keyword}
variable {k n j : Nat} {qual : Str} {st : Stmt} {ps ks : List Str} {is : List Nat} {kdts ms : List (Str × T)} {mf : MF} {fm : List T → MH → R}
/-! ### bool(x) -/
end
end Mi
end part_Mi86
section part_Mi91
set_option maxRecDepth 100000
set_option maxHeartbeats 4000000
/-! Mi, part 91: a generator def whose items are drunk by a comprehension: the drinker changes two objects (its list, its names). The road is HandS.GenBody's, with the drinker's objects pinned in the context itself, which changes while the generator sleeps. -/
namespace Mi
open PySem PySem.Spec PyProof.Rows L2 GenW

/-- who drinks: its places; how they stand when ys are out -/
structure Con where
  ch : List Addr
  P : List V → List (Addr × Obj) → Prop
  mem : ∀ ys ps, P ys ps → ∀ p ∈ ps, p.1 ∈ ch
  all : ∀ ys ps, P ys ps → ∀ b ∈ ch, ∃ o, (b, o) ∈ ps
  plain : ∀ ys ps, P ys ps → ∀ p ∈ ps, ∀ v, p.2.data ≠ .cell v
def Con.At (D : Con) (ys : List V) (h : Heap) : Prop := ∃ ps, D.P ys ps ∧ ∀ p ∈ ps, h.get? p.1 = some p.2
/-- the context with the drinker's objects pinned -/
abbrev Xp (X : Cx) (xf : List (Addr × Obj) → Value → Shared → Prop) (ps : List (Addr × Obj)) : Cx := { X with pn := X.pn ++ ps, xe := xf ps }
section
variable {X : Cx} {xf : List (Addr × Obj) → Value → Shared → Prop} {D : Con}
theorem repin {ps ps' : List (Addr × Obj)} {ip ip' : List (Addr × Obj)} {σ : L2.St} {H : Hp} {s : Shared} (I : Inv (Xp X xf ps) ip σ H s)
    (h : ∀ p ∈ (X.pn ++ ps') ++ ip', s.heap.get? p.1 = some p.2 ∧ H p.1 = none ∧ p.1 ≠ X.env.locals ∧ p.1 ∉ X.fs ∧ ∀ v, p.2.data ≠ .cell v) : Inv (Xp X xf ps') ip' σ H s :=
  ⟨⟨I.ok.mod, I.ok.kind, I.ok.glob, I.ok.blt, I.ok.above, I.ok.inj, I.ok.has, I.ok.cab, I.ok.hd, I.ok.frames, I.ok.stk, I.ok.exf, I.ok.bs, I.ok.bsz, I.ok.noex, I.ok.exfs, I.ok.funs, I.ok.frf⟩, I.os, I.bare, I.base, I.loc, I.cell, I.free, I.freeC, h, I.hok, I.len⟩
/-- while the generator sleeps -/
structure SleptC (D : Con) (v : Value) (s s' : Shared) : Prop where
  os : s'.os = s.os
  bare : AllBare s'.gens
  keep : ∀ b o, b ∉ D.ch → s.heap.get? b = some o → s'.heap.get? b = some o
  own : ∀ ys x, RelV x v → D.At ys s.heap → D.At (ys ++ [x]) s'.heap
/-- the drinker's places: younger than the generator's call, none of its frame's -/
def ApartC (X : Cx) (D : Con) : Prop := ∀ b ∈ D.ch, X.s_0.heap.objs.size ≤ b ∧ b ≠ X.env.locals ∧ ∀ x c, X.env.cells.lookup x = some c → c ≠ b
def GIc (X : Cx) (xf : List (Addr × Obj) → Value → Shared → Prop) (D : Con) (ip : List (Addr × Obj)) (ys : List V) (σ : L2.St) (H : Hp) (s : Shared) : Prop :=
  ∃ ps, D.P ys ps ∧ Inv (Xp X xf ps) ip σ H s
theorem GIc.at {ip : List (Addr × Obj)} {ys : List V} {σ : L2.St} {H : Hp} {s : Shared} (h : GIc X xf D ip ys σ H s) : D.At ys s.heap ∧ ∀ b ∈ D.ch, H b = none ∧ b ≠ X.env.locals ∧ b ∉ X.fs := by
  obtain ⟨ps, hP, I⟩ := h
  have hp : ∀ p ∈ ps, p ∈ (Xp X xf ps).pn ++ ip := fun p z => List.mem_append_left _ (List.mem_append_right _ z)
  refine ⟨⟨ps, hP, fun p z => (I.pin p (hp p z)).1⟩, fun b hb => ?_⟩
  obtain ⟨o, ho⟩ := D.all ys ps hP b hb
  obtain ⟨_, h2, h3, h4, _⟩ := I.pin (b, o) (hp _ ho)
  exact ⟨h2, h3, h4⟩
theorem GIc.woken {ip : List (Addr × Obj)} {ys : List V} {x : V} {v : Value} {σ : L2.St} {H : Hp} {s s' : Shared} (hpn : ∀ p ∈ X.pn, p.1 ∉ D.ch) (hip : ∀ p ∈ ip, p.1 ∉ D.ch) (hA : ApartC X D) (h : GIc X xf D ip ys σ H s) (rv : RelV x v) (z : SleptC D v s s') :
    GIc X xf D ip (ys ++ [x]) σ H s' := by
  obtain ⟨hat, hch⟩ := h.at
  obtain ⟨ps, hP, I⟩ := h
  have I0 : Inv (Xp X xf []) ip σ H s := repin I fun p hp => by
    rw [List.append_nil] at hp
    rcases List.mem_append.mp hp with z | z
    · exact I.pin p (List.mem_append_left _ (List.mem_append_left _ z))
    · exact I.pin p (List.mem_append_right _ z)
  have nt : ∀ b u, H b = some u → b ∉ D.ch := fun b u q hb => by rw [(hch b hb).1] at q; cases q
  obtain ⟨z1, z2, z3, z4⟩ := z
  obtain ⟨ps', hP', hps'⟩ := z4 ys x rv hat
  obtain ⟨hh, g, d, t, o⟩ := s'
  have ho : o = s.os := z1
  subst ho
  have J : Inv (Xp X xf []) ip σ H { s with heap := hh, gens := g, drawn := d, toks := t } := by
    refine I0.step (g' := g) (t' := t) (d' := d) (ch := D.ch) (fun b hb => ?_)
      (fun b ob _ _ hc q _ => z3 b ob hc q) (fun b ob _ _ hc q _ => ⟨ob.slots, z3 b ob hc q⟩) (fun _ _ _ _ n => n) (fun b ob hc q => ⟨ob, z3 b ob hc q⟩)
      (fun _ _ q => q) (fun _ _ _ q => q) (fun b ps q => ⟨#[], by rw [q]; simp⟩) (fun m hm => ?_) (fun b u q => ?_) z2
    · obtain ⟨a1, a2, a3⟩ := hA b hb
      refine ⟨.inr a1, a2, a3, fun p hp e => ?_⟩
      have hp : p ∈ (X.pn ++ []) ++ ip := hp
      rw [List.append_nil] at hp
      rcases List.mem_append.mp hp with hp | hp
      · exact hpn p hp (by rw [e]; exact hb)
      · exact hip p hp (by rw [e]; exact hb)
    · obtain ⟨ob, es, ep, ho, r⟩ := hm
      exact ⟨ob, es, ep, z3 _ ob (fun hb => (hA _ hb).2.1 rfl) ho, r⟩
    · refine (I0.hok b u q).stay (fun c v hc y => z3 c v ?_ y) (fun _ y => y) fun _ _ y => y
      rcases hc with y | y
      · rw [y]; exact nt b u q
      · exact nt c _ y
  refine ⟨ps', hP', repin J fun p hp => ?_⟩
  rcases List.mem_append.mp hp with hp | hp
  · rcases List.mem_append.mp hp with hp | hp
    · exact J.pin p (List.mem_append_left _ (List.mem_append_left _ hp))
    · obtain ⟨h2, h3, h4⟩ := hch p.1 (D.mem _ _ hP' p hp)
      exact ⟨hps' p hp, h2, h3, h4, D.plain _ _ hP' p hp⟩
  · exact J.pin p (List.mem_append_right _ hp)

/-! ### the protocol -/
def GYc (X : Cx) (xf : List (Addr × Obj) → Value → Shared → Prop) (D : Con) : Protocol := fun n _ v s kap =>
  ∃ ys x ip σ H, n + 1 + ys.length = sizeLine ∧ RelV x v ∧ GIc X xf D ip ys σ H s ∧ ∀ s', SleptC D v s s' → kap (.send .none) s'
def GRc (X : Cx) (xf : List (Addr × Obj) → Value → Shared → Prop) (D : Con) (Q : List V → VK) (F : Value → Shared → Prop) : GenEnd := fun n _ r s => match r with
  | .ok (.ret u) => ∃ ys v ip σ H, n + ys.length = sizeLine ∧ GIc X xf D ip ys σ H s ∧ RelV v u ∧ Q ys v H
  | .ok _ => False
  | .error e => F e s
def GSPc (X : Cx) (xf : List (Addr × Obj) → Value → Shared → Prop) (D : Con) (ip : List (Addr × Obj)) (B : GEnds) (ys : List V) (f : Flow) (s : Shared) : Prop :=
  match f with
  | .next => ∃ σ H, GIc X xf D ip ys σ H s ∧ B.nx ys σ H
  | .brk => ∃ σ H, GIc X xf D ip ys σ H s ∧ B.bk ys σ H
  | .cont => ∃ σ H, GIc X xf D ip ys σ H s ∧ B.ct ys σ H
  | .ret u => ∃ v σ H, GIc X xf D ip ys σ H s ∧ RelV v u ∧ B.rt ys v H
structure GCc (X : Cx) (D : Con) (ip : List (Addr × Obj)) (A : Around) (c : Code) (fs : List Frame) (gd : Bool → Bool) : Prop where
  pn : ∀ p ∈ X.pn, p.1 ∉ D.ch
  ip : ∀ p ∈ ip, p.1 ∉ D.ch
  apart : ApartC X D
  over : A.over c fs = X.A
  split : splitAtGen fs = none
  guard : fs.any Frame.guarded = false
  gd : gd false = false
structure GKc (X : Cx) (xf : List (Addr × Obj) → Value → Shared → Prop) (D : Con) (ip : List (Addr × Obj)) (A : Around) (R : GenEnd) (c : Code) (fs : List Frame) (K : Flow → Sem PySem.Fin) (J : Value → Sem PySem.Fin) (B : GEnds) : Prop where
  ok : ∀ (n : Nat) (ys : List V) (s₀ s : Shared) (f : Flow), n + ys.length = sizeLine → GSPc X xf D ip B ys f s → Seg (model X.prog X.w) A R (GYc X xf D) n s₀ c (K f) fs s
  exc : ∀ (n : Nat) (s₀ : Shared) (ys : List V) (ps : List (Addr × Obj)) (e : Value) (s : Shared), D.P ys ps → xf ps e s → Seg (model X.prog X.w) A R (GYc X xf D) n s₀ c (J e) fs s
structure GSc (X : Cx) (xf : List (Addr × Obj) → Value → Shared → Prop) (st : Stmt) (t : TGn) : Prop where
  run : ∀ (A : Around) (D : Con) (ip : List (Addr × Obj)) (R : GenEnd) (n : Nat) (ys : List V) (s₀ : Shared) (c : Code) (fs : List Frame) (K : Flow → Sem PySem.Fin) (J : Value → Sem PySem.Fin) (gd : Bool → Bool) (lv : List Value → List Value) (s : Shared) (σ : L2.St) (H : Hp) (B : GEnds),
    GCc X D ip A c fs gd → n + ys.length = sizeLine → GKc X xf D ip A R c fs K J B → GIc X xf D ip ys σ H s → t B ys σ H →
    Seg (model X.prog X.w) A R (GYc X xf D) n s₀ c ((exec st X.env).wrap K J gd lv) fs s
structure GSsc (X : Cx) (xf : List (Addr × Obj) → Value → Shared → Prop) (st : List Stmt) (t : TGn) : Prop where
  run : ∀ (A : Around) (D : Con) (ip : List (Addr × Obj)) (R : GenEnd) (n : Nat) (ys : List V) (s₀ : Shared) (c : Code) (fs : List Frame) (K : Flow → Sem PySem.Fin) (J : Value → Sem PySem.Fin) (gd : Bool → Bool) (lv : List Value → List Value) (s : Shared) (σ : L2.St) (H : Hp) (B : GEnds),
    GCc X D ip A c fs gd → n + ys.length = sizeLine → GKc X xf D ip A R c fs K J B → GIc X xf D ip ys σ H s → t B ys σ H →
    Seg (model X.prog X.w) A R (GYc X xf D) n s₀ c ((execs st X.env).wrap K J gd lv) fs s
end
section
variable {X : Cx} {xf : List (Addr × Obj) → Value → Shared → Prop} {st : Stmt} {rest : List Stmt}
theorem sp_gspc {D : Con} {ps ip : List (Addr × Obj)} {s : Shared} {B : GEnds} {ys : List V} {f : Flow} (r : D.P ys ps) (h : SP (Xp X xf ps) ip (B.at ys) f s) : GSPc X xf D ip B ys f s := by
  cases f with
  | next => obtain ⟨σ, H, I, q⟩ := h; exact ⟨σ, H, ⟨ps, r, I⟩, q⟩
  | brk => obtain ⟨σ, H, I, q⟩ := h; exact ⟨σ, H, ⟨ps, r, I⟩, q⟩
  | cont => obtain ⟨σ, H, I, q⟩ := h; exact ⟨σ, H, ⟨ps, r, I⟩, q⟩
  | ret u => obtain ⟨v, σ, H, I, r1, q⟩ := h; exact ⟨v, σ, H, ⟨ps, r, I⟩, r1, q⟩
theorem gsc_ps {t : TS} (h : ∀ ps, PS (Xp X xf ps) st t) : GSc X xf st (tPlain t) := by
  refine ⟨fun A D ip R n ys s₀ c fs K J gd lv s σ H B g hn k hI ht => ?_⟩
  obtain ⟨ps, r, I⟩ := hI
  refine seg_wrap ?_
  rw [g.over]
  exact wpAny_mono ((h ps).run _ s σ H (B.at ys) I ht) (fun f s' hs => k.ok n ys s₀ s' f hn (sp_gspc r hs)) fun x s' hx => k.exc n s₀ ys ps x s' r hx
theorem gssc_nil : GSsc X xf [] tG0 := by
  refine ⟨fun A D ip R n ys s₀ c fs K J gd lv s σ H B g hn k hI ht => ?_⟩
  exact seg_execs_nil (k.ok n ys s₀ s .next hn ⟨σ, H, hI, ht⟩)
theorem gssc_cons {t u : TGn} (a : GSc X xf st t) (b : GSsc X xf rest u) : GSsc X xf (st :: rest) (tGThen t u) := by
  refine ⟨fun A D ip R n ys s₀ c fs K J gd lv s σ H B g hn k hI ht => ?_⟩
  refine seg_execs_cons ?_
  refine a.run A D ip R n ys s₀ c fs _ J gd lv s σ H { B with nx := fun ys' σ' H' => u B ys' σ' H' } g hn ⟨fun n' ys' s₀' s' f hn' hs => ?_, k.exc⟩ hI ht
  cases f with
  | next =>
    obtain ⟨σ', H', I', q⟩ := hs
    exact b.run A D ip R n' ys' s₀' c fs K J gd lv s' σ' H' B g hn' k I' q
  | brk => exact k.ok n' ys' s₀' s' .brk hn' hs
  | cont => exact k.ok n' ys' s₀' s' .cont hn' hs
  | ret u => exact k.ok n' ys' s₀' s' (.ret u) hn' hs
theorem gsc_yield {e : Expr} {yp pos : Pos} {te : TE} (he : ∀ ps, PE (Xp X xf ps) e te) (hco : X.env.scope.isCoroutine = false := by rfl) (hi : interactive X.env = false := by rfl) : GSc X xf (.Expr (.Yield (some e) yp) pos) (tGYield te) := by
  refine ⟨fun A D ip R n ys s₀ c fs K J gd lv s σ H B g hn k hI ht => ?_⟩
  obtain ⟨hlt, ht⟩ := ht
  obtain ⟨n, rfl⟩ : ∃ m, n = m + 1 := ⟨n - 1, by omega⟩
  obtain ⟨ps, r, I⟩ := hI
  refine seg_Expr_Yield g.split g.gd g.guard ?_ hco hi
  rw [g.over]
  refine wpAny_mono ((he ps).run _ s σ H _ I ht) (fun v s' hv => ?_) fun x s' hx => k.exc _ s₀ ys ps x s' r hx
  obtain ⟨x, H1, I1, rv, q⟩ := hv
  have G1 : GIc X xf D ip ys σ H1 s' := ⟨ps, r, I1⟩
  intro kap hk
  refine ⟨ys, x, ip, σ, H1, hn, rv, G1, fun s'' z => hk .none s'' ?_⟩
  refine k.ok n (ys ++ [x]) s'' s'' .next ?_ ⟨σ, H1, G1.woken g.pn g.ip g.apart rv z, q⟩
  rw [List.length_append, List.length_singleton]; omega
theorem gcc_loop {D : Con} {ip : List (Addr × Obj)} {A : Around} {c c' : Code} {fs : List Frame} {gd : Bool → Bool} {k : Result → Sem PySem.Fin} {l kp : List Value} {p : Pos} (g : GCc X D ip A c fs gd) (hw : c'.weight = 0) (hu : c'.cUnits = 0) :
    GCc X D ip A c' (.ret k none (gd false) l c p kp :: fs) id where
  pn := g.pn
  ip := g.ip
  apart := g.apart
  over := (over_loop hw hu).trans g.over
  split := by
    show (splitAtGen fs).map _ = none
    rw [g.split]; rfl
  guard := by
    show (gd false || fs.any Frame.guarded) = false
    rw [g.gd, g.guard]; rfl
  gd := rfl
theorem segc_cameBack {D : Con} {ip : List (Addr × Obj)} {A : Around} {R : GenEnd} {c : Code} {fs : List Frame} {K : Flow → Sem PySem.Fin} {J : Value → Sem PySem.Fin} {gd : Bool → Bool} {lv : List Value → List Value} {B : GEnds} {n : Nat} {s₀ s : Shared} {e : Value} {ys : List V} {ps : List (Addr × Obj)}
    (g : GCc X D ip A c fs gd) (k : GKc X xf D ip A R c fs K J B) (hP : D.P ys ps) (h : cameBackBy (model X.prog X.w) X.A X.env (xf ps) e s) :
    Seg (model X.prog X.w) A R (GYc X xf D) n s₀ c (((Sem.raise e : Sem Flow).onRaise (cameBack X.env)).wrap K J gd lv) fs s := by
  show Seg _ _ _ _ _ _ _ (((cameBack X.env e).bind fun _ => (Sem.raise e : Sem Flow)).wrap K J gd lv) _ _
  rw [Sem.bind_eq_wrap, Sem.wrap_wrap]
  refine seg_wrap ?_
  rw [g.over]
  exact wpAny_mono h (fun _ s' hx => k.exc n s₀ ys ps e s' hP hx) fun x s' hx => k.exc n s₀ ys ps x s' hP hx
end
end Mi
end part_Mi91
section part_Mi92
set_option maxRecDepth 100000
set_option maxHeartbeats 4000000
/-! Mi, part 92: a for loop whose body hands out items. -/
namespace Mi
open PySem PySem.Spec PyProof.Rows L2 GenW
section
variable {M : Model} {A : Around} {R : GenEnd} {Y : Protocol} {n : Nat} {s₀ : Shared} {c : Code} {fs : List Frame} {s : Shared} {env : Env}
  {K : Flow → Sem PySem.Fin} {J : Value → Sem PySem.Fin} {gd : Bool → Bool} {lv : List Value → List Value}
theorem seg_For {tg iter : Expr} {body : List Stmt} {pos : Pos} (hs : ∀ x, foldedSetIterable iter env x = pure x)
    (h : wpAny M (A.over c fs) (eval iter env) (fun x s1 => wpAny M (A.over c fs) (pyIter x) (fun it s2 => ∀ l p, Seg M A R Y n s₀ (.forLoop tg it body [] env) (M.den (.forLoop tg it body [] env))
      (.ret (fun r => ((match r with | .ok f => (.pure f : Sem Flow) | .error e => .raise e).onRaise (cameBack env)).wrap K J gd lv) none (gd false) l c p [] :: fs) s2) (fun x s' => Seg M A R Y n s₀ c (J x) fs s') s1) (fun x s' => Seg M A R Y n s₀ c (J x) fs s') s) :
    Seg M A R Y n s₀ c ((exec (.For tg iter body [] pos) env).wrap K J gd lv) fs s := by
  rw [exec_For]
  refine seg_at ?_
  show Seg M A R Y n s₀ c ((eval iter env >>= fun v => (foldedSetIterable iter env v >>= fun x => (standAt iter.pos >>= fun _ => (holding [x] (pyIter x) >>= fun it => runOwn (.forLoop tg it body [] env) env)))).wrap K J gd lv) fs s
  refine seg_bind_wrap (wpAny_mono h (fun v s1 h1 => ?_) fun _ _ z => z)
  refine seg_bind_wrap (wpAny_of_eq (hs v) ?_)
  refine seg_bind_wrap (wpAny_standAt ?_)
  refine seg_bind_wrap (wpAny_holding (wpAny_mono h1 (fun it s2 h2 => ?_) fun _ _ z => z))
  exact seg_call fun p => h2 _ p
end
section
variable {prog : Program} {w : World} {A : Around} {R : GenEnd} {Y : Protocol} {n : Nat} {s₀ : Shared} {fs : List Frame} {s : Shared} {env : Env}
theorem seg_block_nil (h : Seg (model prog w) A R Y n s₀ (.block [] env) (.pure (.done .next)) fs s) : Seg (model prog w) A R Y n s₀ (.block [] env) ((model prog w).den (.block [] env)) fs s := h
theorem seg_forLoop {tg : Expr} {it : Value} {body : List Stmt}
    (h : wpAny (model prog w) (A.over (.forLoop tg it body [] env) fs) (pyNext it) (fun r s1 => match r with
        | none => Seg (model prog w) A R Y n s₀ (.forLoop tg it body [] env) (.pure (.again (.block [] env))) fs s1
        | some v => wpAny (model prog w) (A.over (.forLoop tg it body [] env) fs) (letOwnedTupleGo tg it v) (fun _ s2 => wpAny (model prog w) (A.over (.forLoop tg it body [] env) fs) (assign tg env v) (fun _ s3 =>
          Seg (model prog w) A R Y n s₀ (.forLoop tg it body [] env) ((execs body env).wrap (fun f => match f with
            | .next | .cont => .pure (.again (.forLoop tg it body [] env))
            | .brk => .pure (.done .next)
            | .ret v => .pure (.done (.ret v))) (fun e => (do noteFrame e env; theTreesLotGoes e : Sem Unit).wrap (fun _ => .raise e) .raise id id) id id) fs s3)
          (fun x s' => Seg (model prog w) A R Y n s₀ (.forLoop tg it body [] env) ((do noteFrame x env; theTreesLotGoes x : Sem Unit).wrap (fun _ => .raise x) .raise id id) fs s') s2)
          (fun x s' => Seg (model prog w) A R Y n s₀ (.forLoop tg it body [] env) ((do noteFrame x env; theTreesLotGoes x : Sem Unit).wrap (fun _ => .raise x) .raise id id) fs s') s1)
      (fun x s' => False) s) :
    Seg (model prog w) A R Y n s₀ (.forLoop tg it body [] env) ((model prog w).den (.forLoop tg it body [] env)) fs s := by
  show Seg _ A R Y n s₀ _ ((forTurn tg it body [] env).onRaise (fun x => do noteFrame x env; theTreesLotGoes x)) fs s
  unfold forTurn
  rw [Sem.onRaise_eq_wrap]
  refine seg_at ?_
  show Seg _ A R Y n s₀ _ (((pyNext it).onRaise (fun _ => standAt { tg.pos with line := 0 }) >>= fun r => _).wrap _ _ _ _) fs s
  refine seg_bind_wrap (wpAny_onRaise (wpAny_mono h (fun r s1 h1 => ?_) fun _ _ z => z.elim))
  cases r with
  | none => exact h1
  | some v =>
    have hh : ∀ e : Value, ((do noteFrame e env; theTreesLotGoes e : Sem Unit).bind fun _ => (Sem.raise e : Sem PySem.Fin)) = (do noteFrame e env; theTreesLotGoes e : Sem Unit).wrap (fun _ => .raise e) .raise id id := fun e => Sem.bind_eq_wrap _ _
    refine seg_bind_wrap (wpAny_mono h1 (fun _ s2 h2 => ?_) fun x s' z => ?_)
    · refine seg_bind_wrap (wpAny_mono h2 (fun _ s3 h3 => ?_) fun x s' z => ?_)
      · rw [Sem.bind_eq_wrap', Sem.wrap_wrap]
        refine Eq.mpr (congrArg (fun t => Seg (model prog w) A R Y n s₀ (Code.forLoop tg it body [] env) t fs s3) (?_ : _ = (execs body env).wrap (fun f => match f with
            | .next | .cont => .pure (.again (.forLoop tg it body [] env))
            | .brk => .pure (.done .next)
            | .ret v => .pure (.done (.ret v))) (fun e => (do noteFrame e env; theTreesLotGoes e : Sem Unit).wrap (fun _ => .raise e) .raise id id) id id)) h3
        exact Sem.wrap_congr (execs body env) id id (fun f => by cases f <;> rfl) (fun e => hh e)
      · show Seg _ A R Y n s₀ _ ((do noteFrame x env; theTreesLotGoes x : Sem Unit).bind fun _ => .raise x) fs s'
        rw [hh]; exact z
    · show Seg _ A R Y n s₀ _ ((do noteFrame x env; theTreesLotGoes x : Sem Unit).bind fun _ => .raise x) fs s'
      rw [hh]; exact z
theorem quiet_block : (Code.block [] env).quiet = true := by rfl
theorem quiet_forLoop {tg : Expr} {it : Value} {body : List Stmt} : (Code.forLoop tg it body [] env).quiet = true := by rfl
end
def tGFor (wi : TI) (g : TG) (tb : TGn) : TGn := fun B ys σ H => wi σ H fun J H1 => ∃ W : Nat → Nat → List V → L2.St → Hp → Prop, (∃ m, W 0 m ys σ H1) ∧ ∀ i m ys σ H, W i m ys σ H →
  (J.stop i H ∧ B.nx ys σ H) ∨ (J.go i H ∧ ∃ N : List V → L2.St → Hp → Prop, (∀ ys' σ' H', N ys' σ' H' → ∃ m', m' < m ∧ W (i + 1) m' ys' σ' H') ∧ ∀ x H', J.yld i H x H' → g x σ H' fun σ2 H2 => tb { B with nx := N, ct := N, bk := B.nx } ys σ2 H2)
section
variable {X : Cx} {xf : List (Addr × Obj) → Value → Shared → Prop}
theorem gsc_for {tg iter : Expr} {body : List Stmt} {wi : TI} {g : TG} {tb : TGn} {pos : Pos} (hp : ∀ ps, PassesOwn (model X.prog X.w) X.A X.env (xf ps)) (hc : X.calm = true) (hi : ∀ ps, PI (Xp X xf ps) tg iter wi) (hg : ∀ ps, PG (Xp X xf ps) tg g) (hb : GSsc X xf body tb)
    (hs : ∀ x, foldedSetIterable iter X.env x = pure x := by intro _; rfl) : GSc X xf (.For tg iter body [] pos) (tGFor wi g tb) := by
  refine ⟨fun A D ip R n ys s₀ c fs K J gd lv s σ H B gc hn k hI ht => ?_⟩
  obtain ⟨ps, hP, I⟩ := hI
  refine seg_For hs ?_
  rw [gc.over]
  refine wpAny_mono ((hi ps).run _ s σ H _ I ht) (fun v s1 h1 => ?_) fun x s' hx => k.exc n s₀ ys ps x s' hP hx
  refine wpAny_mono h1 (fun itv s2 h2 => ?_) fun x s' hx => k.exc n s₀ ys ps x s' hP hx
  obtain ⟨it, fp, tn, Jt, H2, e, I2, T, st2, f2, W, ⟨m0, w0⟩, turn⟩ := h2
  subst e
  intro l p
  have gl := fun (kk : Result → Sem PySem.Fin) => gcc_loop (k := kk) (c' := .forLoop tg (.ref it) body [] X.env) (l := l) (kp := []) (p := p) gc rfl rfl
  have nch : ∀ b ∈ fp, b ∉ D.ch := fun b hb hm => by
    obtain ⟨o, ho⟩ := D.all ys ps hP b hm
    exact (f2 b hb).2.2.2.2.2 (b, o) (List.mem_append_left _ (List.mem_append_right _ ho)) rfl
  have stat : ∀ {ys' : List V} {ps' : List (Addr × Obj)} {H' : Hp}, D.P ys' ps' → (∀ b ∈ fp, H' b = none) → ∀ b ∈ fp, FpOk (Xp X xf ps') ip H' b := fun {ys' ps' H'} hP' hn b hb => by
    obtain ⟨_, a1, a2, a3, a4, a5⟩ := f2 b hb
    refine ⟨hn b hb, a1, a2, a3, a4, fun p hp => ?_⟩
    rcases List.mem_append.mp hp with z | z
    · rcases List.mem_append.mp z with z | z
      · exact a5 p (List.mem_append_left _ (List.mem_append_left _ z))
      · exact fun e => nch b hb (by rw [← e]; exact D.mem _ _ hP' p z)
    · exact a5 p (List.mem_append_right _ z)
  have ee : ∀ (n : Nat) (s₀ : Shared) (ys : List V) (ps : List (Addr × Obj)) (x : Value) (s' : Shared), D.P ys ps → xf ps x s' → Seg (model X.prog X.w) A R (GYc X xf D) n s₀ (.forLoop tg (.ref it) body [] X.env)
      ((do noteFrame x X.env; theTreesLotGoes x : Sem Unit).wrap (fun _ => .raise x) .raise id id)
      (.ret (fun r => ((match r with | .ok f => (.pure f : Sem Flow) | .error e => .raise e).onRaise (cameBack X.env)).wrap K J gd lv) none (gd false) l c p [] :: fs) s' := fun n s₀ ys ps x s' hP' hx => by
    refine seg_wrap ?_
    rw [(gl _).over]
    refine wpAny_bind (wpAny_mono (hp ps x s' hx) (fun _ s'' hcb => wpAny_theTreesLotGoes ?_) fun y s'' hcb => ?_)
    · exact seg_leaf (.error x) (segc_cameBack gc k hP' hcb)
    · exact seg_leaf (.error y) (segc_cameBack gc k hP' hcb)
  have loop : ∀ (m i n : Nat) (ys : List V) (s₀ s : Shared) (σ : L2.St) (H : Hp), n + ys.length = sizeLine → W i m ys σ H → GIc X xf D ip ys σ H s → tn i s.heap → (∀ b ∈ fp, H b = none) →
      Seg (model X.prog X.w) A R (GYc X xf D) n s₀ (.forLoop tg (.ref it) body [] X.env) ((model X.prog X.w).den (.forLoop tg (.ref it) body [] X.env))
        (.ret (fun r => ((match r with | .ok f => (.pure f : Sem Flow) | .error e => .raise e).onRaise (cameBack X.env)).wrap K J gd lv) none (gd false) l c p [] :: fs) s := by
    intro m
    induction m using Nat.strongRecOn with
    | ind m ih =>
      intro i n ys s₀ s σ H hn w hI st fr
      obtain ⟨ps, hP, I⟩ := hI
      refine seg_forLoop ?_
      rw [(gl _).over]
      rcases turn i m ys σ H w with ⟨stop, qn⟩ | ⟨go, N, hN, step⟩
      · refine thn (T.done (Xp X xf ps) rfl rfl rfl hc i ip s σ H (fun _ _ => False) I (stat hP fr) st stop) fun r s4 ⟨hr, I4⟩ => ?_
        subst hr
        refine seg_again quiet_block ?_
        refine seg_block_nil ?_
        exact seg_leaf (.ok .next) (k.ok n ys s₀ s4 .next hn ⟨σ, H, ⟨ps, hP, I4⟩, qn⟩)
      · refine thn (T.item (Xp X xf ps) rfl rfl rfl hc i ip s σ H (fun _ _ => False) I (stat hP fr) st go) fun r s4 ⟨u, hr, h4⟩ => ?_
        subst hr
        refine wpAny_mono h4 (fun _ s5 ⟨x, H5, I5, r5, y5, st5, fr5⟩ => ?_) fun _ _ z => z.elim
        have I5' := I5.pinned (stat hP fr5) (T.obj _ _ st5)
        refine wpAny_mono ((hg ps).run _ s5 σ H5 x u _ I5' r5 (step x H5 y5)) (fun _ s6 ⟨σ6, H6, I6, q6⟩ => ?_) fun x s' hx => ee n s₀ ys ps x s' hP hx
        have hip : ∀ p ∈ ip ++ pinsAt fp s5.heap, p.1 ∉ D.ch := fun p hp => by
          rcases List.mem_append.mp hp with z | z
          · exact gc.ip p z
          · exact nch p.1 (of_pinsAt z).1
        have again : ∀ {ys7 : List V} {σ7 : L2.St} {H7 : Hp} {s7 : Shared} {n7 : Nat} {s₀7 : Shared}, n7 + ys7.length = sizeLine → GIc X xf D (ip ++ pinsAt fp s5.heap) ys7 σ7 H7 s7 → N ys7 σ7 H7 →
            Seg (model X.prog X.w) A R (GYc X xf D) n7 s₀7 (.forLoop tg (.ref it) body [] X.env) (.pure (.again (.forLoop tg (.ref it) body [] X.env)))
              (.ret (fun r => ((match r with | .ok f => (.pure f : Sem Flow) | .error e => .raise e).onRaise (cameBack X.env)).wrap K J gd lv) none (gd false) l c p [] :: fs) s7 := fun {ys7 σ7 H7 s7 n7 s₀7} hn7 hI7 hN7 => by
          obtain ⟨m', hm, w7⟩ := hN ys7 σ7 H7 hN7
          obtain ⟨ps7, hP7, I7⟩ := hI7
          refine seg_again quiet_forLoop (ih m' hm (i + 1) n7 ys7 s₀7 s7 σ7 H7 hn7 w7 ⟨ps7, hP7, I7.unpinned⟩ (T.keep _ _ _ st5 fun b hb o e => (I7.pin (b, o) (List.mem_append_right _ (List.mem_append_right _ (mem_pinsAt hb e)))).1) fun b hb => ?_)
          obtain ⟨o, e, d⟩ := T.obj _ _ st5 b hb
          exact (I7.pin (b, o) (List.mem_append_right _ (List.mem_append_right _ (mem_pinsAt hb e)))).2.1
        refine hb.run A D (ip ++ pinsAt fp s5.heap) R n ys s₀ _ _ _ _ id id s6 σ6 H6 { B with nx := N, ct := N, bk := B.nx } ⟨gc.pn, hip, gc.apart, (gl _).over, (gl _).split, (gl _).guard, rfl⟩ hn ⟨fun n' ys' s₀' s7 f hn' hs => ?_, fun n' s₀' ys' ps' x s7 hP' hx => ee n' s₀' ys' ps' x s7 hP' hx⟩ ⟨ps, hP, I6⟩ q6
        have un : ∀ {ys' : List V} {σ' : L2.St} {H' : Hp}, GIc X xf D (ip ++ pinsAt fp s5.heap) ys' σ' H' s7 → GIc X xf D ip ys' σ' H' s7 := fun {ys' σ' H'} ⟨ps', hP', I'⟩ => ⟨ps', hP', I'.unpinned⟩
        cases f with
        | next =>
          obtain ⟨σ7, H7, I7, n7⟩ := hs
          exact again hn' I7 n7
        | cont =>
          obtain ⟨σ7, H7, I7, n7⟩ := hs
          exact again hn' I7 n7
        | brk =>
          obtain ⟨σ7, H7, I7, q7⟩ := hs
          exact seg_leaf (.ok .next) (k.ok n' ys' s₀' s7 .next hn' ⟨σ7, H7, un I7, q7⟩)
        | ret v =>
          obtain ⟨x7, σ7, H7, I7, r7, q7⟩ := hs
          exact seg_leaf (.ok (.ret v)) (k.ok n' ys' s₀' s7 (.ret v) hn' ⟨x7, σ7, H7, un I7, r7, q7⟩)
  exact loop m0 0 n ys s₀ s2 σ H2 hn w0 ⟨ps, hP, I2⟩ st2 fun b hb => (f2 b hb).1
end
end Mi
end part_Mi92
section part_Mi93
set_option maxRecDepth 100000
set_option maxHeartbeats 4000000
/-! Mi, part 93: a generator def's promise to any drinker (the road is HandS.GenCall's). -/
namespace Mi
open PySem PySem.Spec PyProof.Rows L2 GenW

/-- the context of a generator's body: what is pinned is untracked and stands behind an exception, too -/
abbrev gcxC (P : Program) (w : World) (K : PySem.W.Frag) (mg : Str → Option Value) (base : Heap) (N : List Str) (qual : Str) (scope : Scope) (f : Addr) (cd : Value) (A : Around) (outer : List Env) (s : Shared) (H : Hp) (E : XK) (pn : List (Addr × Obj)) : Cx :=
  { cxOf (L2.CX P w) P w K mg base N qual scope f cd A outer s H E with
    pn := pn
    xe := fun e s' => wpAny (model P w) (A.deeper (envOfC qual scope s.heap.objs.size f cd)) (leaving (envOfC qual scope s.heap.objs.size f cd) e)
      (fun _ s'' => L2.CX P w outer H s (fun cls d H' => E cls d H' ∧ ∀ p ∈ pn, H' p.1 = none) e s'' ∧ ∀ p ∈ pn, s''.heap.get? p.1 = some p.2) (fun _ _ => False) s' }
theorem XE.leaveC {X : Cx} {W : WX} {E : XK} {s' : Shared} (hs : X.stack = X.env :: X.outer) (hf : X.env.frame = some X.env.locals) (hex : X.ex = []) {E₁ : Value → Shared → Prop} (hW : ∀ cls d σ H, W cls d σ H → E cls d H) {u : Value} (x : XE X W u s') :
    wpAny (model X.prog X.w) X.A (leaving X.env u) (fun _ s'' => L2.CX X.prog X.w X.outer X.H_0 X.s_0 (fun cls d H' => E cls d H' ∧ ∀ p ∈ X.pn, H' p.1 = none) u s'' ∧ ∀ p ∈ X.pn, s''.heap.get? p.1 = some p.2) E₁ s' := by
  obtain ⟨a, B, sI, pins, σ, H, cls, d, e, I, r⟩ := x
  have hp : ∀ p ∈ X.pn, H p.1 = none := fun p hp => (I.pin p (List.mem_append_left _ hp)).2.1
  obtain ⟨nb, up, sky, na, os, ag, w⟩ := r
  exact XE.leaveG (W := fun c d' σ' H' => W c d' σ' H' ∧ ∀ p ∈ X.pn, H' p.1 = none) (E := fun cls d H' => E cls d H' ∧ ∀ p ∈ X.pn, H' p.1 = none) hs hf hex (fun c d' σ' H' z => ⟨hW _ _ _ _ z.1, z.2⟩) ⟨a, B, sI, pins, σ, H, cls, d, e, I, nb, up, sky, na, os, ag, w, hp⟩
section
variable {P : Program} {w : World} {K : PySem.W.Frag} {mg : Str → Option Value} {base : Heap} {N : List Str} {qual : Str} {scope : Scope} {f : Addr} {cd : Value} {A : Around} {outer : List Env} {s : Shared} {H : Hp} {E : XK} {pn : List (Addr × Obj)}
theorem takes_gcxC : Takes (gcxC P w K mg base N qual scope f cd A outer s H E pn) (fun cls d _ H' => E cls d H') := fun u s' x =>
  XE.leaveC (X := gcxC P w K mg base N qual scope f cd A outer s H E pn) (W := fun cls d _ H' => E cls d H') (E := E) rfl rfl rfl (fun _ _ _ _ h => h) x
theorem owns_gcxC : PassesOwn (model P w) (gcxC P w K mg base N qual scope f cd A outer s H E pn).A (gcxC P w K mg base N qual scope f cd A outer s H E pn).env (gcxC P w K mg base N qual scope f cd A outer s H E pn).xe :=
  passes_of (X := gcxC P w K mg base N qual scope f cd A outer s H E pn) (K := fun e s'' => L2.CX P w outer H s (fun cls d H' => E cls d H' ∧ ∀ p ∈ pn, H' p.1 = none) e s'' ∧ ∀ p ∈ pn, s''.heap.get? p.1 = some p.2) (E₁ := fun _ _ => False) rfl
theorem to_gcxC {pins : List (Addr × Obj)} {σ : L2.St} {H' : Hp} {s' : Shared} (I : Inv (gcxOf P w K mg base N qual scope f cd A outer s H E pn) pins σ H' s') : Inv (gcxC P w K mg base N qual scope f cd A outer s H E pn) pins σ H' s' :=
  ⟨⟨I.ok.mod, I.ok.kind, I.ok.glob, I.ok.blt, I.ok.above, I.ok.inj, I.ok.has, I.ok.cab, I.ok.hd, I.ok.frames, I.ok.stk, I.ok.exf, I.ok.bs, I.ok.bsz, I.ok.noex, I.ok.exfs, I.ok.funs, I.ok.frf⟩, I.os, I.bare, I.base, I.loc, I.cell, I.free, I.freeC, I.pin, I.hok, I.len⟩
end
/-- the end of a run, or an exception that leaves it -/
def REndC (P : Program) (w : World) (outer : List Env) (H : Hp) (s : Shared) (D : Con) (a : Addr) (g : Nat) (Q : List V → Hp → Prop) (E : XK) : GenEnd := fun _ _ r s1 =>
  ((r = .ok (.ret .none) ∨ r = .ok .next) ∧ ∃ H' ys, s1.os = s.os ∧ AllBare s1.gens ∧ Un (frs outer) [] H H' s.heap s1.heap ∧ HOk P w H' s1.heap ∧ (∀ b ∈ D.ch, H' b = none) ∧ D.At ys s1.heap ∧ ys.length ≤ sizeLine ∧ Q ys H') ∨
  ∃ e, r = .error e ∧ L2.CX P w outer H s (fun cls d H' => E cls d H' ∧ ∀ b ∈ D.ch, H' b = none) e s1 ∧ s1.heap.IsGen a g ∧ ∃ ys, D.At ys s1.heap
def YItemC (s : Shared) (D : Con) (a : Addr) (g : Nat) : Protocol := fun n _ v s1 kap =>
  s1.os = s.os ∧ AllBare s1.gens ∧ s1.heap.NoLimit ∧ s1.heap.IsGen a g ∧ (∃ ys, D.At ys s1.heap ∧ n + 1 + ys.length = sizeLine) ∧ (∃ x, RelV x v) ∧ ∀ s', SleptC D v s1 s' → kap (.send .none) s'
def GMadeC (P : Program) (w : World) (k : Nat) (outer : List Env) (H : Hp) (s : Shared) (Q : List V → Hp → Prop) (E : XK) (u : Value) (s' : Shared) : Prop :=
  ∃ (a : Addr) (g : Nat) (c : Code), u = .ref a ∧ s.heap.objs.size ≤ a ∧ a < s'.heap.objs.size ∧ s'.heap.IsGen a g ∧ s'.gens[g]? = some (.fresh c) ∧ s'.os = s.os ∧ AllBare s'.gens ∧ s'.heap.NoLimit ∧ (∀ b o, s.heap.get? b = some o → s'.heap.get? b = some o) ∧
    ∀ (A : Around) (D : Con) (s2 : Shared), Room k A → A.frames = some outer → (∀ b ∈ D.ch, s'.heap.objs.size ≤ b) → (∀ b o, s'.heap.get? b = some o → s2.heap.get? b = some o) → D.At [] s2.heap → s2.os = s.os → AllBare s2.gens →
      Seg (model P w) A (REndC P w outer H s D a g Q E) (YItemC s D a g) sizeLine s2 c ((model P w).den c) [] s2
structure GFnC (P : Program) (w : World) (K : PySem.W.Frag) (mg : Str → Option Value) (base : Heap) (k : Nat) (f : Addr) (fd : FuncData) (ps : List Str) (sp : SpG) : Prop where
  len : ∀ vs H Q E, sp vs H Q E → vs.length = ps.length
  run : ∀ (A : Around) (outer : List Env) (s : Shared) (H : Hp) (args : Args) (us : List Value) (vs : List V) (Q : List V → Hp → Prop) (E : XK), Room k A → Env0 P w K mg base A outer s H → BindsTo s fd args (ps.zip us) → Vals vs us → sp vs H Q E →
    codeAny (model P w) A (.call (.ref f) args) (fun r s' => match r with | .ok (.ret u) => GMadeC P w k outer H s Q E u s' | _ => False) s
/-- the family of contexts of a generator's body -/
abbrev gxf (P : Program) (w : World) (K : PySem.W.Frag) (mg : Str → Option Value) (base : Heap) (N : List Str) (qual : Str) (scope : Scope) (f : Addr) (cd : Value) (A : Around) (outer : List Env) (s : Shared) (H : Hp) (E : XK) (pn : List (Addr × Obj)) : List (Addr × Obj) → Value → Shared → Prop :=
  fun ps => (gcxC P w K mg base N qual scope f cd A outer s H E (pn ++ ps)).xe
theorem CX.imp {P : Program} {w : World} {outer : List Env} {H : Hp} {s s' : Shared} {E E' : XK} {e : Value} (c : L2.CX P w outer H s E e s') (h : ∀ cls d H', E cls d H' → E' cls d H') : L2.CX P w outer H s E' e s' := by
  obtain ⟨a, B, H', cls, d, x1, x2, x3, x4, x5, x6, x7, x8⟩ := c
  exact ⟨a, B, H', cls, d, x1, x2, x3, x4, x5, x6, x7, h _ _ _ x8⟩
/-- THE RULE -/
theorem gfnc_of {P : Program} {w : World} {K : PySem.W.Frag} {mg : Str → Option Value} {base : Heap} {k : Nat} {f : Addr} {name qual : Str} {params : Arguments} {body : List Stmt} {scope : Scope} {dV kV doc pm cdv ct oc : Value} {an od : Option Addr}
    {osl : Array (Option Value)} {N ps : List Str} {sp : SpG} (lk : K.lookup f = some ⟨oc, od, .func (PySem.W.fnOf name qual params body scope dV kV doc pm an cdv ct), osl⟩) (hcd : PySem.W.codeIn K cdv qual = true) (S : GScope N ps scope)
    (len : ∀ vs H Q E, sp vs H Q E → vs.length = ps.length)
    (hbody : ∀ (A : Around) (outer : List Env) (s : Shared) (H : Hp) (vs : List V) (Q : List V → Hp → Prop) (E : XK) (pn : List (Addr × Obj)), Room k (A.deeper (envOfC qual scope s.heap.objs.size f cdv)) → sp vs H Q E →
      ∃ t, GSsc (gcxC P w K mg base N qual scope f cdv A outer s H E pn) (gxf P w K mg base N qual scope f cdv A outer s H E pn) body t ∧ t { nx := fun ys _ H' => Q ys H', rt := fun ys v H' => v = .non ∧ Q ys H' } [] (start N vs) H) :
    GFnC P w K mg base (k + 1) f (PySem.W.fnOf name qual params body scope dV kV doc pm an cdv ct) ps sp := by
  refine ⟨len, fun A outer s H args us vs Q E hr e0 hb r hsp => ?_⟩
  have hl := len _ _ _ _ hsp
  have KX : K.In s.heap := e0.mod.kin.keeps fun b o e => (e0.bs b o e).1
  have lim : s.heap.NoLimit := e0.mod.nolimit.keeps fun b o e => (e0.bs b o e).1
  have hkind : ∀ y ∈ ps.zip us, scope.names.lookup y.1 = some .local ∨ (scope.names.lookup y.1 = some .cell ∧ ((cellsFrom (s.heap.objs.size + 1) scope.names []).lookup y.1).isSome = true) := fun ⟨n, v⟩ hy => by
    rcases S.par n (List.of_mem_zip hy).1 with q | q
    · exact .inl q
    · exact .inr ⟨q, PySem.W.cellsFrom_some _ _ _ (.inl q)⟩
  refine codeAny_call_generator hr.depth (KX _ _ lk) rfl S.co S.gen rfl (PySem.W.codeRec_of KX hcd) (hb _ _ _ _ ?_)
  refine wpAny_newFunctionEnv_cells S.kind hkind fun env he s1 x => ?_
  subst he
  have lim1 : s1.heap.NoLimit := lim.keeps x.toInCall.keep
  refine ⟨lim1, ?_⟩
  obtain ⟨h1, tk, es1, hk1⟩ := x.done
  have os1 : s1.os = s.os := by rw [es1]
  have gen1 : s1.gens = s.gens := by rw [es1]
  have lt1 : s.heap.objs.size < s1.heap.objs.size := x.toInCall.ns.lt
  have sz1 : s.heap.objs.size ≤ s1.heap.objs.size := Nat.le_of_lt lt1
  have kp1 : ∀ b o, s.heap.get? b = some o → s1.heap.get? b = some o := x.toInCall.keep
  have main : ∀ (go : Obj) (nm qn : Value) (tk2 : Nat), go.cls = .type "generator" → go.data = .fields #[.int s1.gens.size 0, nm, qn] → go.slots = #[] → (∀ h : Heap, (h.push go).get? h.objs.size = some go) →
      GMadeC P w (k + 1) outer H s Q E (.ref s1.heap.objs.size) { s1 with gens := s1.gens.push (.fresh (.func body (envOfC qual scope s.heap.objs.size f cdv))), toks := tk2, heap := s1.heap.push go } := by
    intro go nm qn tk2 hgc hgd0 hgs hgp
    have hgen : ∀ h : Heap, h.get? s1.heap.objs.size = some go → h.IsGen s1.heap.objs.size s1.gens.size := fun h e => ⟨go, nm, qn, e, hgc, hgd0, hgs⟩
    have hpushed : (s1.heap.push go).get? s1.heap.objs.size = some go := hgp _
    refine ⟨s1.heap.objs.size, s1.gens.size, _, rfl, sz1, ?_, hgen _ hpushed, Array.getElem?_push_size .., os1, ?_, lim1.keeps fun b o e => Heap.get?_push_of_some _ e, fun b o e => Heap.get?_push_of_some _ (kp1 b o e), ?_⟩
    · show _ < (s1.heap.push _).objs.size
      rw [Heap.size_push]; exact Nat.lt_succ_self _
    · exact AllBare.push (by rw [gen1]; exact e0.bare) rfl
    intro Aw D s2 hrw hfr hSx hk2 hDo hos hba
    have e0w : Env0 P w K mg base Aw outer s H := ⟨hfr, e0.mod, e0.bs, e0.bsz, e0.funs, e0.frf, e0.hok, e0.bare⟩
    obtain ⟨t, ht, hq⟩ := hbody Aw outer s H vs Q E [(s1.heap.objs.size, go)] (hrw.deeper _) hsp
    have I1 : Inv (gcxOf P w K mg base N qual scope f cdv Aw outer s H E []) [] (start N vs) H s1 := inv_startG S hrw.hd e0w hl r x
    have kp2 : ∀ b o, s1.heap.get? b = some o → s2.heap.get? b = some o := fun b o e => hk2 b o (Heap.get?_push_of_some _ e)
    have I2 : Inv (gcxOf P w K mg base N qual scope f cdv Aw outer s H E []) [] (start N vs) H s2 :=
      I1.call' (ch := []) (hos.trans os1.symm) (Un.kept kp2) (I1.hok.kept kp2) hba fun b z => by simp at z
    have hSz : ∀ b ∈ D.ch, s1.heap.objs.size < b := fun b hb => by
      have hSx' : (s1.heap.push go).objs.size ≤ b := hSx b hb
      rw [Heap.size_push] at hSx'
      exact hSx'
    obtain ⟨ps0, hP0, hps0⟩ := hDo
    have hea : s2.heap.get? s1.heap.objs.size = some go := hk2 s1.heap.objs.size go hpushed
    have hgd : ∀ v, go.data ≠ .cell v := fun v q => by rw [hgd0] at q; cases q
    have young : ∀ b, s1.heap.objs.size ≤ b → H b = none ∧ b ≠ s.heap.objs.size ∧ b ∉ frs outer ∧ s.heap.objs.size ≤ b ∧ ∀ y c, (cellsFrom (s.heap.objs.size + 1) scope.names []).lookup y = some c → c ≠ b := fun b hb => by
      refine ⟨I1.hok.fresh hb, Nat.ne_of_gt (Nat.lt_of_lt_of_le lt1 hb), I1.nofs hb, Nat.le_trans sz1 hb, fun y c e z => ?_⟩
      obtain ⟨v, ob, ho, _⟩ := I1.cell y c e
      have := Heap.lt_size ho
      rw [z] at this
      exact absurd (Nat.lt_of_lt_of_le this hb) (Nat.lt_irrefl _)
    have hG : GIc (gcxC P w K mg base N qual scope f cdv Aw outer s H E [(s1.heap.objs.size, go)]) (gxf P w K mg base N qual scope f cdv Aw outer s H E [(s1.heap.objs.size, go)]) D [] [] (start N vs) H s2 := by
      refine ⟨ps0, hP0, to_gcxC (Inv.pinnedG (pn := [(s1.heap.objs.size, go)] ++ ps0) I2 fun p hp => ?_)⟩
      rw [List.append_nil] at hp
      rcases List.mem_append.mp hp with z | z
      · rw [List.mem_singleton.mp z]
        obtain ⟨y1, y2, y3, _, _⟩ := young s1.heap.objs.size (Nat.le_refl _)
        exact ⟨hea, y1, y2, y3, hgd⟩
      · obtain ⟨y1, y2, y3, _, _⟩ := young p.1 (Nat.le_of_lt (hSz _ (D.mem _ _ hP0 p z)))
        exact ⟨hps0 p z, y1, y2, y3, D.plain _ _ hP0 p z⟩
    have hAp : ApartC (gcxC P w K mg base N qual scope f cdv Aw outer s H E [(s1.heap.objs.size, go)]) D := fun b hb => by
      obtain ⟨_, y2, _, y4, y5⟩ := young b (Nat.le_of_lt (hSz b hb))
      exact ⟨y4, y2, y5⟩
    have hpn : ∀ p ∈ [(s1.heap.objs.size, go)], p.1 ∉ D.ch := fun p hp hm => by
      rw [List.mem_singleton.mp hp] at hm
      exact absurd (hSz _ hm) (Nat.lt_irrefl _)
    have pinned : ∀ {ip : List (Addr × Obj)} {ys : List V} {s' : Shared} {σ' : L2.St} {H' : Hp}, GIc (gcxC P w K mg base N qual scope f cdv Aw outer s H E [(s1.heap.objs.size, go)]) (gxf P w K mg base N qual scope f cdv Aw outer s H E [(s1.heap.objs.size, go)]) D ip ys σ' H' s' → s'.heap.IsGen s1.heap.objs.size s1.gens.size := fun {ip ys s' σ' H'} hI => by
      obtain ⟨ps', hP', J⟩ := hI
      exact hgen _ (J.pin (s1.heap.objs.size, go) (List.mem_append_left _ (List.mem_append_left _ (List.mem_singleton.mpr rfl)))).1
    refine seg_func ?_
    refine seg_imp (R := GRc (gcxC P w K mg base N qual scope f cdv Aw outer s H E [(s1.heap.objs.size, go)]) (gxf P w K mg base N qual scope f cdv Aw outer s H E [(s1.heap.objs.size, go)]) D (fun ys v H' => v = .non ∧ Q ys H')
        fun e s' => ∃ ys ps, D.P ys ps ∧ L2.CX P w outer H s (fun cls d H' => E cls d H' ∧ ∀ p ∈ [(s1.heap.objs.size, go)] ++ ps, H' p.1 = none) e s' ∧ ∀ p ∈ [(s1.heap.objs.size, go)] ++ ps, s'.heap.get? p.1 = some p.2)
      (Y := GYc (gcxC P w K mg base N qual scope f cdv Aw outer s H E [(s1.heap.objs.size, go)]) (gxf P w K mg base N qual scope f cdv Aw outer s H E [(s1.heap.objs.size, go)]) D) (fun n s₀ r s1' hR => ?_) (fun n s₀ v s1' kap kap' hkk hY => ?_) sizeLine ?_
    · cases r with
      | error e =>
        obtain ⟨ys, ps', q0, q1, q2⟩ := hR
        exact .inr ⟨e, rfl, CX.imp q1 (fun cls d H' z => ⟨z.1, fun b hb => by
          obtain ⟨o, ho⟩ := D.all _ _ q0 b hb
          exact z.2 (b, o) (List.mem_append_right _ ho)⟩), hgen _ (q2 (s1.heap.objs.size, go) (List.mem_append_left _ (List.mem_singleton.mpr rfl))), ys, ps', q0, fun p hp => q2 p (List.mem_append_right _ hp)⟩
      | ok fl =>
        cases fl with
        | next => exact False.elim hR
        | brk => exact False.elim hR
        | cont => exact False.elim hR
        | ret u =>
          obtain ⟨ys, v, ip, σ', H', hn, hI, rv, ev, hQ⟩ := hR
          subst ev
          have eu : u = Value.none := rv
          subst eu
          obtain ⟨a1, a2⟩ := hI.at
          obtain ⟨_, _, J⟩ := hI
          exact .inl ⟨.inl rfl, H', ys, J.os, J.bare, J.base, J.hok, fun b hb => (a2 b hb).1, a1, by omega, hQ⟩
    · obtain ⟨ys, xx, ip, σ', H', hn, h2, hI, h3⟩ := hY
      obtain ⟨a1, _⟩ := hI.at
      have hg := pinned hI
      obtain ⟨_, _, J⟩ := hI
      exact ⟨J.os, J.bare, J.nolimit, hg, ⟨ys, a1, hn⟩, ⟨xx, h2⟩, fun s' z => hkk _ _ (h3 s' z)⟩
    · refine ht.run Aw D [] _ sizeLine [] s2 _ [] _ _ id id s2 (start N vs) H _ ⟨hpn, fun p hp => (by simp at hp), hAp, over_func, rfl, rfl, rfl⟩ (Nat.add_zero _) ⟨fun n ys s₀ s' fl hn hs => ?_, fun n s₀ ys ps' e s' hP' hx => ?_⟩ hG hq
      · cases fl with
        | next =>
          obtain ⟨σ', H', hI, hQ⟩ := hs
          exact seg_end (.ok (.ret .none)) ⟨ys, .non, [], σ', H', hn, hI, rfl, rfl, hQ⟩
        | brk => obtain ⟨_, _, _, q⟩ := hs; exact False.elim q
        | cont => obtain ⟨_, _, _, q⟩ := hs; exact False.elim q
        | ret u =>
          obtain ⟨v, σ', H', hI, rv, ev, hQ⟩ := hs
          exact seg_end (.ok (.ret u)) ⟨ys, v, [], σ', H', hn, hI, rv, ev, hQ⟩
      · refine seg_wrap ?_
        rw [over_func]
        refine wpAny_mono (show wpAny (model P w) (Aw.deeper (envOfC qual scope s.heap.objs.size f cdv)) (leaving (envOfC qual scope s.heap.objs.size f cdv) e) (fun _ s'' => L2.CX P w outer H s (fun cls d H' => E cls d H' ∧ ∀ p ∈ [(s1.heap.objs.size, go)] ++ ps', H' p.1 = none) e s'' ∧ ∀ p ∈ [(s1.heap.objs.size, go)] ++ ps', s''.heap.get? p.1 = some p.2) (fun _ _ => False) s' from hx) (fun _ s'' q => ?_) fun _ s'' q => q.elim
        exact seg_end (.error e) ⟨ys, ps', hP', q⟩
  exact main _ _ _ _ rfl rfl rfl fun h => Heap.get?_push_size _ rfl
end Mi
end part_Mi93
section part_Mi94
set_option maxRecDepth 100000
set_option maxHeartbeats 4000000
/-! Mi, part 94: [x for x in g(..)]: a generator drunk by a comprehension. -/
namespace Mi
open PySem PySem.Spec PyProof.Rows L2 GenW

/-- the drinker: its list S, its names C -/
def DObj (o : Obj) : Prop := ∃ es ep, o.data = .dict es ep ∧ StrKeys es
def drinker (S C : Addr) : Con where
  ch := [S, C]
  P := fun ys ps => ∃ (acc : Array Value) (c : Nat) (oC : Obj), Vals ys acc.toList ∧ ps = [(S, lstObj acc c), (C, oC)] ∧ DObj oC
  mem := fun ys ps ⟨acc, c, oC, _, e, _⟩ p hp => by
    subst e
    simp only [List.mem_cons, List.not_mem_nil, or_false] at hp
    rcases hp with rfl | rfl <;> simp
  all := fun ys ps ⟨acc, c, oC, _, e, _⟩ b hb => by
    subst e
    simp only [List.mem_cons, List.not_mem_nil, or_false] at hb
    rcases hb with rfl | rfl
    · exact ⟨_, List.mem_cons_self⟩
    · exact ⟨_, List.mem_cons_of_mem _ List.mem_cons_self⟩
  plain := fun ys ps ⟨acc, c, oC, _, e, es, ep, hd, _⟩ p hp v q => by
    subst e
    simp only [List.mem_cons, List.not_mem_nil, or_false] at hp
    rcases hp with rfl | rfl
    · cases q
    · rw [hd] at q; cases q
theorem drinker_at {S C : Addr} {ys : List V} {h : Heap} (x : (drinker S C).At ys h) : ∃ acc c m, Vals ys acc.toList ∧ h.get? S = some (lstObj acc c) ∧ h.Ns C m := by
  obtain ⟨ps, ⟨acc, c, oC, r, rfl, es, ep, hd, hk⟩, hp⟩ := x
  exact ⟨acc, c, _, r, hp _ List.mem_cons_self, oC, es, ep, hp _ (List.mem_cons_of_mem _ List.mem_cons_self), hd, hk, fun _ => rfl⟩
theorem drinker_of {S C : Addr} {ys : List V} {h : Heap} {acc : Array Value} {c : Nat} {m : Str → Option Value} (r : Vals ys acc.toList) (h1 : h.get? S = some (lstObj acc c)) (h2 : h.Ns C m) : (drinker S C).At ys h := by
  obtain ⟨oC, es, ep, ho, hd, hk, _⟩ := h2
  refine ⟨_, ⟨acc, c, oC, r, rfl, es, ep, hd, hk⟩, fun p hp => ?_⟩
  simp only [List.mem_cons, List.not_mem_nil, or_false] at hp
  rcases hp with rfl | rfl
  · exact h1
  · exact ho
theorem drank {S C : Addr} {v : Value} {s s' : Shared} (os : s'.os = s.os) (hG : AllBare s'.gens) (keep : ∀ b o, b ≠ S → b ≠ C → s.heap.get? b = some o → s'.heap.get? b = some o)
    (hl : ∀ acc c, s.heap.get? S = some (lstObj acc c) → ∃ c', s'.heap.get? S = some (lstObj (acc.push v) c')) (hn : ∃ m, s'.heap.Ns C m) : SleptC (drinker S C) v s s' where
  os := os
  bare := hG
  keep := fun b o hb e => by
    have hb : b ∉ [S, C] := hb
    simp only [List.mem_cons, List.not_mem_nil, or_false, not_or] at hb
    exact keep b o hb.1 hb.2 e
  own := fun ys x rv hat => by
    obtain ⟨acc, c, m, r, e1, _⟩ := drinker_at hat
    obtain ⟨c', e'⟩ := hl acc c e1
    obtain ⟨m', hm⟩ := hn
    refine drinker_of (acc := acc.push v) ?_ e' hm
    rw [Array.toList_push]
    exact r.append (.cons rv .nil)

/-- an expression whose value is a generator that has not begun -/
structure PGenC (X : Cx) (k : Nat) (e : Expr) (tg : TGen) (E : L2.St → XK) : Prop where
  run : ∀ (pins : List (Addr × Obj)) (s : Shared) (σ : L2.St) (H : Hp) (cont : List V → Hp → Prop), Inv X pins σ H s → tg σ H cont → wpAny (model X.prog X.w) X.A (eval e X.env)
    (fun u s' => ∃ H1 sc, Inv X pins σ H1 sc ∧ GMadeC X.prog X.w k X.stack H1 sc cont (E σ) u s') X.xe s
section
variable {P : Program} {w : World} {A : Around} {outer : List Env} {H : Hp} {sc : Shared} {Q : List V → Hp → Prop} {EX : XK}
/-- the turns of the drinker -/
theorem drinks {iter : Expr} {x : Str} {px px' : Pos} {scope : Scope} {pos : Pos} {S a : Addr} {g : Nat} {ce : Env} {R : Result → Shared → Prop}
    (hh : A.handled = none) (hd : A.depth + 1 < recursionLimit) (hxk : ce.kindOf x = some .local) (hck : ce.scope.kind = .function) (hdb : (x == ("__debug__" : Str)) = false)
    (hSa : S ≠ a) (hCa : ce.locals ≠ a) (hSC : S ≠ ce.locals) (hSc : S ≠ cStatics) (hCc : ce.locals ≠ cStatics)
    (hend : ∀ s' H' ys, (drinker S ce.locals).At ys s'.heap → ys.length ≤ sizeLine → s'.os = sc.os → AllBare s'.gens → Un (frs outer) [] H H' sc.heap s'.heap → HOk P w H' s'.heap → H' S = none → H' ce.locals = none → Q ys H' → R (.ok .next) s')
    (hexc : ∀ e s' G, (∃ ys, (drinker S ce.locals).At ys s'.heap) → L2.CX P w outer H sc (fun cls d H' => EX cls d H' ∧ ∀ b ∈ (drinker S ce.locals).ch, H' b = none) e s' → AllBare G → NotStop (model P w) e s'.heap ∧ notedBy (model P w) A ce (fun e s' => R (.error e) s') e { s' with gens := G }) :
    ∀ (m : Nat) (s : Shared), s.heap.IsGen a g → s.heap.NoLimit →
      (∃ gs, s.gens[g]? = some gs ∧ gs.Goes (model P w) A.in1 (REndC P w outer H sc (drinker S ce.locals) a g Q EX) (YItemC sc (drinker S ce.locals) a g) m (.send .none) (s.setGen g .running)) →
      codeAny (model P w) A (.compLoop (.ListComp (.Name x px') [⟨.Name x px, iter, [], 0⟩] scope pos) 0 (.ref a) (.ref S) ce) R s := by
  intro m s hg hl hgs
  refine compLoop_any (fun m s => s.heap.IsGen a g ∧ s.heap.NoLimit ∧ ∃ gs, s.gens[g]? = some gs ∧ gs.Goes (model P w) A.in1 (REndC P w outer H sc (drinker S ce.locals) a g Q EX) (YItemC sc (drinker S ce.locals) a g) m (.send .none) (s.setGen g .running)) ?_ m ⟨hg, hl, hgs⟩
  clear hg hl hgs s m
  rintro m s ⟨hg, hl, gs, hgs, hgo⟩
  have hgl : g < s.gens.size := (Array.getElem?_eq_some_iff.mp hgs).1
  have goes : ∀ {gs : GenState} {n : Nat} {r : Resume} {s : Shared}, gs.Goes (model P w) A.in1 (REndC P w outer H sc (drinker S ce.locals) a g Q EX) (YItemC sc (drinker S ce.locals) a g) n r s →
      gs.Goes (model P w) A.in1 (fun n s₀ r s1 => ((r = .ok (.ret .none) ∨ r = .ok .next) ∧ (∃ H' ys, s1.os = sc.os ∧ AllBare s1.gens ∧ Un (frs outer) [] H H' sc.heap s1.heap ∧ HOk P w H' s1.heap ∧ (∀ b ∈ (drinker S ce.locals).ch, H' b = none) ∧ (drinker S ce.locals).At ys s1.heap ∧ ys.length ≤ sizeLine ∧ Q ys H')) ∨
        ∃ e, r = .error e ∧ (L2.CX P w outer H sc (fun cls d H' => EX cls d H' ∧ ∀ b ∈ (drinker S ce.locals).ch, H' b = none) e s1 ∧ s1.heap.IsGen a g ∧ ∃ ys, (drinker S ce.locals).At ys s1.heap)) (YItemC sc (drinker S ce.locals) a g) n r s := fun h => h
  refine wpAny_gsz (n := g + 1) hgl (next_genG (A := A) hh hl (by omega) hg hgs (goes hgo) (fun v s₁ gs' hbare hv => ?_) (fun s₁ hp h' hk => ?_) fun e s₁ he => ?_)
  · intro hsz
    obtain ⟨os1, hb1, hl1, hg1, ⟨ys, hat, hn⟩, ⟨xv, hrx⟩, hk⟩ := hv
    obtain ⟨acc, c, mC, hr, hS1, hC1⟩ := drinker_at hat
    have hasz : acc.size = ys.length := by
      have e1 := hr.length
      have e2 : acc.toList.length = acc.size := by simp
      omega
    have hle : acc.size < sizeLine := by omega
    show wpAny _ A (letOwnedTupleGo (.Name x px) (.ref a) v) _ _ _
    refine wpAny_pure ?_
    refine wpAny_assign_Name (wpAny_storeName_local (m := mC) hxk hC1 (fun h2 hC2 sb2 => ?_) (by rw [hck]; rfl))
    refine wpAny_tests_nil ?_
    rw [if_pos rfl]
    refine wpAny_Name (wpAny_loadName_local hck hxk hC2 (v := v) (by simp) ?_) hdb
    have hS2 : h2.get? S = some (lstObj acc c) := (sb2.2 S hSC).trans hS1
    have hIL : h2.IsList S acc := ⟨_, hS2, rfl, _, rfl⟩
    refine wpAny_call_entry slot_list_append (Heap.IsList.typeIs (s := { s₁.setGen g gs' with heap := h2, toks := _ }) hIL) entry_list_append ?_ (args_list_append _ _)
    show wpAny _ _ (updateSeq S (·.push v) >>= fun _ => ret .none) _ _ _
    refine wpAny_bind ?_
    refine wpAny_updateSeq hS2 rfl (wpAny_pure ⟨.none, rfl, ?_⟩) (Nat.le_of_lt hle) (by show (acc.push v).size ≤ sizeLine + 1; rw [Array.size_push]; omega)
    have keep3 : ∀ b o, b ≠ S → b ≠ ce.locals → s₁.heap.get? b = some o → (h2.update S (Obj.mapSeq (·.push v))).get? b = some o := fun b o hbS hbC e =>
      (Heap.get?_update_other _ _ (Ne.symm hbS)).trans ((sb2.2 b hbC).trans e)
    have hC3 : ∃ m', (h2.update S (Obj.mapSeq (·.push v))).Ns ce.locals m' := by
      obtain ⟨oC, es, ep, ho, r⟩ := hC2
      exact ⟨_, oC, es, ep, (Heap.get?_update_other _ _ hSC).trans ho, r⟩
    have hsz1 : g < s₁.gens.size := by
      have q : (s₁.setGen g gs').gens.size = s₁.gens.size := setGen_size _ _ _
      have hsz' : g + 1 ≤ (s₁.setGen g gs').gens.size := hsz
      omega
    have sl : SleptC (drinker S ce.locals) v s₁ ({ ({ s₁.setGen g gs' with heap := h2.update S (Obj.mapSeq (·.push v)), toks := (s₁.setGen g gs').toks + 1 } : Shared).setGen g .running with os := s₁.os }) := by
      refine drank rfl (allBare_setGen (s := { s₁.setGen g gs' with heap := _, toks := _ }) (allBare_setGen hb1 hbare) rfl) keep3 (fun acc' c' e' => ?_) hC3
      rw [hS1] at e'
      cases e'
      exact ⟨_, Heap.get?_update_self _ hS2 rfl⟩
    have go := hk _ sl
    cases m with
    | zero => exact False.elim go
    | succ m =>
      refine ⟨m, Nat.lt_succ_self _, ?_, ?_, gs', setGen_at hsz1, go⟩
      · obtain ⟨o, nm, qn, ho, r⟩ := hg1
        exact ⟨o, nm, qn, keep3 a o (Ne.symm hSa) (Ne.symm hCa) ho, r⟩
      · obtain ⟨mc, hns, hnn⟩ := hl1
        exact ⟨mc, hns.at' fun o e => keep3 _ o (Ne.symm hSc) (Ne.symm hCc) e, hnn⟩
  · intro hsz
    obtain ⟨H', ys, os1, hb1, un, hok, hno, hat, hle, hQ⟩ := hp
    obtain ⟨acc, c, mC, hr, hS1, hC1⟩ := drinker_at hat
    exact hend { s₁.setGen g .finished with heap := h' } H' ys (drinker_of hr (hk _ _ hS1) (hC1.keeps hk)) hle os1 (allBare_setGen hb1 rfl) (un.trans (Un.kept hk)) (hok.kept hk) (hno S (by simp [drinker])) (hno ce.locals (by simp [drinker])) hQ
  · obtain ⟨hc, hg1, hat⟩ := he
    have hb : AllBare s₁.gens := by
      obtain ⟨_, _, _, _, _, _, _, _, _, _, _, ag, _⟩ := hc
      exact ag
    obtain ⟨q1, q2⟩ := hexc e s₁ _ hat hc (allBare_setGen (g := g) (x := .finished) hb rfl)
    exact ⟨hg1, q1, fun _ => q2⟩
end
end Mi
end part_Mi94
section part_Mi95
set_option maxRecDepth 100000
set_option maxHeartbeats 4000000
/-! Mi, part 95: the comprehension around the drinker. -/
namespace Mi
open PySem PySem.Spec PyProof.Rows L2 GenW
section
variable {X : Cx} {W : WX}
/-- an exception of a generator leaves the comprehension that drinks it -/
theorem left_by_gen {pins : List (Addr × Obj)} {σ : L2.St} {H : Hp} {sc s' : Shared} {E : XK} {ce : Env} {S : Addr} {use : Option (Value → Sem Unit)} {Qf : Value → Shared → Prop} {acc e : Value} {G : Array GenState}
    (hs : X.stack = X.env :: X.outer) (hf : X.env.frame = some X.env.locals) (tk : Takes X W) (hE : ∀ cls d H', E cls d H' → W cls d σ H') (I : Inv X pins σ H sc) (hC : sc.heap.objs.size ≤ ce.locals) (hcf : ce.frame = X.env.frame)
    (hat : ∃ ys, (drinker S ce.locals).At ys s'.heap) (c : L2.CX X.prog X.w X.stack H sc (fun cls d H' => E cls d H' ∧ ∀ b ∈ (drinker S ce.locals).ch, H' b = none) e s') (hG : AllBare G) :
    notedBy (model X.prog X.w) X.A ce (fun e s' => compEnds (model X.prog X.w) X.A X.xe use Qf acc ce (.error e) s') e { s' with gens := G } := by
  obtain ⟨a, B, H', cls, d, rfl, fl, hok, ub, na, os, ag, hE', hno⟩ := c
  obtain ⟨ys, hat⟩ := hat
  obtain ⟨acc', c', m, _, _, hn⟩ := drinker_at hat
  have hCn : H' ce.locals = none := hno _ (by simp [drinker])
  have hfr : X.A.frames = some (X.env :: X.outer) := by rw [I.ok.frames, hs]
  have ltC : ∀ b o, sc.heap.get? b = some o → b ≠ ce.locals := fun b o e q => by
    have := Heap.lt_size e
    rw [q] at this
    exact absurd (Nat.lt_of_lt_of_le this hC) (Nat.lt_irrefl _)
  have hCF : ce.locals ∉ frs X.stack := fun z => by
    obtain ⟨_, o', e', _⟩ := I.stack.mem z
    exact ltC _ o' e' rfl
  -- the ground with the frames, the comprehension's names hidden
  obtain ⟨Gd, g1, g2⟩ := L2.restrict s'.heap fun b => ((B.get? b).isSome && decide (b ≠ ce.locals)) || decide (b ∈ frs X.stack)
  have st : B.StaysIn s'.heap := fl.1
  have gB : ∀ b o, B.get? b = some o → b ≠ ce.locals → Gd.get? b = some o := fun b o e n => by
    rw [g1 b (by simp [e, n])]
    exact st b o e
  have gF : ∀ b, b ∈ frs X.stack → Gd.get? b = s'.heap.get? b := fun b hb => g1 b (by simp [hb])
  have og : ∀ b o, Gd.get? b = some o → s'.heap.get? b = some o ∧ (((B.get? b).isSome = true ∧ b ≠ ce.locals) ∨ b ∈ frs X.stack) := fun b o e => by
    cases q : (((B.get? b).isSome && decide (b ≠ ce.locals)) || decide (b ∈ frs X.stack)) with
    | false => rw [g2 b q] at e; cases e
    | true =>
      rw [g1 b q] at e
      refine ⟨e, ?_⟩
      simpa [Bool.or_eq_true, Bool.and_eq_true] using q
  have ogC : ∀ b o, Gd.get? b = some o → b ≠ ce.locals := fun b o e q => by
    rcases (og b o e).2 with z | z
    · exact z.2 q
    · exact hCF (by rw [← q]; exact z)
  have J : Inv X pins σ H' { sc with heap := Gd, gens := G, drawn := s'.drawn, toks := s'.toks } := by
    refine I.call (ch := []) ⟨fun b o e n hb _ => gB b o (ub.keep b o e n hb) (ltC b o e), fun b o e n hb _ => ?_, fun b o e n _ => ub.free b o e n, fun b o e _ => ?_, ub.tups, ub.frzs, ub.tbls⟩ (fun b o q => (hok b o q).stay (fun c u hc r => gB _ _ r ?_) (fun _ r => r) fun _ _ r => r) hG (fun _ z => nomatch z)
    · obtain ⟨sl, q⟩ := ub.slot b o e hb
      exact ⟨sl, by rw [gF b hb]; exact q⟩
    · by_cases hb : b ∈ frs X.stack
      · obtain ⟨sl, q⟩ := ub.slot b o e hb
        exact ⟨_, by rw [gF b hb]; exact q⟩
      · obtain ⟨o', q⟩ := ub.there b o e hb
        exact ⟨o', gB b o' q (ltC b o e)⟩
    · intro z
      rcases hc with hc | hc
      · rw [← hc, z, hCn] at q; cases q
      · rw [z, hCn] at hc; cases hc
  have hid : ∀ b o, (PySem.W.hideAll B [ce.locals]).get? b = some o → B.get? b = some o ∧ b ≠ ce.locals := fun b o e => ⟨PySem.W.of_hideAll _ e, fun q => by
    rw [PySem.W.hideAll_none [ce.locals] (by rw [q]; simp)] at e; cases e⟩
  show wpAny (model X.prog X.w) X.A (noteFrame (.ref a) ce) _ _ _
  rw [noteFrame_env _ hcf]
  rw [hs] at fl
  refine HandSPX.looks_onZ (s := { s' with gens := G }) Zc.steady hfr hf fl fun h1 hh up1 => ?_
  have hn1 : h1.Ns ce.locals m := hn.upToSlots up1
  have cf : CompFails (model X.prog X.w) X.A X.xe ce (.ref a) { s' with gens := G, heap := h1 } := by
    refine ⟨m, hn1, fun h₂ m₂ hn₂ hs₂ => ?_⟩
    obtain ⟨g1, g2, g3, oe, vs, T, oT, ts, he, hz, hd, hv1, hnT, hTe, hT, hdT, h3⟩ := hh
    have nC : ∀ b o vs, h1.get? b = some o → o.data = .fields vs → b ≠ ce.locals := fun b o vs e ed q => by
      obtain ⟨oL, es, ep, hoL, hdL, _⟩ := hn1
      rw [q, hoL] at e
      cases e
      rw [hdL] at ed; cases ed
    have g3' : h₂.FunFrames B (X.env :: X.outer) := Heap.FunFrames.sameBut hs₂ hn₂ g3
    have hB : (PySem.W.hideAll B [ce.locals]).get? a = none := by
      cases q : (PySem.W.hideAll B [ce.locals]).get? a with
      | none => rfl
      | some o => rw [(hid _ _ q).1] at g2; cases g2
    have hBT : (PySem.W.hideAll B [ce.locals]).get? T = none := by
      cases q : (PySem.W.hideAll B [ce.locals]).get? T with
      | none => rfl
      | some o => rw [(hid _ _ q).1] at hnT; cases hnT
    have hh2 : HandSPX.HeldZ (PySem.W.hideAll B [ce.locals]) (X.env :: X.outer) a (Zc cls d) X.env.locals h₂ := by
      refine ⟨fun b o e => ?_, hB, funFrames_none g3' fun b hb => ?_, oe, vs, T, oT, ts, (hs₂.2 a (nC a oe vs he hd)).trans he, hz, hd, hv1, hBT, hTe, (hs₂.2 T (nC T oT ts hT hdT)).trans hT, hdT, h3⟩
      · obtain ⟨e1, e2⟩ := hid _ _ e
        exact (hs₂.2 b e2).trans (g1 b o e1)
      · cases q : (PySem.W.hideAll B [ce.locals]).get? b with
        | none => rfl
        | some o =>
          have z := (g3.mem hb).1
          rw [(hid _ _ q).1] at z; cases z
    unfold PySem.passOn
    refine wpAny_bind (wpAny_field ((hs₂.2 a (nC a oe vs he hd)).trans he) hd hv1 ?_)
    rw [if_neg (show ¬ ((Value.ref T == Value.none) = true) from by simp)]
    rw [hcf, hf]
    refine wpAny_bind (HandSPX.setFlight_onZ hh2 fun h₃ hh3 up3 => ?_)
    refine wpAny_throw ?_
    refine tk (.ref a) _ ⟨a, PySem.W.hideAll B [ce.locals], _, pins, σ, H', cls, d, rfl, J, fun b o e hb => ?_, fun b o e hnf => ?_, ?_, na, os, hG, hE _ _ _ hE'⟩
    · obtain ⟨e1, h | h⟩ := og b o e
      · obtain ⟨o', q⟩ := Option.isSome_iff_exists.mp h.1
        have z := st b o' q
        rw [e1] at z; cases z
        exact PySem.W.hideAll_get _ q (by simpa using h.2)
      · exact absurd h hb
    · obtain ⟨e1, _⟩ := og b o e
      obtain ⟨sl, q⟩ := up1 b o e1 hnf
      obtain ⟨sl3, q3⟩ := up3 b _ ((hs₂.2 b (ogC b o e)).trans q) hnf
      exact ⟨sl3, q3⟩
    · rw [hs]
      exact .inr (.inr hh3)
  cases use <;> exact cf
def tLcG (tg : TGen) : TE := fun σ H Q => tg σ H fun out H2 => ∀ p, H2 p = none → Q (.ref p) (upd H2 p (.lst out))
theorem lcg_core {pins : List (Addr × Obj)} {s : Shared} {σ : L2.St} {H : Hp} {Q : VK} {x : Str} {px px' : Pos} {iter : Expr} {scope : Scope} {own : List (Str × Nat)} {pos pos' : Pos} {tg : TGen} {E : L2.St → XK} {k : Nat} {use : Option (Value → Sem Unit)} {Qf : Value → Shared → Prop}
    (hst : X.stack = X.env :: X.outer) (hfe : X.env.frame = some X.env.locals) (tk : Takes X W) (I : Inv X pins σ H s) (hi : PGenC X k iter tg E) (hr : Room (k + 2) X.A) (ok : BlkOk X.N X.env.scope scope own)
    (hx : scope.names.lookup x = some .local) (hdb : (x == ("__debug__" : Str)) = false) (hE : ∀ cls d H', E σ cls d H' → W cls d σ H') (hns : NoStop X.K (E σ)) (hs : ∀ x, foldedSetIterable iter X.env x = pure x) (h : tLcG tg σ H Q)
    (hRR : ∀ D ce s' m H', Inv X pins σ H' s' → Q (.ref D) H' → s'.heap.Ns ce.locals m → FpOk X pins H' ce.locals → compEnds (model X.prog X.w) X.A X.xe use Qf (.ref D) ce (.ok .next) s') :
    wpAny (model X.prog X.w) X.A (comprehension (.ListComp (.Name x px') [⟨.Name x px, iter, [], 0⟩] scope pos) scope X.env pos' (newList []) false (eval iter X.env) use) Qf X.xe s := by
  have hfree : ∀ y ∈ scope.names, y.2 = .free → ∃ c, X.env.cells.lookup y.1 = some c := fun y hy e => by
    rcases ok.free y hy e with k | k
    · exact I.ok.has _ (.inl k)
    · exact I.ok.has _ (.inr k)
  refine comprehension_at (use := use) rfl hs (closure_ok hfree) ok.kind (fun y hy e => by rw [ok.uniq y hy, e]) (thn (hi.run pins s σ H _ I h) fun u s1 hx1 => ?_)
  obtain ⟨H1, sc, I1, a, g, c, rfl, ha1, ha2, hg, hgs, hos, hb, hl, hkp, wake⟩ := hx1
  refine wpAny_pyIter_gen hg ?_
  refine wpAny_newObj_type (newEnv_comp ?_) (by show 0 ≤ sizeLine; decide)
  generalize hS : s1.heap.objs.size = S
  generalize hs3 : s1.heap.push { cls := .type "list", data := .seq ([] : List Value).toArray } = h3
  have hSs : h3.get? S = some (lstObj #[] 0) := by
    rw [← hs3, ← hS]
    exact Heap.get?_push_size _ rfl
  have sz3 : h3.objs.size = S + 1 := by rw [← hs3, Heap.size_push, hS]
  have k3 : ∀ b o, s1.heap.get? b = some o → h3.get? b = some o := fun b o e => by rw [← hs3]; exact Heap.get?_push_of_some _ e
  show codeAny _ _ (.compStart (.ListComp (.Name x px') [⟨.Name x px, iter, [], 0⟩] scope pos) 0 (.ref a) (.ref S) (compEnvC scope (cellsFrom (h3.objs.size + 1) scope.names (cloFrom X.env.cells scope.names [])) h3.objs.size X.env)) (compEnds (model X.prog X.w) X.A X.xe use Qf (.ref S) (compEnvC scope (cellsFrom (h3.objs.size + 1) scope.names (cloFrom X.env.cells scope.names [])) h3.objs.size X.env))
    { s1 with heap := pushCells (h3.push { cls := .type "dict", data := .dict #[] }) scope.names }
  generalize hs4 : pushCells (h3.push { cls := .type "dict", data := .dict #[] }) scope.names = h4
  have k4 : ∀ b o, h3.get? b = some o → h4.get? b = some o := fun b o e => by rw [← hs4]; exact pushCells_keeps _ _ _ _ (Heap.get?_push_of_some _ e)
  have hC4 : h4.Ns h3.objs.size (fun _ => none) := ⟨_, #[], _, by rw [← hs4]; exact pushCells_keeps _ _ _ _ (Heap.get?_push_size _ rfl), rfl, fun e he => by simp at he, fun _ => rfl⟩
  generalize hce : compEnvC scope (cellsFrom (h3.objs.size + 1) scope.names (cloFrom X.env.cells scope.names [])) h3.objs.size X.env = ce
  have cL : ce.locals = h3.objs.size := by subst hce; rfl
  have cF : ce.frame = X.env.frame := by subst hce; rfl
  have cS : ce.scope = relS scope X.env.scope := by subst hce; rfl
  have hxk : ce.kindOf x = some .local := by
    unfold Env.kindOf
    rw [cS]
    exact lookup_relS_keep (by decide) hx
  have hck : ce.scope.kind = .function := by rw [cS]; exact ok.kind
  have kp : ∀ b o, s1.heap.get? b = some o → h4.get? b = some o := fun b o e => k4 b o (k3 b o e)
  have hcl : cStatics < s1.heap.objs.size := let ⟨_, hn, _⟩ := hl; hn.lt
  have hsc : sc.heap.objs.size ≤ S := by rw [← hS]; exact Nat.le_trans ha1 (Nat.le_of_lt ha2)
  have hscC : sc.heap.objs.size ≤ ce.locals := by rw [cL, sz3]; exact Nat.le_succ_of_le hsc
  have haS : a < S := by rw [← hS]; exact ha2
  have loop : codeAny (model X.prog X.w) X.A (.compLoop (.ListComp (.Name x px') [⟨.Name x px, iter, [], 0⟩] scope pos) 0 (.ref a) (.ref S) ce) (compEnds (model X.prog X.w) X.A X.xe use Qf (.ref S) ce) { s1 with heap := h4 } := by
    refine drinks (P := X.prog) (w := X.w) (outer := X.stack) (H := H1) (sc := sc) (Q := fun out H2 => ∀ p, H2 p = none → Q (.ref p) (upd H2 p (.lst out))) (EX := E σ) (g := g) hr.hd (by have := hr.dp; omega) hxk hck hdb (Nat.ne_of_gt haS) (by rw [cL, sz3]; exact Nat.ne_of_gt (Nat.lt_succ_of_lt haS)) (by rw [cL, sz3]; exact Nat.ne_of_lt (Nat.lt_succ_self S)) (by rw [← hS]; exact Nat.ne_of_gt hcl) (by rw [cL, sz3, ← hS]; exact Nat.ne_of_gt (Nat.lt_succ_of_lt hcl))
      (fun s' H' ys hat hle os hbr un hok hSn hCn hQ => ?_) (fun e s' G hat hc hG => ⟨?_, ?_⟩) sizeLine _ (hg.keeps kp) (hl.keeps kp) ⟨_, hgs, rfl, ?_⟩
    · obtain ⟨acc, c', m, r, eS, nC⟩ := drinker_at hat
      have ne : ce.locals ≠ S := by rw [cL, sz3]; exact Nat.ne_of_gt (Nat.lt_succ_self S)
      exact hRR S ce s' m (upd H' S (.lst ys)) (I1.drained hsc hle eS r ExOk.nil os hbr un hok hSn) (hQ S hSn) nC (I1.fpOk hscC (by rw [upd_ne ne]; exact hCn))
    · have kin : X.K.In s'.heap := by
        obtain ⟨a, B, H', cls, d, _, fl, _, ub, _⟩ := id hc
        refine I1.ok.mod.kin.keeps fun b o eb => fl.1 b o (ub.keep b o (I1.bs b o eb).1 (I1.bs b o eb).2 fun hm => ?_)
        rcases List.mem_cons.mp (I1.stkSub b hm) with z | z
        · have h1 := Heap.lt_size eb
          have h2 := Nat.le_trans I1.ok.bsz I1.ok.above
          rw [z] at h1
          exact absurd (Nat.lt_of_lt_of_le h1 h2) (Nat.lt_irrefl _)
        · exact I1.ok.nofr eb z
      exact notStop_of hns kin (CX.imp hc fun _ _ _ z => z.1)
    · exact left_by_gen hst hfe tk hE I1 hscC cF hat hc hG
    · refine wake X.A.in1 (drinker S ce.locals) _ ⟨hr.hd, ?_, ?_⟩ I1.ok.frames (fun b hb => ?_) kp (drinker_of (acc := #[]) .nil (k4 _ _ hSs) (by rw [cL]; exact hC4)) hos (allBare_setGen (s := { s1 with heap := h4 }) hb rfl)
      · have := hr.dp
        show X.A.depth + 3 * k + 5 < _
        omega
      · have := hr.un
        show X.A.units + 1 + 16 * k + 200 < _
        omega
      · have hb : b ∈ [S, ce.locals] := hb
        simp only [List.mem_cons, List.not_mem_nil, or_false] at hb
        rcases hb with e | e
        · rw [e, ← hS]; exact Nat.le_refl _
        · rw [e, cL, sz3, ← hS]; exact Nat.le_succ _
  exact codeAny_compStart_list loop (wpAny_pyIter_gen (s := { s1 with heap := h4 }) (hg.keeps kp) loop)
/-- as a value -/
theorem pe_lcG {x : Str} {px px' : Pos} {iter : Expr} {scope : Scope} {own : List (Str × Nat)} {pos : Pos} {tg : TGen} {E : L2.St → XK} {k : Nat} (hst : X.stack = X.env :: X.outer) (hfe : X.env.frame = some X.env.locals) (tk : Takes X W) (hi : PGenC X k iter tg E) (hr : Room (k + 2) X.A) (ok : BlkOk X.N X.env.scope scope own)
    (hE : ∀ σ cls d H', E σ cls d H' → W cls d σ H') (hns : ∀ σ, NoStop X.K (E σ)) (hx : scope.names.lookup x = some .local := by rfl) (hdb : (x == ("__debug__" : Str)) = false := by decide) (hs : ∀ x, foldedSetIterable iter X.env x = pure x := by intro _; rfl) :
    PE X (.ListComp (.Name x px') [⟨.Name x px, iter, [], 0⟩] scope pos) (tLcG tg) := by
  refine ⟨fun pins s σ H Q I h => ?_⟩
  rw [eval_ListComp]
  refine lcg_core hst hfe tk I hi hr ok hx hdb (hE σ) (hns σ) hs h fun D ce s' m H' I' q hn f => ⟨m, hn, fun h'' sb => ?_⟩
  obtain ⟨f0, f1, f2, f3, f4, f5⟩ := f
  exact ⟨.ref D, H', I'.turned (t' := s'.toks) (fun b o hb e => (sb.2 b hb).trans e) f0 f1 f3 f4 f5, rfl, q⟩
/-- name = [..] on one line, the name a local -/
theorem ps_setLcG {i : Nat} {y : Str} {py : Pos} {x : Str} {px px' : Pos} {iter : Expr} {scope : Scope} {own : List (Str × Nat)} {pos spos : Pos} {tg : TGen} {E : L2.St → XK} {k : Nat} (hst : X.stack = X.env :: X.outer) (hfe : X.env.frame = some X.env.locals) (tk : Takes X W) (hN : X.N.Nodup) (hy : X.N[i]? = some y) (hyl : X.env.scope.names.lookup y = some .local)
    (hsw : swapsWith (.ListComp (.Name x px') [⟨.Name x px, iter, [], 0⟩] scope pos) (some (.Name y py)) spos.line X.env = pure true) (hi : PGenC X k iter tg E) (hr : Room (k + 2) X.A) (ok : BlkOk X.N X.env.scope scope own)
    (hE : ∀ σ cls d H', E σ cls d H' → W cls d σ H') (hns : ∀ σ, NoStop X.K (E σ)) (hx : scope.names.lookup x = some .local := by rfl) (hdb : (x == ("__debug__" : Str)) = false := by decide) (hs : ∀ x, foldedSetIterable iter X.env x = pure x := by intro _; rfl) :
    PS X (.Assign [.Name y py] (.ListComp (.Name x px') [⟨.Name x px, iter, [], 0⟩] scope pos) spos) (tAsg (tLcG tg) (gName i)) := by
  refine ⟨fun pins s σ H D I h => ?_⟩
  rw [exec_Assign_Name_used _ _ _ _ hsw]
  refine wpAny_bind (wpAny_standAt (wpAny_bind ?_))
  show wpAny _ X.A (do let _ ← comprehension (.ListComp (.Name x px') [⟨.Name x px, iter, [], 0⟩] scope pos) scope X.env (firstIterPos [⟨.Name x px, iter, [], 0⟩] pos) (newList []) false (eval iter X.env) (some (assign (.Name y py) X.env))) _ _ s
  have h : tLcG tg σ H (fun x H1 => gName i x σ H1 D.nx) := h
  refine wpAny_bind (thn (lcg_core (Qf := fun _ s' => SP X pins D .next s') hst hfe tk I hi hr ok hx hdb (hE σ) (hns σ) hs h fun L ce s' m H' I' q hn f => ?_) fun _ s' hq => wpAny_pure (wpAny_pure hq))
  show wpAny _ _ (assign (.Name y py) X.env (.ref L)) _ _ _
  refine wpAny_assign_Name (store_ok2 (v := V.ref L) I' hN hy (.inl hyl) rfl (fun s2 I2 ⟨a, sb, ha⟩ => ?_) (.inr hyl))
  obtain ⟨f0, f1, f2, f3, f4, f5⟩ := f
  have haC : ce.locals ≠ a := by
    rcases ha with z | z
    · rw [z]; exact f1
    · exact fun e => f4 y a z e.symm
  refine ⟨m, hn.sameBut sb haC, fun h3 sb3 => ?_⟩
  exact ⟨_, H', I2.turned (t' := s2.toks) (fun b o hb e => (sb3.2 b hb).trans e) f0 f1 f3 f4 f5, q⟩
end
end Mi
end part_Mi95
section part_Mi88
set_option maxRecDepth 100000
set_option maxHeartbeats 1000000
/-! Mi, part 88: the head's run with told addresses, in five looks (each its own run: less lies in memory at once). -/
namespace Mi
open PySem PySem.W PySem.Calls PyProof.Rows
end Mi
namespace Mi
open PySem PySem.W PySem.Calls PyProof.Rows
end Mi
end part_Mi88
section part_Mi89
set_option maxRecDepth 100000
set_option maxHeartbeats 1000000
/-! Mi, part 89: a told fragment: short words for its objects. -/
namespace Mi
open PySem PySem.W PySem.Calls PyProof.Rows L2
end Mi
end part_Mi89
section part_Mi90
set_option maxRecDepth 100000
set_option maxHeartbeats 1000000
/-! Mi, part 90: the hook over a told list of addresses, for a top whose law makes lambdas (a code table); its run by a told fragment. -/
namespace Mi
open PySem PySem.Spec PyProof.Rows L2
end Mi
namespace Mi
open PySem PySem.W PySem.Calls PyProof.Rows
end Mi
end part_Mi90
section part_Mi96
set_option maxRecDepth 100000
set_option maxHeartbeats 4000000
/-! Mi, part 96: mirrors of generator defs. -/
namespace Mi
open PySem PySem.Spec PyProof.Rows L2 GenW
/-- behind a statement of a generator: what is out so far, the names, the heap -/
inductive GnR where
  | nx (out : List T) (s : SM) (h : MH) | bk (out : List T) (s : SM) (h : MH) | ct (out : List T) (s : SM) (h : MH) | ex (x : Exc) (s : SM) (h : MH) | stuck
abbrev MGB := List T → SM → MH → GnR
section
variable {K : PySem.W.Frag} {mg : Str → Option Value} {W : WX} {g g' : G} {σ : L2.St} {B : GEnds}
def wpGn (K : PySem.W.Frag) (mg : Str → Option Value) (W : WX) (g : G) (B : GEnds) : GnR → Prop
  | .nx out s h => ∀ g' σ' ys, g'.h = h → Ext g g' → Rel K mg g' → RepS K mg g' s σ' → RepL K mg g' out ys → B.nx ys σ' g'.H
  | .bk out s h => ∀ g' σ' ys, g'.h = h → Ext g g' → Rel K mg g' → RepS K mg g' s σ' → RepL K mg g' out ys → B.bk ys σ' g'.H
  | .ct out s h => ∀ g' σ' ys, g'.h = h → Ext g g' → Rel K mg g' → RepS K mg g' s σ' → RepL K mg g' out ys → B.ct ys σ' g'.H
  | .ex x s h => ∀ g' σ' cls d, g'.h = h → Ext g g' → Rel K mg g' → RepS K mg g' s σ' → RepX K mg g' x cls d → W cls d σ' g'.H
  | .stuck => False
theorem wpGn.ext {r : GnR} (h : wpGn K mg W g B r) (e : Ext g g') : wpGn K mg W g' B r := by
  cases r with
  | nx out s h' => exact fun g2 σ' ys q e2 => h g2 σ' ys q (e.trans e2)
  | bk out s h' => exact fun g2 σ' ys q e2 => h g2 σ' ys q (e.trans e2)
  | ct out s h' => exact fun g2 σ' ys q e2 => h g2 σ' ys q (e.trans e2)
  | ex x s h' => exact fun g2 σ' cls d q e2 => h g2 σ' cls d q (e.trans e2)
  | stuck => exact h
def tGM (K : PySem.W.Frag) (mg : Str → Option Value) (W : WX) (m : MGB) : TGn := fun B ys σ H => ∃ g s out, g.H = H ∧ Rel K mg g ∧ RepS K mg g s σ ∧ RepL K mg g out ys ∧ wpGn K mg W g B (m out s g.h)
end
def mGPl (m : MS) : MGB := fun out s h => match m s h with
  | .nx s1 h1 => .nx out s1 h1
  | .bk s1 h1 => .bk out s1 h1
  | .ct s1 h1 => .ct out s1 h1
  | .ex x s1 h1 => .ex x s1 h1
  | .rt _ _ => .stuck
  | .stuck => .stuck
def mGNx : MGB := fun out s h => .nx out s h
def mGSq (m m' : MGB) : MGB := fun out s h => match m out s h with
  | .nx out1 s1 h1 => m' out1 s1 h1
  | r => r
def mGY (me : ME) : MGB := fun out s h => if out.length < big then match me s h with
  | .ok t h1 => .nx (out ++ [t]) s h1
  | .ex x h1 => .ex x s h1
  | .stuck => .stuck
  else .stuck
def gforFrom (mgt : MG) (mb : MGB) : List T → MGB
  | [], out, s, h => .nx out s h
  | x :: xs, out, s, h => match mgt x s h with
    | .ok s1 h1 => match mb out s1 h1 with
      | .nx out2 s2 h2 => gforFrom mgt mb xs out2 s2 h2
      | .ct out2 s2 h2 => gforFrom mgt mb xs out2 s2 h2
      | .bk out2 s2 h2 => .nx out2 s2 h2
      | r => r
    | .stuck => .stuck
def mGFor (mi : MI) (mgt : MG) (mb : MGB) : MGB := fun out s h => match mi s h with
  | .ok xs h1 => gforFrom mgt mb xs out s h1
  | .ex x h1 => .ex x s h1
  | .stuck => .stuck
section
variable {X : Cx} {xf : List (Addr × Obj) → Value → Shared → Prop} {W : WX} {st : Stmt} {rest : List Stmt}
abbrev GM (X : Cx) (xf : List (Addr × Obj) → Value → Shared → Prop) (W : WX) (st : Stmt) (m : MGB) : Prop := GSc X xf st (tGM X.K X.mg W m)
abbrev GMs (X : Cx) (xf : List (Addr × Obj) → Value → Shared → Prop) (W : WX) (st : List Stmt) (m : MGB) : Prop := GSsc X xf st (tGM X.K X.mg W m)
theorem weakGn {t t' : TGn} (h : GSc X xf st t) (k : ∀ B ys σ H, t' B ys σ H → t B ys σ H) : GSc X xf st t' :=
  ⟨fun A D ip R n ys s₀ c fs K J gd lv s σ H B g hn kk hI ht => h.run A D ip R n ys s₀ c fs K J gd lv s σ H B g hn kk hI (k _ _ _ _ ht)⟩
theorem weakGns {t t' : TGn} (h : GSsc X xf rest t) (k : ∀ B ys σ H, t' B ys σ H → t B ys σ H) : GSsc X xf rest t' :=
  ⟨fun A D ip R n ys s₀ c fs K J gd lv s σ H B g hn kk hI ht => h.run A D ip R n ys s₀ c fs K J gd lv s σ H B g hn kk hI (k _ _ _ _ ht)⟩
theorem gm_pl {m : MS} (h : ∀ ps, SS (Xp X xf ps) W st m) : GM X xf W st (mGPl m) := by
  refine weakGn (gsc_ps (t := tSM X.K X.mg W m) h) ?_
  rintro B ys σ H ⟨g, s, out, rfl, R, S, r, h⟩
  refine ⟨g, s, rfl, R, S, ?_⟩
  unfold mGPl at h
  cases q : m s g.h with
  | nx s1 h1 =>
    rw [q] at h
    exact fun g1 σ1 q1 e1 R1 S1 => h g1 σ1 ys q1 e1 R1 S1 (r.mono e1)
  | bk s1 h1 =>
    rw [q] at h
    exact fun g1 σ1 q1 e1 R1 S1 => h g1 σ1 ys q1 e1 R1 S1 (r.mono e1)
  | ct s1 h1 =>
    rw [q] at h
    exact fun g1 σ1 q1 e1 R1 S1 => h g1 σ1 ys q1 e1 R1 S1 (r.mono e1)
  | ex x s1 h1 =>
    rw [q] at h
    exact h
  | rt t h1 => rw [q] at h; exact h.elim
  | stuck => rw [q] at h; exact h.elim
theorem gms_nil : GMs X xf W [] mGNx := by
  refine weakGns gssc_nil ?_
  rintro B ys σ H ⟨g, s, out, rfl, R, S, r, h⟩
  exact h g σ ys rfl (Ext.refl g) R S r
theorem gms_cons {m m' : MGB} (h1 : GM X xf W st m) (h2 : GMs X xf W rest m') : GMs X xf W (st :: rest) (mGSq m m') := by
  refine weakGns (gssc_cons h1 h2) ?_
  rintro B ys σ H ⟨g, s, out, rfl, R, S, r, h⟩
  refine ⟨g, s, out, rfl, R, S, r, ?_⟩
  unfold mGSq at h
  cases q : m out s g.h with
  | nx out1 s1 h1 =>
    rw [q] at h
    intro g1 σ1 ys1 q1 e1 R1 S1 r1
    exact ⟨g1, s1, out1, rfl, R1, S1, r1, by rw [q1]; exact wpGn.ext h e1⟩
  | bk out1 s1 h1 => rw [q] at h; exact h
  | ct out1 s1 h1 => rw [q] at h; exact h
  | ex x s1 h1 => rw [q] at h; exact h
  | stuck => rw [q] at h; exact h.elim
theorem gm_yield {e : Expr} {me : ME} {yp pos : Pos} (he : ∀ ps, SE (Xp X xf ps) W e me) (hco : X.env.scope.isCoroutine = false := by rfl) (hi : interactive X.env = false := by rfl) : GM X xf W (.Expr (.Yield (some e) yp) pos) (mGY me) := by
  refine weakGn (gsc_yield (te := tM X.K X.mg W me) he hco hi) ?_
  rintro B ys σ H ⟨g, s, out, rfl, R, S, r, h⟩
  unfold mGY at h
  have hlen := r.length
  split at h
  · rename_i hb
    refine ⟨by rw [← hlen]; exact Nat.lt_of_lt_of_le hb (big_le (Nat.le_refl _)), g, s, rfl, R, S, ?_⟩
    cases q2 : me s g.h with
    | ok t h1 =>
      rw [q2] at h
      exact fun g1 v q1 e1 R1 r1 => h g1 σ (ys ++ [v]) q1 e1 R1 (S.mono e1) ((r.mono e1).append (RepL.cons r1 RepL.nil))
    | ex x h1 =>
      rw [q2] at h
      exact fun g1 cls d q1 e1 R1 r1 => h g1 σ cls d q1 e1 R1 (S.mono e1) r1
    | stuck => rw [q2] at h; exact h.elim
  · exact h.elim
structure GFoAt (K : PySem.W.Frag) (mg : Str → Option Value) (W : WX) (g1 : G) (B : GEnds) (r : List T → MGB) (xs : List T) (i : Nat) (ys : List V) (σ : L2.St) (H : Hp) : Prop where
  ex : ∃ (gi : G) (s : SM) (out : List T), gi.H = H ∧ Rel K mg gi ∧ Ext g1 gi ∧ RepS K mg gi s σ ∧ RepL K mg gi out ys ∧ i ≤ xs.length ∧ wpGn K mg W gi B (r (xs.drop i) out s gi.h)
theorem gfor_run {K : PySem.W.Frag} {mg : Str → Option Value} {σ : L2.St} {B : GEnds} {mgt : MG} {mb : MGB} {tl : List Nat} {J : It} {xs out : List T} {ys : List V} {g1 : G} {s : SM} (R1 : Rel K mg g1) (S1 : RepS K mg g1 s σ) (r1 : RepL K mg g1 out ys) (it : ItOk K mg g1 xs J) (h : wpGn K mg W g1 B (gforFrom mgt mb xs out s g1.h)) :
    ∃ Wd : Nat → Nat → List V → L2.St → Hp → Prop, (∃ m, Wd 0 m ys σ g1.H) ∧ ∀ i m ys σ H, Wd i m ys σ H →
      (J.stop i H ∧ B.nx ys σ H) ∨ (J.go i H ∧ ∃ N : List V → L2.St → Hp → Prop, (∀ ys' σ' H', N ys' σ' H' → ∃ m', m' < m ∧ Wd (i + 1) m' ys' σ' H') ∧ ∀ x H', J.yld i H x H' → tMG K mg tl mgt x σ H' fun σ2 H2 => tGM K mg W mb { B with nx := N, ct := N, bk := B.nx } ys σ2 H2) := by
  refine ⟨fun i m ys σ H => m = xs.length - i ∧ GFoAt K mg W g1 B (gforFrom mgt mb) xs i ys σ H, ⟨xs.length, rfl, ⟨g1, s, out, rfl, R1, Ext.refl _, S1, r1, Nat.zero_le _, by rw [List.drop_zero]; exact h⟩⟩, fun i m ys σ H hW => ?_⟩
  obtain ⟨rfl, ⟨gi, s, out, rfl, Ri, ei, Si, ri, hi, hw⟩⟩ := hW
  by_cases hlt : i < xs.length
  · refine .inr ⟨it.go i gi ei.sub Ri hlt, fun ys' σ' H' => GFoAt K mg W g1 B (gforFrom mgt mb) xs (i + 1) ys' σ' H', fun ys' σ' H' hn => ⟨xs.length - (i + 1), by omega, rfl, hn⟩, fun x H' hy => ?_⟩
    obtain ⟨g', rfl, eh, e1, R', t, ht, rt⟩ := it.yld i gi x H' ei.sub Ri hlt hy
    have edrop : xs.drop i = t :: xs.drop (i + 1) := by
      rw [List.drop_eq_getElem_cons hlt]
      have : xs[i] = t := by
        have := List.getElem?_eq_getElem hlt
        rw [ht] at this; exact (Option.some.inj this).symm
      rw [this]
    rw [edrop] at hw
    unfold gforFrom at hw
    refine ⟨g', s, t, rfl, R', Si.mono e1, rt, ?_⟩
    rw [eh]
    cases q : mgt t s gi.h with
    | stuck => rw [q] at hw; exact hw.elim
    | ok s2 h2 =>
      rw [q] at hw
      dsimp only at hw
      intro g2 σ2 q2 e2 R2 S2 _
      refine ⟨g2, s2, out, rfl, R2, S2, (ri.mono e1).mono e2, ?_⟩
      rw [q2]
      cases q3 : mb out s2 h2 with
      | nx out3 s3 h3 =>
        rw [q3] at hw
        exact fun g3 σ3 ys3 q4 e3 R3 S3 r3 => ⟨g3, s3, out3, rfl, R3, ((ei.trans e1).trans e2).trans e3, S3, r3, hlt, by rw [q4]; exact wpGn.ext hw ((e1.trans e2).trans e3)⟩
      | ct out3 s3 h3 =>
        rw [q3] at hw
        exact fun g3 σ3 ys3 q4 e3 R3 S3 r3 => ⟨g3, s3, out3, rfl, R3, ((ei.trans e1).trans e2).trans e3, S3, r3, hlt, by rw [q4]; exact wpGn.ext hw ((e1.trans e2).trans e3)⟩
      | bk out3 s3 h3 =>
        rw [q3] at hw
        exact fun g3 σ3 ys3 q4 e3 R3 S3 r3 => hw g3 σ3 ys3 q4 ((e1.trans e2).trans e3) R3 S3 r3
      | ex x3 s3 h3 =>
        rw [q3] at hw
        exact fun g3 σ3 cls d q4 e3 R3 S3 r3 => hw g3 σ3 cls d q4 ((e1.trans e2).trans e3) R3 S3 r3
      | stuck => rw [q3] at hw; exact hw.elim
  · have e : i = xs.length := by omega
    subst e
    refine .inl ⟨it.stop _ gi ei.sub Ri (Nat.le_refl _), ?_⟩
    rw [List.drop_length] at hw
    exact hw gi σ ys rfl (Ext.refl _) Ri Si ri
theorem gm_for {tg iter : Expr} {body : List Stmt} {mi : MI} {mgt : MG} {tl : List Nat} {mb : MGB} {pos : Pos} (hp : ∀ ps, PassesOwn (model X.prog X.w) X.A X.env (xf ps)) (hc : X.calm = true) (hi : ∀ ps, SI (Xp X xf ps) W tg iter mi) (hg : ∀ ps, SG (Xp X xf ps) tg tl mgt) (hb : GMs X xf W body mb)
    (hs : ∀ x, foldedSetIterable iter X.env x = pure x := by intro _; rfl) : GM X xf W (.For tg iter body [] pos) (mGFor mi mgt mb) := by
  refine weakGn (gsc_for (wi := tMI X.K X.mg W mi) (g := tMG X.K X.mg tl mgt) hp hc (fun ps => hi ps) (fun ps => hg ps) hb hs) ?_
  rintro B ys σ H ⟨g, s, out, rfl, R, S, r, h⟩
  refine ⟨g, s, rfl, R, S, ?_⟩
  unfold mGFor at h
  cases q : mi s g.h with
  | ok xs h1 =>
    rw [q] at h
    exact fun g1 J q1 e1 R1 it => gfor_run R1 (S.mono e1) (r.mono e1) it (by rw [q1]; exact wpGn.ext h e1)
  | ex x h1 =>
    rw [q] at h
    exact fun g1 cls d q1 e1 R1 r1 => h g1 σ cls d q1 e1 R1 (S.mono e1) r1
  | stuck => rw [q] at h; exact h.elim
end
/-! ### the def -/
def wpGe (K : PySem.W.Frag) (mg : Str → Option Value) (g : G) (Q : List V → Hp → Prop) (E : XK) : R → Prop
  | .ok (.lst out) h' => ∀ g' vs, g'.h = h' → Ext g g' → Rel K mg g' → RepL K mg g' out vs → Q vs g'.H
  | .ex x h' => ∀ g' cls d, g'.h = h' → Ext g g' → Rel K mg g' → RepX K mg g' x cls d → E cls d g'.H
  | _ => False
def spGM (K : PySem.W.Frag) (mg : Str → Option Value) (n : Nat) (m : MF) : SpG := fun vs H Q E => ∃ g ts, g.H = H ∧ Rel K mg g ∧ RepL K mg g ts vs ∧ ts.length = n ∧ wpGe K mg g Q E (m ts g.h)
theorem spGM_len {K : PySem.W.Frag} {mg : Str → Option Value} {n : Nat} {m : MF} {vs : List V} {H : Hp} {Q : List V → Hp → Prop} {E : XK} (h : spGM K mg n m vs H Q E) : vs.length = n := by
  obtain ⟨g, ts, _, _, r, l, _⟩ := h
  rw [← r.length]; exact l
def mGDef (N : Nat) (mb : MGB) : MF := fun ts h => match mb [] (ts.map some ++ List.replicate (N - ts.length) none) h with
  | .nx out _ h1 => .ok (.lst out) h1
  | .ex x _ h1 => .ex x h1
  | _ => .stuck
theorem gdef_ok {P : Program} {w : World} {K : PySem.W.Frag} {mg : Str → Option Value} {base : Heap} {x qual : Str} {params : Arguments} {body : List Stmt} {scope : Scope} {dvs : List V} {kws : List (Str × V)} {f : Addr} {fd : FuncData} {N ps : List Str} {k n : Nat} {mb : MGB}
    (F : FunD K x qual params body scope dvs kws f fd) (S : GScope N ps scope) (hn : ps.length = n)
    (hbody : ∀ (cdv : Value) (A : Around) (outer : List Env) (s : Shared) (H : Hp) (E : XK) (pn : List (Addr × Obj)), Room k (A.deeper (envOfC qual scope s.heap.objs.size f cdv)) →
      (∀ ps, Takes (gcxC P w K mg base N qual scope f cdv A outer s H E (pn ++ ps)) (fun cls d _ H => E cls d H)) →
      (∀ ps, PassesOwn (model P w) (A.deeper (envOfC qual scope s.heap.objs.size f cdv)) (envOfC qual scope s.heap.objs.size f cdv) (gxf P w K mg base N qual scope f cdv A outer s H E pn ps)) →
      GMs (gcxC P w K mg base N qual scope f cdv A outer s H E pn) (gxf P w K mg base N qual scope f cdv A outer s H E pn) (fun cls d _ H => E cls d H) body mb) :
    GFnC P w K mg base (k + 1) f fd ps (spGM K mg n (mGDef N.length mb)) := by
  obtain ⟨oc, od, dV, kV, doc, pm, an, cdv, ct, osl, rfl, lk, hcd, _, _⟩ := F.ex
  refine gfnc_of lk hcd S (fun vs H Q E h => (spGM_len h).trans hn.symm) fun A outer s H vs Q E pn hr h => ⟨_, hbody cdv A outer s H E pn hr (fun ps => takes_gcxC) (fun ps => owns_gcxC), ?_⟩
  obtain ⟨g, ts, rfl, R, r, l, h⟩ := h
  refine ⟨g, _, [], rfl, R, repS_start r, RepL.nil, ?_⟩
  unfold mGDef at h
  cases q : mb [] (ts.map some ++ List.replicate (N.length - ts.length) none) g.h with
  | nx out s' h' =>
    rw [q] at h
    exact fun g' σ' ys q1 e R' S' r' => h g' ys q1 e R' r'
  | bk out s' h' => rw [q] at h; exact h.elim
  | ct out s' h' => rw [q] at h; exact h.elim
  | ex y s' h' => rw [q] at h; exact fun g' σ' cls d q1 e R' S' r' => h g' cls d q1 e R' r'
  | stuck => rw [q] at h; exact h.elim
end Mi
end part_Mi96
section part_Mi97
set_option maxRecDepth 100000
set_option maxHeartbeats 4000000
/-! Mi, part 97: calls of generator defs; [x for x in g(..)] as a mirror. -/
namespace Mi
open PySem PySem.Spec PyProof.Rows L2 GenW
section
variable {X : Cx} {K : PySem.W.Frag} {mg : Str → Option Value} {W : WX} {g g' : G} {σ : L2.St} {Q : VK}
/-- an expression that makes a generator: .ok (.lst out) h: what it will hand out, the heap at its end -/
def wpGr (K : PySem.W.Frag) (mg : Str → Option Value) (W : WX) (g : G) (σ : L2.St) (Q : List V → Hp → Prop) : R → Prop
  | .ok (.lst out) h' => ∀ g' vs, g'.h = h' → Ext g g' → Rel K mg g' → RepL K mg g' out vs → Q vs g'.H
  | .ex x h' => ∀ g' cls d, g'.h = h' → Ext g g' → Rel K mg g' → RepX K mg g' x cls d → W cls d σ g'.H
  | _ => False
theorem wpGr.ext {Q : List V → Hp → Prop} {r : R} (h : wpGr K mg W g σ Q r) (e : Ext g g') : wpGr K mg W g' σ Q r := by
  cases r with
  | ok t h' => cases t with
    | lst out => exact fun g2 v q e2 => h g2 v q (e.trans e2)
    | _ => exact h
  | ex x h' => exact fun g2 c d q e2 => h g2 c d q (e.trans e2)
  | stuck => exact h
def tGenM (K : PySem.W.Frag) (mg : Str → Option Value) (W : WX) (me : ME) : TGen := fun σ H cont => ∃ g s, g.H = H ∧ Rel K mg g ∧ RepS K mg g s σ ∧ wpGr K mg W g σ cont (me s g.h)
theorem wpL_ofG {cont : List V → Hp → Prop} {Q' : List V → Hp → Prop} {r : RL} {f : List T → MH → R} (h : wpGr K mg W g σ cont (r.bind f)) (k : ∀ g' ts vs, Ext g g' → Rel K mg g' → RepL K mg g' ts vs → wpGr K mg W g' σ cont (f ts g'.h) → Q' vs g'.H) : wpL K mg W g σ Q' r := by
  cases r with
  | ok t h' => exact fun g' v q e R r => k g' t v e R r (by subst q; exact wpGr.ext h e)
  | ex x h' => exact h
  | stuck => exact h
/-- these classes are no StopIteration -/
def NoSt (K : PySem.W.Frag) (mg : Str → Option Value) (L : List Str) : Prop := ∀ c ∈ L, ∀ C, mg c = some (.ref C) → PySem.W.subIn K (.ref C) (.type "StopIteration") = some false
def EG (K : PySem.W.Frag) (W : WX) (σ : L2.St) : XK := fun cls d H => W cls d σ H ∧ PySem.W.subIn K cls (.type "StopIteration") = some false
theorem noStop_EG {σ : L2.St} : NoStop K (EG K W σ) := fun _ _ _ h => h.2
/-- a generator def's call in a mirror: its exceptions are of the classes L -/
def gFs (n : Nat) (L : List Str) (m : MF) : List T → MH → R := fun ts h => if ts.length = n then match m ts h with
  | .ex x h1 => if x.c ∈ L then .ex x h1 else .stuck
  | r => r
  else .stuck
theorem call_g {n : Nat} {L : List Str} {m : MF} {ts : List T} {vs : List V} {cont : List V → Hp → Prop} (no : NoSt K mg L) (R : Rel K mg g) (r : RepL K mg g ts vs) (h : wpGr K mg W g σ cont (gFs n L m ts g.h)) : spGM K mg n m vs g.H cont (EG K W σ) := by
  unfold gFs at h
  split at h
  · rename_i hn
    refine ⟨g, ts, rfl, R, r, hn, ?_⟩
    cases q : m ts g.h with
    | ok t h' =>
      rw [q] at h
      cases t with
      | lst out => exact h
      | _ => exact h.elim
    | ex x h' =>
      rw [q] at h
      dsimp only at h
      split at h
      · rename_i hL
        refine fun g' cls d q1 e R' r' => ⟨h g' cls d q1 e R' r', ?_⟩
        obtain ⟨C, da, fs, e1, e2, e3, _⟩ := r'
        first
          | (subst e1; exact no x.c hL C e3)
          | (rw [e1]; exact no x.c hL C (by assumption))
      · exact h.elim
    | stuck => rw [q] at h; exact h.elim
  · exact h.elim
end
/-! ### binding, calling -/
section
variable {X : Cx} {W : WX} {σ : L2.St} {k n : Nat} {f : Addr} {fd : FuncData} {ps ks : List Str} {sp : SpG} {E : L2.St → XK} {gg : List Value → List Value → List Value} {gV : List V → List V → List V} {t tk : TA} {x : Str} {p pos : Pos} {e : Expr} {es : List Expr} {kws : List Keyword}
theorem run_gNS {pins : List (Addr × Obj)} {H : Hp} {s : Shared} {us ws : List Value} {vs zs : List V} {cont : List V → Hp → Prop} {E0 : XK} {E1 : Value → Shared → Prop} (F : GFnC X.prog X.w X.K X.mg X.base k f fd ps sp) (hr : Room k X.A) (hb : KBn X.K fd ps n ks gg gV)
    (I : Inv X pins σ H s) (r : Vals vs us) (rz : Vals zs ws) (l1 : vs.length = n) (l2 : zs.length = ks.length) (h : sp (gV vs zs) H cont E0) : wpAny (model X.prog X.w) X.A (call (.ref f) us (ks.zip ws)) (fun u s' => ∃ H1 sc, Inv X pins σ H1 sc ∧ GMadeC X.prog X.w k X.stack H1 sc cont E0 u s') E1 s := by
  have r2 := hb.rel r rz
  refine wpAny_call (codeAny_mono (F.run X.A X.stack s H ⟨us, ks.zip ws⟩ (gg us ws) (gV vs zs) cont E0 hr I.env0 (hb.to s us ws I.kIn (r.length.symm.trans l1) (rz.length.symm.trans l2)) r2 h) fun r s' hq => ?_)
  cases r with
  | error e => exact False.elim hq
  | ok fl =>
    cases fl with
    | ret u => exact ⟨H, s, I, hq⟩
    | next => exact False.elim hq
    | brk => exact False.elim hq
    | cont => exact False.elim hq
def tGNS (n m : Nat) (sp : SpG) (gV : List V → List V → List V) (E : L2.St → XK) (t tk : TA) : TGen := fun σ H cont => t σ H fun vs H1 => tk σ H1 fun zs H2 => vs.length = n ∧ zs.length = m ∧ sp (gV vs zs) H2 cont (E σ)
theorem pgc_callNS (F : GFnC X.prog X.w X.K X.mg X.base k f fd ps sp) (hr : Room k X.A) (hg : Gl X x) (hm : X.mg x = some (.ref f)) (hk : PySem.W.keepIn X.K (.ref f) = true) (hb : KBn X.K fd ps n ks gg gV)
    (ha : PA X (e :: es) t) (hkw : PK X kws tk) (hall : (backToKw pos (keywordEach kws X.env)).all (·.1.isSome) = true) (hks : (backToKw pos (keywordEach kws X.env)).filterMap (·.1) = ks)
    (hdb : (x == ("__debug__" : Str)) = false) (he : starEach (e :: es) X.env = (false, eval e X.env) :: starEach es X.env)
    (hpl : ((backTo pos (starEach (e :: es) X.env)).any (·.1) || (backToKw pos (keywordEach kws X.env)).any (·.1.isNone)) = false) :
    PGenC X k (.Call (.Name x p) (e :: es) kws pos) (tGNS n ks.length sp gV E t tk) E := by
  refine ⟨fun pins s σ H cont I h => ?_⟩
  refine wpAny_Call_Name_kw (ld_glob I hg hm ?_ hdb)
  refine PySem.W.callWith_KW (h₀ := X.base) I.ok.mod.kin hk hall (thn (ha.run pos pins s σ H _ I h) fun us s1 ⟨vs, H1, I1, r, q⟩ => ?_) hpl he
  refine thn (hkw.run pos pins s1 σ H1 _ I1 q) fun ws s2 ⟨zs, H2, I2, rz, l1, l2, q2⟩ => ⟨I2.kIn, ?_⟩
  rw [hks]
  exact run_gNS F hr hb I2 r rz l1 l2 q2
theorem pgc_callNS0 (F : GFnC X.prog X.w X.K X.mg X.base k f fd ps sp) (hr : Room k X.A) (hg : Gl X x) (hm : X.mg x = some (.ref f)) (hk : PySem.W.keepIn X.K (.ref f) = true) (hb : KBn X.K fd ps 0 ks gg gV)
    (hkw : PK X kws tk) (hall : (backToKw pos (keywordEach kws X.env)).all (·.1.isSome) = true) (hks : (backToKw pos (keywordEach kws X.env)).filterMap (·.1) = ks)
    (hdb : (x == ("__debug__" : Str)) = false)
    (hpl : ((backTo pos (starEach [] X.env)).any (·.1) || (backToKw pos (keywordEach kws X.env)).any (·.1.isNone)) = false) :
    PGenC X k (.Call (.Name x p) [] kws pos) (tGNS 0 ks.length sp gV E tNil tk) E := by
  refine ⟨fun pins s σ H cont I h => ?_⟩
  refine wpAny_Call_Name_kw (ld_glob I hg hm ?_ hdb)
  refine PySem.W.callWith_KW0 (h₀ := X.base) I.ok.mod.kin hk hall ?_ hpl
  refine thn (hkw.run pos pins s σ H _ I h) fun ws s2 ⟨zs, H2, I2, rz, l1, l2, q2⟩ => ⟨I2.kIn, ?_⟩
  rw [hks]
  exact run_gNS (us := []) (vs := []) F hr hb I2 .nil rz l1 l2 q2
theorem weakPG {tg tg' : TGen} (h : PGenC X k e tg E) (kk : ∀ σ H cont, tg' σ H cont → tg σ H cont) : PGenC X k e tg' E := ⟨fun pins s σ H cont I q => h.run pins s σ H cont I (kk _ _ _ q)⟩
end
/-- a generator def of the module whose last parameters are keyword-only -/
def HasGO (P : Program) (w : World) (K : PySem.W.Frag) (mg : Str → Option Value) (base : Heap) (k : Nat) (x qual : Str) (st : Stmt) (ps : List Str) (kdts : List (Str × T)) (m : MF) : Prop :=
  ∃ f fd kvs, mg x = some (.ref f) ∧ FunD K x qual (defArgs st) (defBody st) (defScope st) [] kvs f fd ∧ kvs.map (·.1) = kdts.map (·.1) ∧ (∀ g, RepL K mg g (kdts.map (·.2)) (kvs.map (·.2))) ∧ kvs ≠ [] ∧ GFnC P w K mg base k f fd ps (spGM K mg ps.length m)
abbrev HasGOX (X : Cx) := HasGO X.prog X.w X.K X.mg X.base
section
variable {X : Cx} {K : PySem.W.Frag} {mg : Str → Option Value} {W : WX} {g : G} {σ : L2.St} {Q : VK}
variable {a b e : Expr} {ma mb me : ME} {mr mk : MA} {pos p apos : Pos} {es : List Expr} {c x : Str} {kws : List Keyword}
variable {k n j : Nat} {qual : Str} {st : Stmt} {ps ks : List Str} {is : List Nat} {kdts ms : List (Str × T)} {mf : MF} {L : List Str}
theorem kO_bindsG {f : Addr} {fd : FuncData} {kvs : List (Str × V)} (F : FunD K x qual (defArgs st) (defBody st) (defScope st) [] kvs f fd) (kn : kvs.map (·.1) = kdts.map (·.1)) (kr : ∀ g, RepL K mg g (kdts.map (·.2)) (kvs.map (·.2))) (ne : kvs ≠ [])
    (hms : ms = kdts ∨ ms = []) (hb : KwO st x qual ps n (ms.map (·.1)) ks is) :
    ∃ (mvs : List V) (mv : List Value), (∀ g, RepL K mg g (ms.map (·.2)) mvs) ∧ KBn K fd ps n ks (fun us ws => pick is (us ++ ws ++ mv)) (fun vs zs => pick is (vs ++ zs ++ mvs)) := by
  rcases hms with e | e
  · subst e
    obtain ⟨mv, kb⟩ := F.kbinds0 (ps := ps) n ks kvs (fun us mv ws => pick is (us ++ ws ++ mv)) ne (fun q hq => hq) (fun r1 r2 r3 => pick_vals ((r1.append r3).append r2) is) fun D doc pm an cdv ct us mv ws h1 h2 h3 => by
      rw [kn]
      refine hb D doc pm an cdv ct us mv ws h1 ?_ h3
      have := congrArg List.length kn
      rw [List.length_map] at this
      rw [h2, this]
    exact ⟨_, mv, kr, kb⟩
  · subst e
    obtain ⟨mv, kb⟩ := F.kbinds0 (ps := ps) n ks [] (fun us mv ws => pick is (us ++ ws ++ mv)) ne (fun q hq => by cases hq) (fun r1 r2 r3 => pick_vals ((r1.append r3).append r2) is) fun D doc pm an cdv ct us mv ws h1 h2 h3 => hb D doc pm an cdv ct us mv ws h1 h2 h3
    exact ⟨[], mv, fun g => RepL.nil, kb⟩
theorem wpL_kwG {nk : Nat} (no : NoSt X.K X.mg L) {ts dts : List T} {vs dvs : List V} {s : SM} {cont : List V → Hp → Prop} (R : Rel X.K X.mg g) (S : RepS X.K X.mg g s σ) (r : RepL X.K X.mg g ts vs) (rd : ∀ g, RepL X.K X.mg g dts dvs)
    (h : wpGr X.K X.mg W g σ cont ((mk s g.h).bind fun us h2 => if ts.length = n ∧ us.length = nk then gFs ps.length L mf (pick is (ts ++ us ++ dts)) h2 else .stuck)) :
    tMA X.K X.mg W mk σ g.H fun zs H2 => vs.length = n ∧ zs.length = nk ∧ spGM X.K X.mg ps.length mf (pick is (vs ++ zs ++ dvs)) H2 cont (EG X.K W σ) := by
  refine ⟨g, s, rfl, R, S, wpL_ofG h fun g2 us zs e2 R2 r2 h2 => ?_⟩
  split at h2
  · rename_i q
    exact ⟨r.length.symm.trans q.1, r2.length.symm.trans q.2, call_g no R2 (pick_repL (((r.mono e2).append r2).append (rd g2)) is) h2⟩
  · exact h2.elim
theorem pgc_hkO (h : HasGOX X k x qual st ps kdts mf) (hr : Room k X.A) (no : NoSt X.K X.mg L) (hms : ms = kdts ∨ ms = []) (hb : KwO st x qual ps n (ms.map (·.1)) ks is) (ha : SA X W (e :: es) mr) (hkw : SK X W kws mk) (hg : Gl X x := by rfl)
    (hall : (backToKw pos (keywordEach kws X.env)).all (·.1.isSome) = true := by rfl) (hks : (backToKw pos (keywordEach kws X.env)).filterMap (·.1) = ks := by rfl)
    (hdb : (x == ("__debug__" : Str)) = false := by decide) (he : starEach (e :: es) X.env = (false, eval e X.env) :: starEach es X.env := by rfl)
    (hpl : ((backTo pos (starEach (e :: es) X.env)).any (·.1) || (backToKw pos (keywordEach kws X.env)).any (·.1.isNone)) = false := by rfl) :
    PGenC X k (.Call (.Name x p) (e :: es) kws pos) (tGenM X.K X.mg W (mKwO n ks.length is (ms.map (·.2)) (gFs ps.length L mf) mr mk)) (EG X.K W) := by
  obtain ⟨f, fd, kvs, hm, F, kn, kr, ne, ok⟩ := h
  obtain ⟨mvs, mv, rm, kb⟩ := kO_bindsG F kn kr ne hms hb
  refine weakPG (pgc_callNS ok hr hg hm F.kp kb ha hkw hall hks hdb he hpl) ?_
  rintro σ H cont ⟨g, s, rfl, R, S, h⟩
  exact ⟨g, s, rfl, R, S, wpL_ofG h fun g1 ts vs e1 R1 r1 h1 => wpL_kwG no R1 (S.mono e1) r1 rm h1⟩
theorem pgc_hkO0 (h : HasGOX X k x qual st ps kdts mf) (hr : Room k X.A) (no : NoSt X.K X.mg L) (hms : ms = kdts ∨ ms = []) (hb : KwO st x qual ps 0 (ms.map (·.1)) ks is) (hkw : SK X W kws mk) (hg : Gl X x := by rfl)
    (hall : (backToKw pos (keywordEach kws X.env)).all (·.1.isSome) = true := by rfl) (hks : (backToKw pos (keywordEach kws X.env)).filterMap (·.1) = ks := by rfl)
    (hdb : (x == ("__debug__" : Str)) = false := by decide)
    (hpl : ((backTo pos (starEach [] X.env)).any (·.1) || (backToKw pos (keywordEach kws X.env)).any (·.1.isNone)) = false := by rfl) :
    PGenC X k (.Call (.Name x p) [] kws pos) (tGenM X.K X.mg W (mKwO 0 ks.length is (ms.map (·.2)) (gFs ps.length L mf) aNil mk)) (EG X.K W) := by
  obtain ⟨f, fd, kvs, hm, F, kn, kr, ne, ok⟩ := h
  obtain ⟨mvs, mv, rm, kb⟩ := kO_bindsG F kn kr ne hms hb
  refine weakPG (pgc_callNS0 ok hr hg hm F.kp kb hkw hall hks hdb hpl) ?_
  rintro σ H cont ⟨g, s, rfl, R, S, h⟩
  exact wpL_kwG (ts := []) no R S RepL.nil rm h
/-! ### methods -/
/-- a generator method -/
def HasGM (P : Program) (w : World) (K : PySem.W.Frag) (mg : Str → Option Value) (base : Heap) (k : Nat) (c x qual : Str) (st : Stmt) (ps : List Str) (m : MF) : Prop :=
  ∃ C f fd, mg c = some (.ref C) ∧ Cls K C ∧ Meth K C x f ∧ FunD K x qual (defArgs st) (defBody st) (defScope st) [] [] f fd ∧ GFnC P w K mg base k f fd ps (spGM K mg ps.length m)
/-! ### the comprehension -/
def mLcG (me : ME) : ME := fun s h => match me s h with
  | .ok (.lst out) h1 => .ok (.lst out) h1
  | .ok _ _ => .stuck
  | .ex x h1 => .ex x h1
  | .stuck => .stuck
theorem use_lcG {σ : L2.St} {H : Hp} (h : tM X.K X.mg W (mLcG me) σ H Q) : tLcG (tGenM X.K X.mg W me) σ H Q := by
  obtain ⟨g, s, rfl, R, S, h⟩ := h
  refine ⟨g, s, rfl, R, S, ?_⟩
  unfold mLcG at h
  cases q : me s g.h with
  | ok t h1 =>
    rw [q] at h
    cases t with
    | lst out => exact fun g1 vs q1 e1 R1 r1 p hp => wpR_lst (by rw [q1]; exact wpR.ext h e1) R1 r1 hp
    | _ => exact h.elim
  | ex x h1 => rw [q] at h; exact h
  | stuck => rw [q] at h; exact h.elim
theorem se_lcG {y : Str} {px px' : Pos} {iter : Expr} {scope : Scope} {own : List (Str × Nat)} (hst : X.stack = X.env :: X.outer) (hfe : X.env.frame = some X.env.locals) (tk : Takes X W) (hi : PGenC X k iter (tGenM X.K X.mg W me) (EG X.K W)) (hr : Room (k + 2) X.A) (ok : BlkOk X.N X.env.scope scope own)
    (hx : scope.names.lookup y = some .local := by rfl) (hdb : (y == ("__debug__" : Str)) = false := by decide) (hs : ∀ x, foldedSetIterable iter X.env x = pure x := by intro _; rfl) :
    SE X W (.ListComp (.Name y px') [⟨.Name y px, iter, [], 0⟩] scope pos) (mLcG me) :=
  weakE (pe_lcG hst hfe tk hi hr ok (fun _ _ _ _ h => h.1) (fun _ => noStop_EG) hx hdb hs) fun σ H Q h => use_lcG h
theorem ss_setLcG {i : Nat} {z : Str} {py spos : Pos} {y : Str} {px px' : Pos} {iter : Expr} {scope : Scope} {own : List (Str × Nat)} (hst : X.stack = X.env :: X.outer) (hfe : X.env.frame = some X.env.locals) (tk : Takes X W) (hN : X.N.Nodup) (hi : PGenC X k iter (tGenM X.K X.mg W me) (EG X.K W)) (hr : Room (k + 2) X.A) (ok : BlkOk X.N X.env.scope scope own)
    (hsw : swapsWith (.ListComp (.Name y px') [⟨.Name y px, iter, [], 0⟩] scope pos) (some (.Name z py)) spos.line X.env = pure true) (hy : X.N[i]? = some z := by rfl) (hyl : X.env.scope.names.lookup z = some .local := by rfl)
    (hx : scope.names.lookup y = some .local := by rfl) (hdb : (y == ("__debug__" : Str)) = false := by decide) (hs : ∀ x, foldedSetIterable iter X.env x = pure x := by intro _; rfl) :
    SS X W (.Assign [.Name z py] (.ListComp (.Name y px') [⟨.Name y px, iter, [], 0⟩] scope pos) spos) (mSet i (mLcG me)) :=
  weakS (ps_setLcG hst hfe tk hN hy hyl hsw hi hr ok (fun _ _ _ _ h => h.1) (fun _ => noStop_EG) hx hdb hs) fun D σ H h => use_set (me := mLcG me) h |> fun z => by
    obtain ⟨g, s, rfl, R, S, h⟩ := h
    exact use_lcG (W := W) ⟨g, s, rfl, R, S, wpS_bind S h fun g1 t v e1 R1 r1 h1 => h1 g1 _ rfl (Ext.refl _) R1 ((S.mono e1).set r1 i)⟩
end
end Mi
end part_Mi97
section part_Mi98
set_option maxRecDepth 100000
set_option maxHeartbeats 4000000
/-! Mi, part 98: generator methods; what the head says of generators. -/
namespace Mi
open PySem PySem.Spec PyProof.Rows L2 GenW
section
variable {X : Cx} {W : WX} {σ : L2.St} {k n : Nat} {f : Addr} {fd : FuncData} {ps ks : List Str} {sp : SpG}
end
section
variable {X : Cx} {K : PySem.W.Frag} {mg : Str → Option Value} {W : WX} {g : G} {σ : L2.St} {Q : VK}
variable {a b e : Expr} {ma mb me : ME} {mr mk : MA} {pos p apos : Pos} {es : List Expr} {c x : Str} {kws : List Keyword}
variable {k n j : Nat} {qual : Str} {st : Stmt} {ps ks : List Str} {is : List Nat} {mf : MF} {L : List Str}
end
end Mi
end part_Mi98
section part_Mi99
set_option maxRecDepth 100000
set_option maxHeartbeats 4000000
/-! Mi, part 99: list(zip([], g(..))): a generator that is made and never woken. -/
namespace Mi
open PySem PySem.Spec PyProof.Rows L2 GenW
/-! ### the call makes a generator -/
def GMade0 (s : Shared) (u : Value) (s' : Shared) : Prop :=
  ∃ (a : Addr) (g : Nat), u = .ref a ∧ s.heap.objs.size ≤ a ∧ a < s'.heap.objs.size ∧ s'.heap.IsGen a g ∧ s'.os = s.os ∧ AllBare s'.gens ∧ s'.heap.NoLimit ∧ (∀ b o, s.heap.get? b = some o → s'.heap.get? b = some o)
structure GFn0 (P : Program) (w : World) (K : PySem.W.Frag) (mg : Str → Option Value) (base : Heap) (k : Nat) (f : Addr) (fd : FuncData) (ps : List Str) : Prop where
  run : ∀ (A : Around) (outer : List Env) (s : Shared) (H : Hp) (args : Args) (us : List Value), us.length = ps.length → Room k A → Env0 P w K mg base A outer s H → BindsTo s fd args (ps.zip us) →
    codeAny (model P w) A (.call (.ref f) args) (fun r s' => match r with | .ok (.ret u) => GMade0 s u s' | _ => False) s
theorem gfn0_of {P : Program} {w : World} {K : PySem.W.Frag} {mg : Str → Option Value} {base : Heap} {k : Nat} {f : Addr} {x qual : Str} {params : Arguments} {body : List Stmt} {scope : Scope} {dvs : List V} {kws : List (Str × V)} {fd : FuncData} {N ps : List Str}
    (F : FunD K x qual params body scope dvs kws f fd) (S : GScope N ps scope) : GFn0 P w K mg base k f fd ps := by
  obtain ⟨oc, od, dV, kV, doc, pm, an, cdv, ct, osl, rfl, lk, hcd, _, _⟩ := F.ex
  refine ⟨fun A outer s H args us hl hr e0 hb => ?_⟩
  have KX : K.In s.heap := e0.mod.kin.keeps fun b o e => (e0.bs b o e).1
  have lim : s.heap.NoLimit := e0.mod.nolimit.keeps fun b o e => (e0.bs b o e).1
  have hkind : ∀ y ∈ ps.zip us, scope.names.lookup y.1 = some .local ∨ (scope.names.lookup y.1 = some .cell ∧ ((cellsFrom (s.heap.objs.size + 1) scope.names []).lookup y.1).isSome = true) := fun ⟨n, v⟩ hy => by
    rcases S.par n (List.of_mem_zip hy).1 with q | q
    · exact .inl q
    · exact .inr ⟨q, PySem.W.cellsFrom_some _ _ _ (.inl q)⟩
  refine codeAny_call_generator hr.depth (KX _ _ lk) rfl S.co S.gen rfl (PySem.W.codeRec_of KX hcd) (hb _ _ _ _ ?_)
  refine wpAny_newFunctionEnv_cells S.kind hkind fun env he s1 x => ?_
  subst he
  have lim1 : s1.heap.NoLimit := lim.keeps x.toInCall.keep
  refine ⟨lim1, ?_⟩
  obtain ⟨h1, tk, es1, hk1⟩ := x.done
  have os1 : s1.os = s.os := by rw [es1]
  have gen1 : s1.gens = s.gens := by rw [es1]
  have lt1 : s.heap.objs.size < s1.heap.objs.size := x.toInCall.ns.lt
  have sz1 : s.heap.objs.size ≤ s1.heap.objs.size := Nat.le_of_lt lt1
  have kp1 : ∀ b o, s.heap.get? b = some o → s1.heap.get? b = some o := x.toInCall.keep
  have main : ∀ (go : Obj) (nm qn : Value) (tk2 : Nat), go.cls = .type "generator" → go.data = .fields #[.int s1.gens.size 0, nm, qn] → go.slots = #[] → (∀ h : Heap, (h.push go).get? h.objs.size = some go) →
      GMade0 s (.ref s1.heap.objs.size) { s1 with gens := s1.gens.push (.fresh (.func body (envOfC qual scope s.heap.objs.size f cdv))), toks := tk2, heap := s1.heap.push go } := by
    intro go nm qn tk2 hgc hgd0 hgs hgp
    refine ⟨s1.heap.objs.size, s1.gens.size, rfl, sz1, ?_, ⟨go, nm, qn, hgp _, hgc, hgd0, hgs⟩, os1, AllBare.push (by rw [gen1]; exact e0.bare) rfl, lim1.keeps fun b o e => Heap.get?_push_of_some _ e, fun b o e => Heap.get?_push_of_some _ (kp1 b o e)⟩
    show _ < (s1.heap.push _).objs.size
    rw [Heap.size_push]; exact Nat.lt_succ_self _
  exact main _ _ _ _ rfl rfl rfl fun h => Heap.get?_push_size _ rfl
/-! ### zip([], g) -/
abbrev zgH1 (h : Heap) (l : Addr) : Heap := h.push { cls := .type "list_iterator", data := .fields #[.ref l, .int 0 0] }
abbrev zgH2 (h : Heap) (l a : Addr) : Heap := (zgH1 h l).push { cls := .type "tuple", data := .seq #[.ref h.objs.size, .ref a] }
abbrev zgH3 (h : Heap) (l a : Addr) : Heap := (zgH2 h l a).push { cls := .type "tuple", data := .seq #[.none, .none] }
abbrev zgH4 (h : Heap) (l a : Addr) : Heap := (zgH3 h l a).push { cls := .type "zip", data := .fields #[.none, .bool false, .bool false, .ref (zgH1 h l).objs.size, .ref (zgH2 h l a).objs.size] }
theorem meets_zipG_new (l a : Addr) (g : Nat) (xs : Array Value) :
    Meets (Builtin.«zip.__new__» ⟨[.type "zip", .ref l, .ref a], []⟩) (fun _ R s => s.heap.IsList l xs ∧ s.heap.IsGen a g ∧
      R (.ok (.ret (.ref (zgH3 s.heap l a).objs.size))) { s with heap := zgH4 s.heap l a }) :=
  .of_wp fun prog w A R s h => by
    obtain ⟨hp, gg, d, tk, os⟩ := s; obtain ⟨hl, hg, h⟩ := h
    have hsub := sub_zip
    have hL : Heap.IsList (Shared.heap ⟨hp, gg, d, tk, os⟩) l xs := hl
    have hG : Heap.IsGen (Shared.heap ⟨hp.push { cls := .type "list_iterator", data := .fields #[.ref l, .int 0 0] }, gg, d, tk, os⟩) a g := Heap.IsGen.keeps hg fun b o e => Heap.get?_push_of_some _ e
    wp_walk using wpAny_pyIter_list hL, wpAny_pyIter_gen hG
    exact ⟨_, rfl, h⟩
section
variable {prog : Program} {w : World} {A : Around} {E : Value → Shared → Prop} {s : Shared}
theorem call_zipG {l a : Addr} {g : Nat} {xs : Array Value} {Q : Value → Shared → Prop} (hl : s.heap.IsList l xs) (hg : s.heap.IsGen a g)
    (h : ∀ h', IsZip h' (s.heap.objs.size + 3) (s.heap.objs.size + 1) (s.heap.objs.size + 2) .none → IsPair h' (s.heap.objs.size + 1) (.ref s.heap.objs.size) (.ref a) →
      h'.IsListIter s.heap.objs.size l 0 → h'.objs.size = s.heap.objs.size + 4 →
      (∀ c o, s.heap.get? c = some o → h'.get? c = some o) → Q (.ref (s.heap.objs.size + 3)) { s with heap := h' }) :
    wpAny (model prog w) A (call (.type "zip") [.ref l, .ref a]) Q E s := by
  refine callType_new F.called_zip (by decide) (F.typeCall_zip_2 _ _) (F.newCall_zip_2 _ _) (fun obj => F.args_object_init_3 obj _ _) F.entry_zip_new
    (meets_zipG_new l a g xs) ⟨hl, hg, ?_⟩
  have z1 : (zgH1 s.heap l).objs.size = s.heap.objs.size + 1 := Heap.size_push ..
  have z2 : (zgH2 s.heap l a).objs.size = s.heap.objs.size + 2 := by rw [Heap.size_push, z1]
  have z3 : (zgH3 s.heap l a).objs.size = s.heap.objs.size + 3 := by rw [Heap.size_push, z2]
  have z4 : (zgH4 s.heap l a).objs.size = s.heap.objs.size + 4 := by rw [Heap.size_push, z3]
  have g4 : (zgH4 s.heap l a).get? (zgH3 s.heap l a).objs.size = some _ := Heap.get?_push_size _ rfl
  have g2 : (zgH4 s.heap l a).get? (zgH1 s.heap l).objs.size = some _ := Heap.get?_push_of_some _ (Heap.get?_push_of_some _ (Heap.get?_push_size _ rfl))
  have g1 : (zgH4 s.heap l a).get? s.heap.objs.size = some _ := Heap.get?_push_of_some _ (Heap.get?_push_of_some _ (Heap.get?_push_of_some _ (Heap.get?_push_size _ rfl)))
  show _ ∧ _
  rw [z1, z2, z3] at g4
  rw [z1] at g2
  rw [z3]
  exact ⟨⟨_, g4, rfl⟩, h _ g4 g2 ⟨_, g1, rfl, rfl⟩ z4 fun c o x => Heap.get?_push_of_some _ (Heap.get?_push_of_some _ (Heap.get?_push_of_some _ (Heap.get?_push_of_some _ x)))⟩
theorem pyNext_zipG_end {z TI TO i1 l a : Addr} {xs : Array Value} {Q : Option Value → Shared → Prop} (hh : A.handled = none) (d1 : i1 ≠ z) (d2 : l ≠ z)
    (hz : IsZip s.heap z TI TO .none) (hTI : IsPair s.heap TI (.ref i1) (.ref a)) (hTO : TO ≠ z)
    (h1 : s.heap.IsListIter i1 l 0) (hl : s.heap.IsList l xs) (hend : xs[0]? = none)
    (hQ : ∀ h', (∀ c o, c ≠ z → c ≠ i1 → s.heap.get? c = some o → h'.get? c = some o) → Q none { s with heap := h' }) : wpAny (model prog w) A (pyNext (.ref z)) Q E s := by
  have hT : s.TypeIs (.ref z) "zip" := ⟨_, hz, rfl⟩
  unfold pyNext
  refine wpAny_bind (wpAny_attempt (wpAny_callSpecial?_slot (name := Str.ofString "__next__") hT F.slot_zip_next
    (wpAny_call_entry F.slot_zip_next hT F.entry_zip_next ?_ (F.args_zip_next_1 _))))
  show wpAny _ _ (field (.ref z) 2 >>= _) _ _ _
  refine wpAny_bind (wpAny_field hz rfl (x := .bool false) rfl ?_)
  show wpAny _ _ (field (.ref z) 3 >>= _) _ _ _
  refine wpAny_bind (wpAny_field hz rfl (x := .ref TI) rfl ?_)
  refine wpAny_bind (wpAny_seqItems hTI rfl ?_)
  show wpAny _ _ (Builtin.SmallTypes.ownedTupleIsFree (.ref z) >>= _) _ _ _
  refine wpAny_bind ?_
  unfold Builtin.SmallTypes.ownedTupleIsFree
  refine wpAny_bind (wpAny_field hz rfl (x := .none) rfl (wpAny_pure ?_))
  simp only [if_true]
  refine wpAny_bind (wpAny_rule ?_)
  refine wpAny_bind (wpAny_field hz rfl (x := .ref TO) rfl ?_)
  refine wpAny_bind (wpAny_setField_rec hz (by simp) fun h₁ hz₁ hs₁ => ?_)
  replace hz₁ : IsZip h₁ z TI TO .ellipsis := hz₁
  refine wpAny_bind ?_
  simp only [List.zipIdx_cons, List.zipIdx_nil, List.forIn_cons, List.forIn_nil]
  refine wpAny_bind (wpAny_bind (wpAny_onRaise ?_))
  show wpAny _ _ (Builtin.SmallTypes.nextOf (.ref i1) >>= _) _ _ _
  refine wpAny_bind (wpAny_nextOf_list_end hh (h1.extBut hs₁.extBut d1) (hl.extBut hs₁.extBut d2) hend fun h₂ e hs₂ he => ?_)
  obtain ⟨oe, hoe, hce⟩ := he
  have hz₂ : IsZip h₂ z TI TO .ellipsis := hs₂ _ _ d1.symm hz₁
  have hez : e ≠ z := fun x => by subst x; rw [hz₂] at hoe; cases hoe; simp at hce
  refine wpAny_setField_rec hz₂ (by simp) fun h₃ _ hs₃ => ?_
  refine wpAny_bind (wpAny_isInstance (T := "StopIteration") (b := true) ⟨oe, hs₃.extBut _ _ hez hoe, hce⟩ isSubtype_stop ?_)
  exact wpAny_pure (hQ _ fun c o c1 c3 x => hs₃.extBut _ _ c1 (hs₂ _ _ c3 (hs₁.extBut _ _ c1 x)))
theorem zip_no_len : typeLookup (.type "zip") "__len__" = pure none := by rw [typeLookup_type, builtinLookup_eq_fast]; kernel_rfl
theorem zip_no_hint : typeLookup (.type "zip") "__length_hint__" = pure none := by rw [typeLookup_type, builtinLookup_eq_fast]; kernel_rfl
/-- list(zip([], g)) -/
theorem call_list_zipG {z TI TO i1 l a : Addr} {xs : Array Value} {Q : Value → Shared → Prop} (hh : A.handled = none) (d1 : i1 ≠ z) (d2 : l ≠ z) (hTO : TO ≠ z)
    (hz : IsZip s.heap z TI TO .none) (hTI : IsPair s.heap TI (.ref i1) (.ref a)) (h1 : s.heap.IsListIter i1 l 0) (hl : s.heap.IsList l xs) (hend : xs[0]? = none)
    (hQ : ∀ S h' c, s.heap.objs.size ≤ S → h'.get? S = some (lstObj #[] c) → (∀ c o, c ≠ z → c ≠ i1 → s.heap.get? c = some o → h'.get? c = some o) → Q (.ref S) { s with heap := h' }) :
    wpAny (model prog w) A (call (.type "list") [.ref z]) Q E s := by
  have hzs : z < s.heap.objs.size := Heap.lt_size hz
  have hSz : s.heap.objs.size ≠ z := Nat.ne_of_gt hzs
  refine callType_codes (Q₁ := fun obj s₁ => obj = .ref s.heap.objs.size ∧ s₁ = { s with heap := s.heap.push { cls := .type "list", data := .seq #[] } }) F.called_list (F.typeCall_list_1 _) F.entry_list_init
    (code_list_new _ ⟨rfl, rfl⟩) fun obj s₁ h₁ => ?_
  obtain ⟨rfl, rfl⟩ := h₁
  have hS : (s.heap.push { cls := .type "list", data := .seq #[] }).get? s.heap.objs.size = some { cls := .type "list", data := .seq #[] } := Heap.get?_push_size _ rfl
  refine ⟨⟨_, hS, rfl⟩, F.args_list_init_2 _ _, ?_⟩
  show wpAny _ A.in1.in1 (do let old ← Builtin.List.listItems (.ref s.heap.objs.size); Builtin.List.listUpdate (.ref s.heap.objs.size) (fun _ => #[]); letGo old.toList.reverse; Builtin.List.listExtendWith (.ref s.heap.objs.size) (.ref z) .none) _ _ _
  refine wpAny_bind ?_
  unfold Builtin.List.listItems
  refine wpAny_bind (wpAny_seqItems hS rfl (wpAny_pure ?_))
  show wpAny _ A.in1.in1 (updateSeq s.heap.objs.size (fun _ => #[]) >>= fun _ => letGo (#[] : Array Value).toList.reverse >>= fun _ => Builtin.List.listExtendWith (.ref s.heap.objs.size) (.ref z) .none) _ _ _
  refine wpAny_bind (wpAny_updateSeq hS rfl ?_)
  have hS2 := Heap.get?_update_self (Obj.mapSeq (fun _ => (#[] : Array Value))) hS rfl
  refine wpAny_bind (wpAny_letGo ?_)
  unfold Builtin.List.listExtendWith
  have up : ∀ (h : Heap) (f : Obj → Obj), (∀ b o, s.heap.get? b = some o → h.get? b = some o) → ∀ b o, s.heap.get? b = some o → (h.update s.heap.objs.size f).get? b = some o := fun h f q b o e =>
    (Heap.get?_update_other _ _ (Ne.symm (Nat.ne_of_lt (Heap.lt_size e)))).trans (q b o e)
  have k1 : ∀ b o, s.heap.get? b = some o → (s.heap.push { cls := .type "list", data := .seq #[] }).get? b = some o := fun b o e => Heap.get?_push_of_some _ e
  have k2 := up _ (Obj.mapSeq (fun _ => (#[] : Array Value))) k1
  have zty : ∀ {h : Heap}, (∀ b o, s.heap.get? b = some o → h.get? b = some o) → Shared.TypeIs { s with heap := h } (.ref z) "zip" := fun {h} q => ⟨_, q _ _ hz, rfl⟩
  refine wpAny_bind (wpAny_typeOf (zty k2) ?_)
  have h1' : Builtin.List.listSameRef (.ref s.heap.objs.size) (.ref z) = false := by simp [Builtin.List.listSameRef, hSz]
  have h2 : (Value.type "zip" == Value.type "list") = false := by decide
  have h3 : (Value.type "zip" == Value.type "tuple") = false := by decide
  simp only [h1', h2, h3, Bool.or_false, Bool.false_eq_true, if_false]
  refine wpAny_bind (wpAny_pyIter_zip (s := { s with heap := _ }) (k2 _ _ hz) ?_)
  refine wpAny_bind (wpAny_holding ?_)
  unfold Builtin.List.listLengthHint
  refine wpAny_bind (wpAny_specialOf (zty k2) zip_no_len ?_)
  show wpAny _ A.in1.in1 (specialOf (Value.ref z) (Str.ofString "__length_hint__") >>= _) _ _ _
  refine wpAny_bind (wpAny_specialOf (zty k2) zip_no_hint ?_)
  refine wpAny_pure ?_
  show wpAny _ A.in1.in1 (rule "list.extend.makes-room" >>= fun _ => Builtin.List.listTouch (.ref s.heap.objs.size) >>= fun _ =>
    again (.builtin "list.extend.loop" ⟨[.ref s.heap.objs.size, .ref z, .none], []⟩)) _ _ _
  refine wpAny_bind (wpAny_rule ?_)
  refine wpAny_bind ?_
  show wpAny _ A.in1.in1 (updateSeq s.heap.objs.size (·.push .none) >>= fun _ => updateSeq s.heap.objs.size (·.pop)) _ _ _
  refine wpAny_bind (wpAny_updateSeq hS2 rfl ?_)
  have hS3 := Heap.get?_update_self (Obj.mapSeq (·.push Value.none)) hS2 rfl
  refine wpAny_updateSeq (hz := by seq_fits) hS3 rfl ?_
  have hS4 := Heap.get?_update_self (Obj.mapSeq (·.pop)) hS3 rfl
  have k4 := up _ (Obj.mapSeq (·.pop)) (up _ (Obj.mapSeq (·.push Value.none)) k2)
  refine wpAny_pure ⟨plainId_quiet F.plain_extend_loop _, ?_⟩
  refine codeAny_builtin F.entry_extend_loop ?_
  rw [Around.under_plainId F.plain_extend_loop _]
  show wpAny _ A.in1.in1 (pyNext (.ref z) >>= _) _ _ _
  refine wpAny_bind (pyNext_zipG_end (s := { s with heap := _ }) hh d1 d2 (k4 _ _ hz) (k4 _ _ hTI) hTO (let ⟨o, e, r⟩ := h1; ⟨o, k4 _ o e, r⟩) (let ⟨o, e, r⟩ := hl; ⟨o, k4 _ o e, r⟩) hend fun h' hk => ?_)
  have hi1 : i1 < s.heap.objs.size := by
    obtain ⟨o, ho, _⟩ := h1
    exact Heap.lt_size ho
  exact wpAny_pure ⟨rfl, hQ _ h' _ (Nat.le_refl _) (hk _ _ hSz (Nat.ne_of_gt hi1) hS4) fun c o c1 c2 e => hk c o c1 c2 (k4 c o e)⟩
end
/-! ### the expression -/
abbrev TG0 := L2.St → Hp → (Hp → Prop) → Prop
structure PGen0 (X : Cx) (e : Expr) (t : TG0) : Prop where
  run : ∀ (pins : List (Addr × Obj)) (s : Shared) (σ : L2.St) (H : Hp) (Q : Hp → Prop), Inv X pins σ H s → t σ H Q → wpAny (model X.prog X.w) X.A (eval e X.env) (fun u s' => ∃ H1 a g, u = .ref a ∧ s'.heap.IsGen a g ∧ Inv X pins σ H1 s' ∧ Q H1) X.xe s
section
variable {X : Cx} {W : WX} {σ : L2.St} {k n : Nat} {f : Addr} {fd : FuncData} {ps ks : List Str} {gg : List Value → List Value → List Value} {gV : List V → List V → List V} {t tk : TA} {x : Str} {p pos : Pos} {e : Expr} {es : List Expr} {kws : List Keyword}
theorem run_g0 {pins : List (Addr × Obj)} {H : Hp} {s : Shared} {args : Args} {us : List Value} {Q : Hp → Prop} {E1 : Value → Shared → Prop} (F : GFn0 X.prog X.w X.K X.mg X.base k f fd ps) (hr : Room k X.A)
    (I : Inv X pins σ H s) (hb : BindsTo s fd args (ps.zip us)) (hl : us.length = ps.length) (h : Q H) : wpAny (model X.prog X.w) X.A (call (.ref f) args.pos args.kw) (fun u s' => ∃ H1 a g, u = .ref a ∧ s'.heap.IsGen a g ∧ Inv X pins σ H1 s' ∧ Q H1) E1 s := by
  refine wpAny_call (codeAny_mono (F.run X.A X.stack s H args us hl hr I.env0 hb) fun r s' hq => ?_)
  cases r with
  | error e => exact False.elim hq
  | ok fl =>
    cases fl with
    | ret u =>
      obtain ⟨a, g, rfl, _, _, hg, os, hba, _, kp⟩ := hq
      exact ⟨H, a, g, rfl, hg, I.call' (ch := []) os (Un.kept kp) (I.hok.kept kp) hba fun b z => by simp at z, h⟩
    | next => exact False.elim hq
    | brk => exact False.elim hq
    | cont => exact False.elim hq
def tG0NS (n m l : Nat) (gV : List V → List V → List V) (t tk : TA) : TG0 := fun σ H Q => t σ H fun vs H1 => tk σ H1 fun zs H2 => vs.length = n ∧ zs.length = m ∧ (gV vs zs).length = l ∧ Q H2
theorem pg0_callNS (F : GFn0 X.prog X.w X.K X.mg X.base k f fd ps) (hr : Room k X.A) (hg : Gl X x) (hm : X.mg x = some (.ref f)) (hk : PySem.W.keepIn X.K (.ref f) = true) (hb : KBn X.K fd ps n ks gg gV)
    (ha : PA X (e :: es) t) (hkw : PK X kws tk) (hall : (backToKw pos (keywordEach kws X.env)).all (·.1.isSome) = true) (hks : (backToKw pos (keywordEach kws X.env)).filterMap (·.1) = ks)
    (hdb : (x == ("__debug__" : Str)) = false) (he : starEach (e :: es) X.env = (false, eval e X.env) :: starEach es X.env)
    (hpl : ((backTo pos (starEach (e :: es) X.env)).any (·.1) || (backToKw pos (keywordEach kws X.env)).any (·.1.isNone)) = false) :
    PGen0 X (.Call (.Name x p) (e :: es) kws pos) (tG0NS n ks.length ps.length gV t tk) := by
  refine ⟨fun pins s σ H Q I h => ?_⟩
  refine wpAny_Call_Name_kw (ld_glob I hg hm ?_ hdb)
  refine PySem.W.callWith_KW (h₀ := X.base) I.ok.mod.kin hk hall (thn (ha.run pos pins s σ H _ I h) fun us s1 ⟨vs, H1, I1, r, q⟩ => ?_) hpl he
  refine thn (hkw.run pos pins s1 σ H1 _ I1 q) fun ws s2 ⟨zs, H2, I2, rz, l1, l2, l3, q2⟩ => ⟨I2.kIn, ?_⟩
  rw [hks]
  exact run_g0 (args := ⟨us, ks.zip ws⟩) F hr I2 (hb.to s2 us ws I2.kIn (r.length.symm.trans l1) (rz.length.symm.trans l2)) (by rw [← (hb.rel r rz).length]; exact l3) q2
theorem weakG0 {t t' : TG0} (h : PGen0 X e t) (kk : ∀ σ H Q, t' σ H Q → t σ H Q) : PGen0 X e t' := ⟨fun pins s σ H Q I q => h.run pins s σ H Q I (kk _ _ _ q)⟩
/-- list(zip([], g)) -/
def tLz (t : TG0) : TE := fun σ H Q => ∀ l, H l = none → t σ (upd H l (.lst [])) fun H1 => H1 l = some (.lst []) ∧ ∀ p, H1 p = none → Q (.ref p) (upd H1 p (.lst []))
theorem pe_lz {p1 p2 p3 p4 p5 : Pos} {t : TG0} (h : PGen0 X e t) (hc : X.calm = true) (ml : X.mg "list" = none) (mz : X.mg "zip" = none) (hg : Gl X "list") (hgz : Gl X "zip")
    (hs1 : starEach [.Call (.Name "zip" p2) [.List [] p3, e] [] p4] X.env = (false, eval (.Call (.Name "zip" p2) [.List [] p3, e] [] p4) X.env) :: starEach [] X.env := by rfl)
    (hs2 : starEach [.List [] p3, e] X.env = (false, eval (.List [] p3) X.env) :: starEach [e] X.env := by rfl) (hs3 : starEach [e] X.env = (false, eval e X.env) :: starEach [] X.env := by rfl)
    (hpl : (backTo p4 (starEach [e] X.env)).any (·.1) = false := by rfl) :
    PE X (.Call (.Name "list" p1) [.Call (.Name "zip" p2) [.List [] p3, e] [] p4] [] p5) (tLz t) := by
  refine ⟨fun pins s σ H Q I hq => ?_⟩
  refine wpAny_Call_Name_kw (ld_blt (u := .type "list") I hg ml (by decide +kernel) ?_ (by decide) (by decide))
  refine PyProof.Rows.callWith_type1 ?_ hs1 rfl
  rw [hs1]
  show wpAny _ _ (spliced ((false, eval (.Call (.Name "zip" p2) [.List [] p3, e] [] p4) X.env) :: backTo p5 (starEach [] X.env))) _ _ s
  refine Calls.spliced_cons ?_
  refine Call_ (ld_blt I hgz mz PyProof.Rows.boot_zip (PyProof.Rows.callWith_type1 ?_ hs2 hpl))
  rw [hs2]
  show wpAny _ _ (spliced ((false, eval (.List [] p3) X.env) :: backTo p4 (starEach [e] X.env))) _ _ s
  have hl : tLst tNil σ H (fun v H1 => ∃ l, v = .ref l ∧ H l = none ∧ H1 = upd H l (.lst [])) := ⟨Nat.zero_le _, fun p hp => ⟨p, rfl, hp, rfl⟩⟩
  refine Calls.spliced_cons (thn ((pe_lst pa_nil).run pins s σ H _ I hl) fun u s1 ⟨v, H1, I1, rv, l, ev, hl0, eH⟩ => ?_)
  subst ev
  subst eH
  obtain rfl : u = Value.ref l := rv
  rw [hs3]
  show wpAny _ _ (spliced ((false, eval e X.env) :: backTo p4 (starEach [] X.env))) _ _ s1
  refine Calls.spliced_cons (thn (h.run pins s1 σ _ _ I1 (hq l hl0)) fun u s2 ⟨H2, a, g, eu, hgen, I2, hl2, hQ⟩ => ?_)
  subst eu
  refine Calls.spliced_nil ?_
  obtain ⟨_, its, nn, r, eo⟩ := I2.hok l _ hl2
  cases r
  have hL : s2.heap.IsList l #[] := ⟨_, eo, rfl, _, rfl⟩
  have hll : l < s2.heap.objs.size := Heap.lt_size eo
  refine call_zipG hL hgen fun h' hz hTI h1 hsz hk => ?_
  refine Calls.spliced_nil ?_
  refine call_list_zipG (s := { s2 with heap := h' }) (I2.ok.hd hc) (Nat.ne_of_lt (Nat.lt_add_of_pos_right (by decide))) (Nat.ne_of_lt (Nat.lt_of_lt_of_le hll (Nat.le_add_right _ _))) (Nat.ne_of_lt (Nat.add_lt_add_left (by decide) _)) hz hTI h1 (let ⟨o, e, r⟩ := hL; ⟨o, hk _ o e, r⟩) rfl fun S h2 c hS eS hk2 => ?_
  have kp : ∀ b o, s2.heap.get? b = some o → h2.get? b = some o := fun b o e => hk2 b o (Nat.ne_of_lt (Nat.lt_of_lt_of_le (Heap.lt_size e) (Nat.le_add_right _ _))) (Nat.ne_of_lt (Heap.lt_size e)) (hk b o e)
  have hS2 : s2.heap.objs.size ≤ S := by
    have hS : h'.objs.size ≤ S := hS
    rw [hsz] at hS
    exact Nat.le_trans (Nat.le_add_right _ _) hS
  exact ⟨.ref S, upd H2 S (.lst []), I2.laid (t' := s2.toks) kp hS2 ⟨Nat.zero_le _, [], c, .nil, eS⟩, rfl, hQ S (I2.hok.fresh hS2)⟩
end
/-! ### as mirrors -/
section
variable {X : Cx} {K : PySem.W.Frag} {mg : Str → Option Value} {W : WX} {g g' : G} {σ : L2.St} {Q : VK}
variable {a b e : Expr} {ma mb me : ME} {mr mk : MA} {pos p apos : Pos} {es : List Expr} {c x : Str} {kws : List Keyword}
variable {k n j : Nat} {qual : Str} {st : Stmt} {ps ks : List Str} {is : List Nat} {kdts ms : List (Str × T)} {mf : MF} {L : List Str}
def wpG0 (K : PySem.W.Frag) (mg : Str → Option Value) (W : WX) (g : G) (σ : L2.St) (Q : Hp → Prop) : R → Prop
  | .ok _ h' => ∀ g', g'.h = h' → Ext g g' → Rel K mg g' → Q g'.H
  | .ex x h' => ∀ g' cls d, g'.h = h' → Ext g g' → Rel K mg g' → RepX K mg g' x cls d → W cls d σ g'.H
  | .stuck => False
theorem wpG0.ext {Q : Hp → Prop} {r : R} (h : wpG0 K mg W g σ Q r) (e : Ext g g') : wpG0 K mg W g' σ Q r := by
  cases r with
  | ok t h' => exact fun g2 q e2 => h g2 q (e.trans e2)
  | ex x h' => exact fun g2 c d q e2 => h g2 c d q (e.trans e2)
  | stuck => exact h
def tG0M (K : PySem.W.Frag) (mg : Str → Option Value) (W : WX) (me : ME) : TG0 := fun σ H Q => ∃ g s, g.H = H ∧ Rel K mg g ∧ RepS K mg g s σ ∧ wpG0 K mg W g σ Q (me s g.h)
theorem wpL_ofG0 {Q : Hp → Prop} {Q' : List V → Hp → Prop} {r : RL} {f : List T → MH → R} (h : wpG0 K mg W g σ Q (r.bind f)) (k : ∀ g' ts vs, Ext g g' → Rel K mg g' → RepL K mg g' ts vs → wpG0 K mg W g' σ Q (f ts g'.h) → Q' vs g'.H) : wpL K mg W g σ Q' r := by
  cases r with
  | ok t h' => exact fun g' v q e R r => k g' t v e R r (by subst q; exact wpG0.ext h e)
  | ex x h' => exact h
  | stuck => exact h
/-- what a generator's call does ahead of its first item: its arguments -/
def mKwG0 (n nk l : Nat) (is : List Nat) (mdts : List T) (mr mk : MA) : ME := fun s h => (mr s h).bind fun ts h1 => (mk s h1).bind fun us h2 => if ts.length = n ∧ us.length = nk ∧ (pick is (ts ++ us ++ mdts)).length = l then .ok .non h2 else .stuck
theorem pg0_hkO (N : List Str) (S : GScope N ps (defScope st)) (h : HasGOX X k x qual st ps kdts mf) (hr : Room k X.A) (hms : ms = kdts ∨ ms = []) (hb : KwO st x qual ps n (ms.map (·.1)) ks is) (ha : SA X W (e :: es) mr) (hkw : SK X W kws mk) (hg : Gl X x := by rfl)
    (hall : (backToKw pos (keywordEach kws X.env)).all (·.1.isSome) = true := by rfl) (hks : (backToKw pos (keywordEach kws X.env)).filterMap (·.1) = ks := by rfl)
    (hdb : (x == ("__debug__" : Str)) = false := by decide) (he : starEach (e :: es) X.env = (false, eval e X.env) :: starEach es X.env := by rfl)
    (hpl : ((backTo pos (starEach (e :: es) X.env)).any (·.1) || (backToKw pos (keywordEach kws X.env)).any (·.1.isNone)) = false := by rfl) :
    PGen0 X (.Call (.Name x p) (e :: es) kws pos) (tG0M X.K X.mg W (mKwG0 n ks.length ps.length is (ms.map (·.2)) mr mk)) := by
  obtain ⟨f, fd, kvs, hm, F, kn, kr, ne, ok⟩ := h
  obtain ⟨mvs, mv, rm, kb⟩ := kO_bindsG F kn kr ne hms hb
  refine weakG0 (pg0_callNS (k := k) (gfn0_of F S) hr hg hm F.kp kb ha hkw hall hks hdb he hpl) ?_
  rintro σ H Q ⟨g, s, rfl, R, S, h⟩
  refine ⟨g, s, rfl, R, S, wpL_ofG0 h fun g1 ts vs e1 R1 r1 h1 => ⟨g1, s, rfl, R1, S.mono e1, wpL_ofG0 h1 fun g2 us zs e2 R2 r2 h2 => ?_⟩⟩
  split at h2
  · rename_i q
    have rl := (pick_repL (((r1.mono e2).append r2).append (rm g2)) is).length
    exact ⟨r1.length.symm.trans q.1, r2.length.symm.trans q.2.1, rl.symm.trans q.2.2, h2 g2 rfl (Ext.refl _) R2⟩
  · exact h2.elim
def mLz (me : ME) : ME := fun s h => (me s h).bind fun _ h1 => .ok (.lst []) h1
theorem se_lz {p1 p2 p3 p4 p5 : Pos} (hc : X.calm = true) (ml : X.mg "list" = none) (mz : X.mg "zip" = none) (h : PGen0 X e (tG0M X.K X.mg W me)) (hg : Gl X "list" := by rfl) (hgz : Gl X "zip" := by rfl)
    (hs1 : starEach [.Call (.Name "zip" p2) [.List [] p3, e] [] p4] X.env = (false, eval (.Call (.Name "zip" p2) [.List [] p3, e] [] p4) X.env) :: starEach [] X.env := by rfl)
    (hs2 : starEach [.List [] p3, e] X.env = (false, eval (.List [] p3) X.env) :: starEach [e] X.env := by rfl) (hs3 : starEach [e] X.env = (false, eval e X.env) :: starEach [] X.env := by rfl)
    (hpl : (backTo p4 (starEach [e] X.env)).any (·.1) = false := by rfl) :
    SE X W (.Call (.Name "list" p1) [.Call (.Name "zip" p2) [.List [] p3, e] [] p4] [] p5) (mLz me) := by
  refine weakE (pe_lz h hc ml mz hg hgz hs1 hs2 hs3 hpl) ?_
  rintro σ H Q ⟨g, s, rfl, R, S, h⟩ l hl
  have el := lay_ext (o := .lst []) R hl
  have Rl := R.lay (o := .lst []) hl
  have rl := rep_lst R hl (RepL.nil (K := X.K) (mg := X.mg))
  refine ⟨g.lay l (.lst []), s, rfl, Rl, S.mono el, ?_⟩
  unfold mLz at h
  show wpG0 X.K X.mg W (g.lay l (.lst [])) σ _ (me s g.h)
  cases q : me s g.h with
  | ok t h1 =>
    rw [q] at h
    intro g1 q1 e1 R1
    obtain ⟨p, vs, ep, ⟨hH, _⟩, hv⟩ := rl.mono e1
    cases ep
    have hv0 : vs = [] := by
      have := hv.length
      exact List.eq_nil_of_length_eq_zero this.symm
    subst hv0
    exact ⟨hH, fun p hp => wpR_lst (by rw [q1]; exact wpR.ext h (el.trans e1)) R1 RepL.nil hp⟩
  | ex x h1 =>
    rw [q] at h
    exact fun g1 cls d q1 e1 R1 r1 => h g1 cls d q1 (el.trans e1) R1 r1
  | stuck => rw [q] at h; exact h.elim
theorem GFnC.up {P : Program} {w : World} {base : Heap} {j k : Nat} {f : Addr} {fd : FuncData} {ps : List Str} {sp : SpG} (F : GFnC P w K mg base j f fd ps sp) (l : j ≤ k) : GFnC P w K mg base k f fd ps sp :=
  ⟨F.len, fun A outer s H args us vs Q E hr e0 hb r h => codeAny_mono (F.run A outer s H args us vs Q E (hr.mono l) e0 hb r h) fun r s' hq => by
    cases r with
    | error e => exact hq
    | ok fl =>
      cases fl with
      | ret u =>
        obtain ⟨a, g, c, x1, x2, x3, x4, x5, x6, x7, x8, x9, x10⟩ := hq
        exact ⟨a, g, c, x1, x2, x3, x4, x5, x6, x7, x8, x9, fun A D s2 hr => x10 A D s2 (hr.mono l)⟩
      | next => exact hq
      | brk => exact hq
      | cont => exact hq⟩
theorem HasGO.up {P : Program} {w : World} {base : Heap} {j k : Nat} (h : HasGO P w K mg base j x qual st ps kdts mf) (l : j ≤ k) : HasGO P w K mg base k x qual st ps kdts mf := by
  obtain ⟨f, fd, kvs, h1, h2, h3, h4, h5, h6⟩ := h
  exact ⟨f, fd, kvs, h1, h2, h3, h4, h5, h6.up l⟩
theorem HasGM.up {P : Program} {w : World} {base : Heap} {j k : Nat} (h : HasGM P w K mg base j c x qual st ps mf) (l : j ≤ k) : HasGM P w K mg base k c x qual st ps mf := by
  obtain ⟨C, f, fd, h1, h2, h3, h4, h5⟩ := h
  exact ⟨C, f, fd, h1, h2, h3, h4, h5.up l⟩
theorem noStB_ok {h : Heap} (X : K.In h) (G : h.Ns mainGlobals mg) (b : noStB K L = true) : NoSt K mg L := fun c hc D hD => by
  obtain ⟨b1, b2⟩ := bb (List.all_eq_true.mp b c hc)
  have e := PySem.W.mg_of X G (He.eqO_ok b1)
  rw [hD] at e
  cases e
  exact of_decide_eq_true b2
end
end Mi
end part_Mi99
section part_W02
set_option maxRecDepth 100000
set_option maxHeartbeats 4000000
namespace L_k02
open PySem PySem.Spec PyProof.Rows L2 Mi
abbrev N_law : List Str := ["_law_script", "_law_bag_here", "_law_turn", "_law_some", "_law_due", "_law_found", "_law_asks", "_law_my_count", "_law_odd", "_law_bad", "_law_row", "_law_sign"]
def lms_law : List Expr := lamsOf2 (defBody s_law)
def C_law (L : Nat) : List (Str × Addr) := cellsFrom (L + 1) (defScope s_law).names []
def cn_law : List Str := cnOf (defScope s_law).names []
def ix_law : List Nat := cn_law.map fun y => N_law.idxOf y
def lam_0 : Expr := lms_law.getD 0 noLam
def LI_0 : LamI := lamI "law.<locals>.<lambda>" false lam_0
def lam_1 : Expr := lms_law.getD 1 noLam
def LI_1 : LamI := lamI "law.<locals>.<lambda>" true lam_1
def lam_2 : Expr := lms_law.getD 2 noLam
def LI_2 : LamI := lamI "law.<locals>.<lambda>" false lam_2
abbrev N__law_alike : List Str := ["_law_found", "_law_due", "_law_sort", "_law_one", "_law_two"]
theorem sc__law_alike : FnScope N__law_alike ["_law_found", "_law_due"] (defScope s__law_alike) := ⟨rfl, rfl, rfl, by decide +kernel, rfl, by decide +kernel, by decide +kernel⟩
theorem b__law_alike : PosB s__law_alike "_law_alike" "_law_alike" ["_law_found", "_law_due"] := fun _ _ _ _ _ _ us hl => match us, hl with | [_, _], _ => rfl
def m_law_alike : Nat → MF
  | 0 => fun _ _ => .stuck
  | n + 1 => mDef 5 ((mSq (mIfS (mOr (m2 (fIs false) (mVar 1) (mC .non)) (m2 (fIs false) (mVar 0) (mC .non))) (mSq (mRetF (mAndV (m2 (fIs false) (mVar 1) (mC .non)) (m2 (fIs false) (mVar 0) (mC .non))))
    mNx) mNx)
    (mSq (mFor (mSrc (mA fTup (aCons (mC (.int 1)) (aCons (mC (.int 2)) (aCons (mC (.int 3)) aNil))))) (gN 2) (mSq (mIfS (mAnd (m2 fEq (mVar 2) (mC (.int 1))) (mOr (mTru (m1 (fIsi .bl) (mVar 1))) (mTru (m1 (fIsi .bl) (mVar 0))))) (mSq (mRetF (mAndV (m1 (fIsi .bl) (mVar 1)) (mAndV (m1 (fIsi .bl) (mVar 0)) (m2 fEq (mVar 0) (mVar 1)))))
    mNx) mNx)
    (mSq (mIfS (mAnd (m2 fEq (mVar 2) (mC (.int 2))) (mOr (mTru (m1 (fIsi .str) (mVar 1))) (mTru (m1 (fIsi .str) (mVar 0))))) (mSq (mRetF (mAndV (m1 (fIsi .str) (mVar 1)) (mAndV (m1 (fIsi .str) (mVar 0)) (m2 fEq (mVar 0) (mVar 1)))))
    mNx) mNx)
    (mSq (mIfS (mAnd (m2 fEq (mVar 2) (mC (.int 3))) (mOr (mTru (m1 (fIsi .int) (mVar 1))) (mTru (m1 (fIsi .int) (mVar 0))))) (mSq (mRetF (mAndV (m1 (fIsi .int) (mVar 1)) (mAndV (m1 (fIsi .int) (mVar 0)) (m2 fEq (mVar 0) (mVar 1)))))
    mNx) mNx)
    mNx))))
    (mSq (mIfS (mOr (m2 fNe (m1 (fIsi .tup) (mVar 1)) (m1 (fIsi .tup) (mVar 0))) (m2 fNe (m1 (fIsi .lst) (mVar 1)) (m1 (fIsi .lst) (mVar 0)))) (mSq (mRetF (mC (.bl false)))
    mNx) mNx)
    (mSq (mRetF (mAndV (m2 fEq (mA fLen (aCons (mVar 0) aNil)) (mA fLen (aCons (mVar 1) aNil))) (mA fAll (aCons (mLc (mIA iZp (aCons (mVar 0) (aCons (mVar 1) aNil))) (gT 2 (gsCons (gN 3) (gsCons (gN 4) gsNil))) (mC (.bl true)) (mA (fP 2 (m_law_alike n)) (aCons (mVar 3) (aCons (mVar 4) aNil))) [3, 4]) aNil))))
    mNx)))))
abbrev N__law_all_rows : List Str := ["_law_my_count", "_law_found", "_law_place", "_law_longer", "_law_row", "_law_sign"]
theorem sc__law_all_rows : FnScope N__law_all_rows ["_law_my_count"] (defScope s__law_all_rows) := ⟨rfl, rfl, rfl, by decide +kernel, rfl, by decide +kernel, by decide +kernel⟩
theorem b__law_all_rows : PosB s__law_all_rows "_law_all_rows" "_law_all_rows" ["_law_my_count"] := fun _ _ _ _ _ _ us hl => match us, hl with | [_], _ => rfl
def m_law_all_rows : MF := mDef 6 ((mSq (mSet 1 (mA fLst (aCons (mC (.str "")) aNil)))
    (mSq (mFor (mIA iRg1 (aCons (mVar 0) aNil)) (gN 2) (mSq (mSet 3 (mA fLst aNil))
    (mSq (mFor (mSrc (mVar 1)) (gN 4) (mSq (mSet 3 (m2 fAdd (mVar 3) (mLc (mSrc (mC (.str "blnr"))) (gN 5) (mC (.bl true)) (m2 fAdd (mVar 4) (mVar 5)) [5])))
    mNx))
    (mSq (mSet 1 (mVar 3))
    mNx))))
    (mSq (mRetF (mVar 1))
    mNx))))
abbrev N__law_bag : List Str := ["_law_script", "_law_row", "_law_mark", "_law_cell"]
theorem sc__law_bag : FnScope N__law_bag ["_law_script"] (defScope s__law_bag) := ⟨rfl, rfl, rfl, by decide +kernel, rfl, by decide +kernel, by decide +kernel⟩
theorem b__law_bag : PosB s__law_bag "_law_bag" "_law_bag" ["_law_script"] := fun _ _ _ _ _ _ us hl => match us, hl with | [_], _ => rfl
def m_law_bag : MF := mDef 4 ((mSq (mSet 1 (mA fList (aCons (mSl (mVar 0) (mC .non) (m1 fPart (mC (.int 63)))) aNil)))
    (mSq (mSet 2 (m2 fAdd (mC (.int 5608)) (m2 fMul (mC (.int 31)) (mA fLen (aCons (mVar 1) aNil)))))
    (mSq (mFor (mSrc (mVar 1)) (gN 3) (mSq (mSet 2 (m2 fMod (mA fInt (aCons (m2 fAdd (m2 fAdd (m2 fMul (mVar 2) (mC (.int 47093))) (m2 fMod (mA fInt (aCons (mVar 3) aNil)) (mC (.int 2147483389)))) (mC (.int 17))) aNil)) (mC (.int 2147483549))))
    mNx))
    (mSq (mRet (mA fLstN (aCons (mVar 1) (aCons (mC (.int 0)) (aCons (mC (.int 0)) (aCons (mVar 2) aNil))))))
    mNx)))))
abbrev N__law_draw : List Str := ["_law_bag_here", "_law_many", "_law_cell", "_law_found", "_law_mixed"]
theorem sc__law_draw : FnScope N__law_draw ["_law_bag_here", "_law_many"] (defScope s__law_draw) := ⟨rfl, rfl, rfl, by decide +kernel, rfl, by decide +kernel, by decide +kernel⟩
theorem b__law_draw : PosB s__law_draw "_law_draw" "_law_draw" ["_law_bag_here", "_law_many"] := fun _ _ _ _ _ _ us hl => match us, hl with | [_, _], _ => rfl
def m_law_draw : MF := mDef 5 ((mSq (mIfS (mAnd (m2 fEq (m2 fIx (mVar 0) (mC (.int 2))) (mC (.int 0))) (m2 fLt (m2 fIx (mVar 0) (mC (.int 1))) (mA fLen (aCons (m2 fIx (mVar 0) (mC (.int 0))) aNil)))) (mSq (mSet 2 (m2 fIx (m2 fIx (mVar 0) (mC (.int 0))) (m2 fIx (mVar 0) (mC (.int 1)))))
    (mSq (mAs (m2 fAdd (m2 fIx (mVar 0) (mC (.int 1))) (mC (.int 1))) (gSt (mVar 0) (mC (.int 1))))
    (mSq (mIfS (m2 fGe (mVar 2) (m2 fPow (mC (.int 10)) (mC (.int 18)))) (mSq (mAs (mVar 2) (gSt (mVar 0) (mC (.int 2))))
    mNx) (mSq (mSet 4 (m2 fAdd (m2 fMul (m2 fIx (mVar 0) (mC (.int 3))) (mC (.int 41381))) (m2 fMod (mA fInt (aCons (mVar 2) aNil)) (mC (.int 2000000033)))))
    (mSq (mAs (m2 fMod (mA fInt (aCons (m2 fAdd (mVar 4) (m2 fIx (mVar 0) (mC (.int 1)))) aNil)) (mC (.int 2147483549))) (gSt (mVar 0) (mC (.int 3))))
    mNx)))
    mNx))) mNx)
    (mSq (mIfS (m2 fGt (m2 fIx (mVar 0) (mC (.int 2))) (mC (.int 0))) (mSq (mSet 3 (m2 fMod (mA fInt (aCons (m2 fIx (mVar 0) (mC (.int 2))) aNil)) (mVar 1)))
    (mSq (mAs (m2 fFdiv (m2 fIx (mVar 0) (mC (.int 2))) (mVar 1)) (gSt (mVar 0) (mC (.int 2))))
    (mSq (mRetF (mVar 3))
    mNx))) mNx)
    (mSq (mAs (m2 fMod (mA fInt (aCons (m2 fAdd (m2 fMul (m2 fIx (mVar 0) (mC (.int 3))) (mC (.int 45137))) (mC (.int 1019))) aNil)) (mC (.int 2147483549))) (gSt (mVar 0) (mC (.int 3))))
    (mSq (mRetF (m2 fMod (mA fInt (aCons (m2 fFdiv (m2 fMod (mA fInt (aCons (m2 fMul (m2 fIx (mVar 0) (mC (.int 3))) (m2 fIx (mVar 0) (mC (.int 3)))) aNil)) (mC (.int 999999929))) (mC (.int 37))) aNil)) (mVar 1)))
    mNx)))))
abbrev N__law_of : List Str := ["_law_bag_here", "_law_things"]
theorem sc__law_of : FnScope N__law_of ["_law_bag_here", "_law_things"] (defScope s__law_of) := ⟨rfl, rfl, rfl, by decide +kernel, rfl, by decide +kernel, by decide +kernel⟩
theorem b__law_of : PosB s__law_of "_law_of" "_law_of" ["_law_bag_here", "_law_things"] := fun _ _ _ _ _ _ us hl => match us, hl with | [_, _], _ => rfl
def m_law_of : MF := mDef 2 ((mSq (mRetF (m2 fIx (mVar 1) (mA (fS 2 m_law_draw) (aCons (mVar 0) (aCons (mA fLen (aCons (mVar 1) aNil)) aNil)))))
    mNx))
abbrev N__law_field : List Str := ["_law_e", "_law_bare"]
theorem sc__law_field : FnScope N__law_field ["_law_e"] (defScope s__law_field) := ⟨rfl, rfl, rfl, by decide +kernel, rfl, by decide +kernel, by decide +kernel⟩
theorem b__law_field : PosB s__law_field "_law_field" "_law_field" ["_law_e"] := fun _ _ _ _ _ _ us hl => match us, hl with | [_], _ => rfl
def m_law_field : MF := mDef 2 ((mSq (mIfS (m2 (fIn false) (m1 (fFldX xs_tag "tag") (mVar 0)) (mA fLst (aCons (mC (.str "InvalidStates")) (aCons (mC (.str "InvalidCase")) aNil)))) (mSq (mRetF mStk)
    mNx) mNx)
    (mSq (mIfS (m2 (fIn false) (m1 (fFldX xs_tag "tag") (mVar 0)) (mA fLst (aCons (mC (.str "TooMany")) (aCons (mC (.str "Finished")) aNil)))) (mSq (mRetF mStk)
    mNx) mNx)
    (mSq (mIfS (m2 fEq (m1 (fFldX xs_tag "tag") (mVar 0)) (mC (.str "TakenMove"))) (mSq (mRetF mStk)
    mNx) mNx)
    (mSq (mIfS (m2 (fIn false) (m1 (fFldX xs_tag "tag") (mVar 0)) (mA fLst (aCons (mC (.str "InvalidName")) (aCons (mC (.str "WrongKind")) (aCons (mC (.str "DuplicateName")) (aCons (mC (.str "UnknownName")) aNil)))))) (mSq (mRetF mStk)
    mNx) mNx)
    (mSq (mIfS (m2 fEq (m1 (fFldX xs_tag "tag") (mVar 0)) (mC (.str "Full"))) (mSq (mRetF mStk)
    mNx) mNx)
    (mSq (mIfS (m2 fEq (m1 (fFldX xs_tag "tag") (mVar 0)) (mC (.str "InvalidCommand"))) (mSq (mRetF mStk)
    mNx) mNx)
    (mSq (mIfS (m2 fEq (m1 (fFldX xs_tag "tag") (mVar 0)) (mC (.str "InvalidPage"))) (mSq (mRetF mStk)
    mNx) mNx)
    (mSq (mSet 1 (mA fLst (aCons (mC (.str "InvalidTask")) (aCons (mC (.str "InvalidTable")) (aCons (mC (.str "TablesDiffer")) (aCons (mC (.str "NoRows")) (aCons (mC (.str "DeadDiffer")) (aCons (mC (.str "LastMove")) (aCons (mC (.str "InvalidText")) (aCons (mC (.str "NothingLeft")) aNil))))))))))
    (mSq (mRetF (mIf (m2 (fIn false) (m1 (fFldX xs_tag "tag") (mVar 0)) (mVar 1)) (mC .non) (m1 (fFldX xs_given "given") (mVar 0))))
    mNx))))))))))
abbrev N_is_row : List Str := ["value", "sign"]
theorem sc_is_row : FnScope N_is_row ["value"] (defScope s_is_row) := ⟨rfl, rfl, rfl, by decide +kernel, rfl, by decide +kernel, by decide +kernel⟩
theorem b_is_row : PosB s_is_row "is_row" "is_row" ["value"] := fun _ _ _ _ _ _ us hl => match us, hl with | [_], _ => rfl
def m_is_row : MF := mDef 2 ((mSq (mRetF (mAndV (m1 (fIsi .str) (mVar 0)) (mA fAll (aCons (mLc (mSrc (mVar 0)) (gN 1) (mC (.bl true)) (m2 (fIn false) (mVar 1) (mC t_SIGNS)) [1]) aNil))))
    mNx))
abbrev N_rising : List Str := ["items", "one", "other"]
theorem sc_rising : FnScope N_rising ["items"] (defScope s_rising) := ⟨rfl, rfl, rfl, by decide +kernel, rfl, by decide +kernel, by decide +kernel⟩
theorem b_rising : PosB s_rising "rising" "rising" ["items"] := fun _ _ _ _ _ _ us hl => match us, hl with | [_], _ => rfl
def m_rising : MF := mDef 3 ((mSq (mRetF (mA fAll (aCons (mLc (mIA iZp (aCons (mVar 0) (aCons (mSl (mVar 0) (m1 fPart (mC (.int 1))) (mC .non)) aNil))) (gT 2 (gsCons (gN 1) (gsCons (gN 2) gsNil))) (mC (.bl true)) (m2 fLtA (mVar 1) (mVar 2)) [1, 2]) aNil)))
    mNx))
abbrev N_are_signs : List Str := ["value"]
theorem sc_are_signs : FnScope N_are_signs ["value"] (defScope s_are_signs) := ⟨rfl, rfl, rfl, by decide +kernel, rfl, by decide +kernel, by decide +kernel⟩
theorem b_are_signs : PosB s_are_signs "are_signs" "are_signs" ["value"] := fun _ _ _ _ _ _ us hl => match us, hl with | [_], _ => rfl
def m_are_signs : MF := mDef 1 ((mSq (mRetF (mAndV (mA (fP 1 m_is_row) (aCons (mVar 0) aNil)) (mAndV (m2 fNe (mVar 0) (mC (.str ""))) (mA (fP 1 m_rising) (aCons (mVar 0) aNil)))))
    mNx))
abbrev N_is_number : List Str := ["value"]
theorem sc_is_number : FnScope N_is_number ["value"] (defScope s_is_number) := ⟨rfl, rfl, rfl, by decide +kernel, rfl, by decide +kernel, by decide +kernel⟩
theorem b_is_number : PosB s_is_number "is_number" "is_number" ["value"] := fun _ _ _ _ _ _ us hl => match us, hl with | [_], _ => rfl
def m_is_number : MF := mDef 1 ((mSq (mRetF (mAndV (m1 (fIsi .int) (mVar 0)) (mNotV (m1 (fIsi .bl) (mVar 0)))))
    mNx))
abbrev N_is_within : List Str := ["value", "least", "most"]
theorem sc_is_within : FnScope N_is_within ["value", "least", "most"] (defScope s_is_within) := ⟨rfl, rfl, rfl, by decide +kernel, rfl, by decide +kernel, by decide +kernel⟩
theorem b_is_within : PosB s_is_within "is_within" "is_within" ["value", "least", "most"] := fun _ _ _ _ _ _ us hl => match us, hl with | [_, _, _], _ => rfl
def m_is_within : MF := mDef 3 ((mSq (mRetF (mAndV (mA (fP 1 m_is_number) (aCons (mVar 0) aNil)) (mChain fLe fLe (mVar 1) (mVar 0) (mVar 2))))
    mNx))
abbrev N_rows : List Str := ["count", "signs", "found", "place", "row", "sign"]
theorem sc_rows : GScope N_rows ["count", "signs"] (defScope s_rows) := ⟨rfl, rfl, rfl, by decide +kernel, rfl, by decide +kernel, by decide +kernel⟩
theorem bo_rows_1_signs : KwO s_rows "rows" "rows" ["count", "signs"] 1 [] ["signs"] [0, 1] := fun _ _ _ _ _ _ us mv ws h1 h2 h3 => match us, mv, ws, h1, h2, h3 with | [_], [], [_], _, _, _ => rfl
theorem bo_rows_0_signs_count : KwO s_rows "rows" "rows" ["count", "signs"] 0 [] ["signs", "count"] [1, 0] := fun _ _ _ _ _ _ us mv ws h1 h2 h3 => match us, mv, ws, h1, h2, h3 with | [], [], [_, _], _, _, _ => rfl
theorem bo_rows_1_ : KwO s_rows "rows" "rows" ["count", "signs"] 1 ["signs"] [] [0, 1] := fun _ _ _ _ _ _ us mv ws h1 h2 h3 => match us, mv, ws, h1, h2, h3 with | [_], [_], [], _, _, _ => ⟨_, _, _, _, _, _, rfl, rfl, rfl⟩
def m_rows : MF := mGDef 6 ((mGSq (mGPl (mIfS (mNot (mTru (mA (fP 3 m_is_within) (aCons (mVar 0) (aCons (mC (.int 0)) (aCons (mC t_MOST_ROUNDS) aNil)))))) (mSq (mRaise (fExn1 "InvalidCount" "InvalidCount" "given") (aCons (mVar 0) aNil))
    mNx) mNx))
    (mGSq (mGPl (mIfS (mNot (mTru (mA (fP 1 m_are_signs) (aCons (mVar 1) aNil)))) (mSq (mRaise (fExn1 "InvalidSign" "InvalidSign" "given") (aCons (mVar 1) aNil))
    mNx) mNx))
    (mGSq (mGPl (mSet 2 (mA fLst (aCons (mC (.str "")) aNil))))
    (mGSq (mGPl (mFor (mIA iRg1 (aCons (mVar 0) aNil)) (gN 3) (mSq (mSet 2 (mLc2 (mSrc (mVar 2)) (gN 4) (mC (.bl true)) (mSrc (mVar 1)) (gN 5) (mC (.bl true)) (m2 fAdd (mVar 4) (mVar 5)) [4, 5] [5]))
    mNx)))
    (mGSq (mGFor (mSrc (mVar 2)) (gN 4) (mGSq (mGY (mVar 4))
    mGNx))
    mGNx))))))
abbrev N_lam_0 : List Str := ["_law_odd", "_law_bad", "_law_row"]
def ml_0 : ME := (mLcG (mKwO 1 1 [0, 1] (List.map Prod.snd ([] : List (Str × T))) (gFs 2 nsL m_rows) (aCons (mVar 0) aNil) (aCons (mVar 1) aNil)))
def LE_0 : LamE := ⟨LI_0, ["_law_odd", "_law_bad"], (["_law_odd", "_law_bad"] : List Str).map (fun y => cn_law.idxOf y), mLamF 0 3 ml_0⟩
abbrev N_lam_1 : List Str := ["_law_a", "_law_bad", "_law_row"]
def ml_1 : ME := (mLcG (mKwO 1 1 [0, 1] (List.map Prod.snd ([] : List (Str × T))) (gFs 2 nsL m_rows) (aCons (mC (.int 2)) aNil) (aCons (mVar 1) aNil)))
def LE_1 : LamE := ⟨LI_1, ["_law_bad"], (["_law_bad"] : List Str).map (fun y => cn_law.idxOf y), mLamF 1 3 ml_1⟩
abbrev N_lam_2 : List Str := ["_law_odd", "_law_bad"]
def ml_2 : ME := (mLz (mKwG0 1 1 2 [0, 1] (List.map Prod.snd ([] : List (Str × T))) (aCons (mVar 0) aNil) (aCons (mVar 1) aNil)))
def LE_2 : LamE := ⟨LI_2, ["_law_odd", "_law_bad"], (["_law_odd", "_law_bad"] : List Str).map (fun y => cn_law.idxOf y), mLamF 0 2 ml_2⟩
def tabL : List LamE := [LE_0, LE_1, LE_2]
abbrev N__law_why : List Str := ["_law_ask", "_law_e"]
theorem sc__law_why : FnScope N__law_why ["_law_ask"] (defScope s__law_why) := ⟨rfl, rfl, rfl, by decide +kernel, rfl, by decide +kernel, by decide +kernel⟩
theorem b__law_why : PosB s__law_why "_law_why" "_law_why" ["_law_ask"] := fun _ _ _ _ _ _ us hl => match us, hl with | [_], _ => rfl
noncomputable def m_law_why : MF := mDef 2 ((mSq (mTry3 ct_why 1 (mSq (mRetF (mA fTup (aCons (mC (.str "")) (aCons (mAct tabL 0) aNil))))
    mNx) (mSq (mRetF (mA fTup (aCons (m1 (fFldX xs_tag "tag") (mVar 1)) (aCons (mA (fP 1 m_law_field) (aCons (mVar 1) aNil)) aNil))))
    mNx))
    mNx))
abbrev N__law_whys : List Str := ["_law_asks", "_law_ask"]
theorem sc__law_whys : FnScope N__law_whys ["_law_asks"] (defScope s__law_whys) := ⟨rfl, rfl, rfl, by decide +kernel, rfl, by decide +kernel, by decide +kernel⟩
theorem b__law_whys : PosB s__law_whys "_law_whys" "_law_whys" ["_law_asks"] := fun _ _ _ _ _ _ us hl => match us, hl with | [_], _ => rfl
noncomputable def m_law_whys : MF := mDef 2 ((mSq (mRetF (mLc (mSrc (mVar 0)) (gN 1) (mC (.bl true)) (mA (fS 1 m_law_why) (aCons (mVar 1) aNil)) [1]))
    mNx))
theorem sc_law : FnScope N_law ["_law_script"] (defScope s_law) := ⟨rfl, rfl, rfl, by decide +kernel, rfl, by decide +kernel, by decide +kernel⟩
noncomputable def m_law (P L : Nat) : MF := mDef 12 ((mSq (mSet 1 (mA (fS 1 m_law_bag) (aCons (mVar 0) aNil)))
    (mSq (mFor (mIA iRg1 (aCons (mC (.int 6)) aNil)) (gN 2) (mSq (mAs (mA fTup (aCons (mA (fS 2 m_law_draw) (aCons (mVar 1) (aCons (mC (.int 5)) aNil))) (aCons (mMe "str" fJoin (mC (.str "")) (aCons (mLc (mSrc (mC (.str "blnr"))) (gN 11) (m2 fEq (mA (fS 2 m_law_draw) (aCons (mVar 1) (aCons (mC (.int 2)) aNil))) (mC (.int 0))) (mVar 11) [11]) aNil)) aNil))) (gT 2 (gsCons (gN 7) (gsCons (gN 3) gsNil))))
    (mSq (mSet 3 (mIf (m2 fNe (mVar 3) (mC (.str ""))) (mVar 3) (mA (fS 2 m_law_of) (aCons (mVar 1) (aCons (mC (.str "blnr")) aNil)))))
    (mSq (mSet 4 (mLc (mSrc (mA (fP 1 m_law_all_rows) (aCons (mVar 7) aNil))) (gN 10) (mTru (mA fAll (aCons (mLc (mSrc (mVar 10)) (gN 11) (mC (.bl true)) (m2 (fIn false) (mVar 11) (mVar 3)) [11]) aNil))) (mVar 10) [10]))
    (mSq (mSet 5 (mLcG (mKwO 1 1 [0, 1] (List.map Prod.snd ([] : List (Str × T))) (gFs 2 nsL m_rows) (aCons (mVar 7) aNil) (aCons (mVar 3) aNil))))
    (mSq (mIfS (mOr (mNot (mTru (mA (fP 2 (m_law_alike 8)) (aCons (mVar 5) (aCons (mVar 4) aNil))))) (m2 fNe (mVar 5) (mLcG (mKwO 0 2 [1, 0] (List.map Prod.snd ([] : List (Str × T))) (gFs 2 nsL m_rows) aNil (aCons (mVar 3) (aCons (mVar 7) aNil)))))) (mSq (mRetF (mC (.bl false)))
    mNx) mNx)
    (mSq (mAs (mA fTup (aCons (mA (fS 2 m_law_of) (aCons (mVar 1) (aCons (mA fLst (aCons (m1 fNeg (mC (.int 1))) (aCons (mC (.int 7)) (aCons (mC .non) (aCons (mC (.bl true)) (aCons (mC (.str "2")) aNil)))))) aNil))) (aCons (mA (fS 2 m_law_of) (aCons (mVar 1) (aCons (mA fLst (aCons (mC (.str "")) (aCons (mC (.str "lb")) (aCons (mC (.str "bb")) (aCons (mC (.str "a")) (aCons (mC .non) (aCons (mC (.int 3)) (aCons (mA fLst (aCons (mC (.str "b")) aNil)) aNil)))))))) aNil))) aNil))) (gT 2 (gsCons (gN 8) (gsCons (gN 9) gsNil))))
    (mSq (mSet 6 (mA fLstN (aCons (mLam 0 LI_0 (C_law L) P) (aCons (mLam 1 LI_1 (C_law L) P) aNil))))
    (mSq (mEx (mMe "list" fAppend (mVar 6) (aCons (mLam 2 LI_2 (C_law L) P) aNil)))
    (mFz 6 (mSq (mIfS (mNot (mTru (mA (fP 2 (m_law_alike 8)) (aCons (mLend m_law_whys 1 (C_law L) ix_law (aCons (mVar 6) aNil)) (aCons (mA fLst (aCons (mA fTup (aCons (mC (.str "InvalidCount")) (aCons (mVar 8) aNil))) (aCons (mA fTup (aCons (mC (.str "InvalidSign")) (aCons (mVar 9) aNil))) (aCons (mA fTup (aCons (mC (.str "")) (aCons (mA fLst aNil) aNil))) aNil)))) aNil))))) (mSq (mRetF (mC (.bl false)))
    mNx) mNx)
    mNx)))))))))))
    (mFz 1 (mSq (mIfS (mOr (m2 fNe (mA fLen (aCons (mLcG (mKwO 1 0 [0, 1] (List.map Prod.snd ([("signs", .str "blnr")] : List (Str × T))) (gFs 2 nsL m_rows) (aCons (mC (.int 6)) aNil) aNil)) aNil)) (mC (.int 4096))) (m2 fNe (mLcG (mKwO 1 0 [0, 1] (List.map Prod.snd ([("signs", .str "blnr")] : List (Str × T))) (gFs 2 nsL m_rows) (aCons (mC (.int 0)) aNil) aNil)) (mA fLst (aCons (mC (.str "")) aNil)))) (mSq (mRetF (mC (.bl false)))
    mNx) mNx)
    (mSq (mRetF (m2 fEq (mLcG (mKwO 1 0 [0, 1] (List.map Prod.snd ([("signs", .str "blnr")] : List (Str × T))) (gFs 2 nsL m_rows) (aCons (mC (.int 2)) aNil) aNil)) (mA (fP 1 m_law_all_rows) (aCons (mC (.int 2)) aNil))))
    mNx))))))
abbrev FunAt (K : PySem.W.Frag) (mg : Str → Option Value) (x : Str) (st : Stmt) : Prop := ∃ (f : Addr) (fd : FuncData), FunD K x x (defArgs st) (defBody st) (defScope st) [] [] f fd ∧ mg x = some (.ref f)
structure Env (P : Program) (w : World) (base : Heap) (K : PySem.W.Frag) (mg : Str → Option Value) : Prop where
  f_all : mg "all" = none
  f_bool : mg "bool" = none
  f_int : mg "int" = none
  f_isinstance : mg "isinstance" = none
  f_len : mg "len" = none
  f_list : mg "list" = none
  f_range : mg "range" = none
  f_str : mg "str" = none
  f_tuple : mg "tuple" = none
  f_zip : mg "zip" = none
  d__law_alike : FunAt K mg "_law_alike" s__law_alike
  d__law_all_rows : FunAt K mg "_law_all_rows" s__law_all_rows
  d__law_bag : FunAt K mg "_law_bag" s__law_bag
  d__law_draw : FunAt K mg "_law_draw" s__law_draw
  d__law_of : FunAt K mg "_law_of" s__law_of
  d__law_field : FunAt K mg "_law_field" s__law_field
  d_is_row : FunAt K mg "is_row" s_is_row
  d_rising : FunAt K mg "rising" s_rising
  d_are_signs : FunAt K mg "are_signs" s_are_signs
  d_is_number : FunAt K mg "is_number" s_is_number
  d_is_within : FunAt K mg "is_within" s_is_within
  d_rows : FunO K mg "rows" "rows" s_rows [("signs", .str "blnr")]
  d__law_why : FunAt K mg "_law_why" s__law_why
  d__law_whys : FunAt K mg "_law_whys" s__law_whys
  d_law : FunAt K mg "law" s_law
  g_MOST_ROUNDS : ∃ (v : V) (u : Value), mg "MOST_ROUNDS" = some u ∧ RelV v u ∧ ∀ g, Rep K mg g t_MOST_ROUNDS v
  g_SIGNS : ∃ (v : V) (u : Value), mg "SIGNS" = some u ∧ RelV v u ∧ ∀ g, Rep K mg g t_SIGNS v
  x_InvalidCount : HasE1 P w K mg base 1 "InvalidCount" "InvalidCount" "given"
  x_InvalidSign : HasE1 P w K mg base 1 "InvalidSign" "InvalidSign" "given"
  xf_given : FldX K mg xs_given "given"
  xf_tag : FldX K mg xs_tag "tag"
  c_PostError : mg "PostError" = some (.ref (He.ga K "PostError"))
  c_Missing : mg "Missing" = some (.ref (He.ga K "Missing"))
  c_NothingLeft : mg "NothingLeft" = some (.ref (He.ga K "NothingLeft"))
  ex3 : Exm3 K mg "PostError" "Missing" "NothingLeft" ct_why
  cl : ∀ f, mg "law" = some (.ref f) → CodeAt K f (He.cT K ("law", none)).1
  nst : NoSt K mg nsL
section
variable {P : Program} {w : World} {K : PySem.W.Frag} {mg : Str → Option Value} {base : Heap}
theorem ok__law_alike (Y : Env P w base K mg) (n : Nat) : Has P w K mg base (1 + n) "_law_alike" "_law_alike" s__law_alike ["_law_found", "_law_due"] (m_law_alike n) := by
  induction n with
  | zero =>
    obtain ⟨f, fd, F, hm⟩ := Y.d__law_alike
    exact ⟨f, fd, F, hm, fnOk_stuck F sc__law_alike⟩
  | succ n ih =>
    obtain ⟨f, fd, F, hm⟩ := Y.d__law_alike
    refine ⟨f, fd, F, hm, def_ok2 F sc__law_alike rfl fun cdv A outer s H E hr tk po => ?_⟩
    have nd := sc__law_alike.nd
    exact (sss_cons (ss_if (sw_st (sw_or (st_cmp op_isV mIsV blIs (se_var (i := 1)) se_non (nomark _)) (sw_or1 (st_cmp op_isV mIsV blIs (se_var (i := 0)) se_non (nomark _))))) (sss_cons (ss_retF (se_and (se_cmp op_isV mIsV (se_var (i := 1)) se_non (nomark _)) (se_one (se_cmp op_isV mIsV (se_var (i := 0)) se_non (nomark _)))))
      sss_nil) sss_nil)
      (sss_cons (ss_for po rfl (si_src (se_tup (sa_cons se_int (sa_cons se_int (sa_cons se_int sa_nil))))) (sg_name (i := 2) nd) (sss_cons (ss_if (sw_st (sw_and (st_cmp (op_eqA hr.units) mEqV blEq (se_var (i := 2)) se_int (nomark _)) (sw_and1 (sw_st (sw_or (st_val (se_isi .bl Y.f_isinstance Y.f_bool (se_var (i := 1)))) (sw_or1 (st_val (se_isi .bl Y.f_isinstance Y.f_bool (se_var (i := 0)))))))))) (sss_cons (ss_retF (se_and (se_isi .bl Y.f_isinstance Y.f_bool (se_var (i := 1))) (se_and (se_isi .bl Y.f_isinstance Y.f_bool (se_var (i := 0))) (se_one (se_cmp (op_eqA hr.units) mEqV (se_var (i := 0)) (se_var (i := 1)) (nomark _))))))
      sss_nil) sss_nil)
      (sss_cons (ss_if (sw_st (sw_and (st_cmp (op_eqA hr.units) mEqV blEq (se_var (i := 2)) se_int (nomark _)) (sw_and1 (sw_st (sw_or (st_val (se_isi .str Y.f_isinstance Y.f_str (se_var (i := 1)))) (sw_or1 (st_val (se_isi .str Y.f_isinstance Y.f_str (se_var (i := 0)))))))))) (sss_cons (ss_retF (se_and (se_isi .str Y.f_isinstance Y.f_str (se_var (i := 1))) (se_and (se_isi .str Y.f_isinstance Y.f_str (se_var (i := 0))) (se_one (se_cmp (op_eqA hr.units) mEqV (se_var (i := 0)) (se_var (i := 1)) (nomark _))))))
      sss_nil) sss_nil)
      (sss_cons (ss_if (sw_st (sw_and (st_cmp (op_eqA hr.units) mEqV blEq (se_var (i := 2)) se_int (nomark _)) (sw_and1 (sw_st (sw_or (st_val (se_isi .int Y.f_isinstance Y.f_int (se_var (i := 1)))) (sw_or1 (st_val (se_isi .int Y.f_isinstance Y.f_int (se_var (i := 0)))))))))) (sss_cons (ss_retF (se_and (se_isi .int Y.f_isinstance Y.f_int (se_var (i := 1))) (se_and (se_isi .int Y.f_isinstance Y.f_int (se_var (i := 0))) (se_one (se_cmp (op_eqA hr.units) mEqV (se_var (i := 0)) (se_var (i := 1)) (nomark _))))))
      sss_nil) sss_nil)
      sss_nil))))
      (sss_cons (ss_if (sw_st (sw_or (st_cmp (op_neA hr.units) mNeV blNe (se_isi .tup Y.f_isinstance Y.f_tuple (se_var (i := 1))) (se_isi .tup Y.f_isinstance Y.f_tuple (se_var (i := 0))) (nomark _)) (sw_or1 (st_cmp (op_neA hr.units) mNeV blNe (se_isi .lst Y.f_isinstance Y.f_list (se_var (i := 1))) (se_isi .lst Y.f_isinstance Y.f_list (se_var (i := 0))) (nomark _))))) (sss_cons (ss_retF se_bl)
      sss_nil) sss_nil)
      (sss_cons (ss_retF (se_and (se_cmp (op_eqA hr.units) mEqV (se_callB call_lenAll mLen Y.f_len (sa_cons (se_var (i := 0)) sa_nil)) (se_callB call_lenAll mLen Y.f_len (sa_cons (se_var (i := 1)) sa_nil)) (nomark _)) (se_one (se_callB (cr_all rfl) mAll Y.f_all (sa_cons (se_lc (own := [("_law_one", 3), ("_law_two", 4)]) rfl nd (si_zip Y.f_zip (sa_cons (se_var (i := 0)) (sa_cons (se_var (i := 1)) sa_nil))) (blkOk_at (N := N__law_alike) (sc := (defScope s__law_alike)) rfl rfl (by decide +kernel)) rfl (fun _ _ _ _ _ => (sg_tup rfl (sgs_cons (sg_name (i := 3) nd) (sgs_cons (sg_name (i := 4) nd) sgs_nil)))) (fun _ _ _ _ _ => sts_nil) (fun _ _ _ _ _ => (se_hcall ih hr takes0 calls_pu b__law_alike (sa_cons (se_var (i := 3)) (sa_cons (se_var (i := 4)) sa_nil))))) sa_nil)))))
      sss_nil))))
theorem ok__law_all_rows (Y : Env P w base K mg) : Has P w K mg base 1 "_law_all_rows" "_law_all_rows" s__law_all_rows ["_law_my_count"] m_law_all_rows := by
  obtain ⟨f, fd, F, hm⟩ := Y.d__law_all_rows
  refine ⟨f, fd, F, hm, def_ok2 (k := 0) F sc__law_all_rows rfl fun cdv A outer s H E hr tk po => ?_⟩
  have nd := sc__law_all_rows.nd
  exact (sss_cons (ss_set (i := 1) nd (se_lst (sa_cons se_str sa_nil)))
    (sss_cons (ss_for po rfl (si_range1 Y.f_range (sa_cons (se_var (i := 0)) sa_nil)) (sg_name (i := 2) nd) (sss_cons (ss_set (i := 3) nd (se_lst sa_nil))
    (sss_cons (ss_for po rfl (si_src (se_var (i := 1))) (sg_name (i := 4) nd) (sss_cons (ss_set (i := 3) nd (se_op op_addV mAddV (se_var (i := 3)) (se_lc (own := [("_law_sign", 5)]) rfl nd (si_src se_str) (blkOk_at (N := N__law_all_rows) (sc := (defScope s__law_all_rows)) rfl rfl (by decide +kernel)) rfl (fun _ _ _ _ _ => (sg_name (i := 5) nd)) (fun _ _ _ _ _ => sts_nil) (fun _ _ _ _ _ => (se_op op_addV mAddV (se_var (i := 4)) (se_var (i := 5)))))))
    sss_nil))
    (sss_cons (ss_set (i := 1) nd (se_var (i := 3)))
    sss_nil))))
    (sss_cons (ss_retF (se_var (i := 1)))
    sss_nil)))
theorem ok__law_bag (Y : Env P w base K mg) : Has P w K mg base 1 "_law_bag" "_law_bag" s__law_bag ["_law_script"] m_law_bag := by
  obtain ⟨f, fd, F, hm⟩ := Y.d__law_bag
  refine ⟨f, fd, F, hm, def_ok2 (k := 0) F sc__law_bag rfl fun cdv A outer s H E hr tk po => ?_⟩
  have nd := sc__law_bag.nd
  exact (sss_cons (ss_set (i := 1) nd (se_callTy call_list_of mList Y.f_list (sa_cons (se_slice (se_var (i := 0)) so_none (so_some se_int) part_none part_some) sa_nil)))
    (sss_cons (ss_set (i := 2) nd (se_op op_addV mAddV se_int (se_op op_mulV mMulV se_int (se_callB call_lenAll mLen Y.f_len (sa_cons (se_var (i := 1)) sa_nil)))))
    (sss_cons (ss_for po rfl (si_src (se_var (i := 1))) (sg_name (i := 3) nd) (sss_cons (ss_set (i := 2) nd (se_op op_mod mModV (se_callTy call_intAll mInt Y.f_int (sa_cons (se_op op_addV mAddV (se_op op_addV mAddV (se_op op_mulV mMulV (se_var (i := 2)) se_int) (se_op op_mod mModV (se_callTy call_intAll mInt Y.f_int (sa_cons (se_var (i := 3)) sa_nil)) se_int)) se_int) sa_nil)) se_int))
    sss_nil))
    (sss_cons (ss_ret (se_lstN (sa_cons (se_var (i := 1)) (sa_cons se_int (sa_cons se_int (sa_cons (se_var (i := 2)) sa_nil))))))
    sss_nil))))
theorem ok__law_draw (Y : Env P w base K mg) : Has P w K mg base 1 "_law_draw" "_law_draw" s__law_draw ["_law_bag_here", "_law_many"] m_law_draw := by
  obtain ⟨f, fd, F, hm⟩ := Y.d__law_draw
  refine ⟨f, fd, F, hm, def_ok2 (k := 0) F sc__law_draw rfl fun cdv A outer s H E hr tk po => ?_⟩
  have nd := sc__law_draw.nd
  exact (sss_cons (ss_if (sw_st (sw_and (st_cmp (op_eqA hr.units) mEqV blEq (se_ix (se_var (i := 0)) se_int) se_int (nomark _)) (sw_and1 (st_cmp op_ltV mLtV blLt (se_ix (se_var (i := 0)) se_int) (se_callB call_lenAll mLen Y.f_len (sa_cons (se_ix (se_var (i := 0)) se_int) sa_nil)) (nomark _))))) (sss_cons (ss_set (i := 2) nd (se_ix (se_ix (se_var (i := 0)) se_int) (se_ix (se_var (i := 0)) se_int)))
    (sss_cons (ss_asg (se_op op_addV mAddV (se_ix (se_var (i := 0)) se_int) se_int) (sg_sub (se_var (i := 0)) se_int))
    (sss_cons (ss_if (st_cmp op_geV mGeV blGe (se_var (i := 2)) (se_op op_pow mPowV se_int se_int) (nomark _)) (sss_cons (ss_asg (se_var (i := 2)) (sg_sub (se_var (i := 0)) se_int))
    sss_nil) (sss_cons (ss_set (i := 4) nd (se_op op_addV mAddV (se_op op_mulV mMulV (se_ix (se_var (i := 0)) se_int) se_int) (se_op op_mod mModV (se_callTy call_intAll mInt Y.f_int (sa_cons (se_var (i := 2)) sa_nil)) se_int)))
    (sss_cons (ss_asg (se_op op_mod mModV (se_callTy call_intAll mInt Y.f_int (sa_cons (se_op op_addV mAddV (se_var (i := 4)) (se_ix (se_var (i := 0)) se_int)) sa_nil)) se_int) (sg_sub (se_var (i := 0)) se_int))
    sss_nil)))
    sss_nil))) sss_nil)
    (sss_cons (ss_if (st_cmp op_gtV mGtV blGt (se_ix (se_var (i := 0)) se_int) se_int (nomark _)) (sss_cons (ss_set (i := 3) nd (se_op op_mod mModV (se_callTy call_intAll mInt Y.f_int (sa_cons (se_ix (se_var (i := 0)) se_int) sa_nil)) (se_var (i := 1))))
    (sss_cons (ss_asg (se_op op_fdiv mFdivV (se_ix (se_var (i := 0)) se_int) (se_var (i := 1))) (sg_sub (se_var (i := 0)) se_int))
    (sss_cons (ss_retF (se_var (i := 3)))
    sss_nil))) sss_nil)
    (sss_cons (ss_asg (se_op op_mod mModV (se_callTy call_intAll mInt Y.f_int (sa_cons (se_op op_addV mAddV (se_op op_mulV mMulV (se_ix (se_var (i := 0)) se_int) se_int) se_int) sa_nil)) se_int) (sg_sub (se_var (i := 0)) se_int))
    (sss_cons (ss_retF (se_op op_mod mModV (se_callTy call_intAll mInt Y.f_int (sa_cons (se_op op_fdiv mFdivV (se_op op_mod mModV (se_callTy call_intAll mInt Y.f_int (sa_cons (se_op op_mulV mMulV (se_ix (se_var (i := 0)) se_int) (se_ix (se_var (i := 0)) se_int)) sa_nil)) se_int) se_int) sa_nil)) (se_var (i := 1))))
    sss_nil))))
theorem ok__law_of (Y : Env P w base K mg) : Has P w K mg base 2 "_law_of" "_law_of" s__law_of ["_law_bag_here", "_law_things"] m_law_of := by
  have H__law_draw := (ok__law_draw (P := P) (w := w) (base := base) Y).up (k := 1) (by omega)
  obtain ⟨f, fd, F, hm⟩ := Y.d__law_of
  refine ⟨f, fd, F, hm, def_ok2 (k := 1) F sc__law_of rfl fun cdv A outer s H E hr tk po => ?_⟩
  have nd := sc__law_of.nd
  exact (sss_cons (ss_retF (se_ix (se_var (i := 1)) (se_hcall H__law_draw hr tk calls_st b__law_draw (sa_cons (se_var (i := 0)) (sa_cons (se_callB call_lenAll mLen Y.f_len (sa_cons (se_var (i := 1)) sa_nil)) sa_nil)))))
    sss_nil)
theorem okN__law_field (Y : Env P w base K mg) : HasN P w K mg base 1 "_law_field" "_law_field" s__law_field ["_law_e"] m_law_field := by
  obtain ⟨f, fd, F, hm⟩ := Y.d__law_field
  refine ⟨f, fd, F, hm, def_okN (k := 0) F sc__law_field rfl fun cdv A outer s H E hr => ?_⟩
  have nd := sc__law_field.nd
  exact (sss_cons (ss_if (st_cmp (op_inV (hu65N hr)) mInV blIn (se_fldX Y.xf_tag (se_var (i := 0))) (se_lst (sa_cons se_str (sa_cons se_str sa_nil))) (by with_unfolding_all rfl)) (sss_cons (ss_retF se_stk)
    sss_nil) sss_nil)
    (sss_cons (ss_if (st_cmp (op_inV (hu65N hr)) mInV blIn (se_fldX Y.xf_tag (se_var (i := 0))) (se_lst (sa_cons se_str (sa_cons se_str sa_nil))) (by with_unfolding_all rfl)) (sss_cons (ss_retF se_stk)
    sss_nil) sss_nil)
    (sss_cons (ss_if (st_cmp (op_eqA (unN hr)) mEqV blEq (se_fldX Y.xf_tag (se_var (i := 0))) se_str (nomark _)) (sss_cons (ss_retF se_stk)
    sss_nil) sss_nil)
    (sss_cons (ss_if (st_cmp (op_inV (hu65N hr)) mInV blIn (se_fldX Y.xf_tag (se_var (i := 0))) (se_lst (sa_cons se_str (sa_cons se_str (sa_cons se_str (sa_cons se_str sa_nil))))) (by with_unfolding_all rfl)) (sss_cons (ss_retF se_stk)
    sss_nil) sss_nil)
    (sss_cons (ss_if (st_cmp (op_eqA (unN hr)) mEqV blEq (se_fldX Y.xf_tag (se_var (i := 0))) se_str (nomark _)) (sss_cons (ss_retF se_stk)
    sss_nil) sss_nil)
    (sss_cons (ss_if (st_cmp (op_eqA (unN hr)) mEqV blEq (se_fldX Y.xf_tag (se_var (i := 0))) se_str (nomark _)) (sss_cons (ss_retF se_stk)
    sss_nil) sss_nil)
    (sss_cons (ss_if (st_cmp (op_eqA (unN hr)) mEqV blEq (se_fldX Y.xf_tag (se_var (i := 0))) se_str (nomark _)) (sss_cons (ss_retF se_stk)
    sss_nil) sss_nil)
    (sss_cons (ss_set (i := 1) nd (se_lst (sa_cons se_str (sa_cons se_str (sa_cons se_str (sa_cons se_str (sa_cons se_str (sa_cons se_str (sa_cons se_str (sa_cons se_str sa_nil))))))))))
    (sss_cons (ss_retF (se_if (st_cmp (op_inV (hu65N hr)) mInV blIn (se_fldX Y.xf_tag (se_var (i := 0))) (se_var (i := 1)) (by with_unfolding_all rfl)) se_non (se_fldX Y.xf_given (se_var (i := 0)))))
    sss_nil)))))))))
theorem ok_is_row (Y : Env P w base K mg) : Has P w K mg base 1 "is_row" "is_row" s_is_row ["value"] m_is_row := by
  obtain ⟨v_SIGNS, u_SIGNS, h_SIGNS⟩ := Y.g_SIGNS
  obtain ⟨f, fd, F, hm⟩ := Y.d_is_row
  refine ⟨f, fd, F, hm, def_ok2 (k := 0) F sc_is_row rfl fun cdv A outer s H E hr tk po => ?_⟩
  have nd := sc_is_row.nd
  exact (sss_cons (ss_retF (se_and (se_isi .str Y.f_isinstance Y.f_str (se_var (i := 0))) (se_one (se_callB (cr_all rfl) mAll Y.f_all (sa_cons (se_lc (own := [("sign", 1)]) rfl nd (si_src (se_var (i := 0))) (blkOk_at (N := N_is_row) (sc := (defScope s_is_row)) rfl rfl (by decide +kernel)) rfl (fun _ _ _ _ _ => (sg_name (i := 1) nd)) (fun _ _ _ _ _ => sts_nil) (fun _ _ _ _ _ => (se_cmp (op_inV (hu65 hr)) mInV (se_var (i := 1)) (se_glob h_SIGNS.1 h_SIGNS.2.1 h_SIGNS.2.2) (by with_unfolding_all rfl)))) sa_nil)))))
    sss_nil)
theorem ok_rising (Y : Env P w base K mg) : Has P w K mg base 1 "rising" "rising" s_rising ["items"] m_rising := by
  obtain ⟨f, fd, F, hm⟩ := Y.d_rising
  refine ⟨f, fd, F, hm, def_ok2 (k := 0) F sc_rising rfl fun cdv A outer s H E hr tk po => ?_⟩
  have nd := sc_rising.nd
  exact (sss_cons (ss_retF (se_callB (cr_all rfl) mAll Y.f_all (sa_cons (se_lc (own := [("one", 1), ("other", 2)]) rfl nd (si_zip Y.f_zip (sa_cons (se_var (i := 0)) (sa_cons (se_slice (se_var (i := 0)) (so_some se_int) so_none part_some part_none) sa_nil))) (blkOk_at (N := N_rising) (sc := (defScope s_rising)) rfl rfl (by decide +kernel)) rfl (fun _ _ _ _ _ => (sg_tup rfl (sgs_cons (sg_name (i := 1) nd) (sgs_cons (sg_name (i := 2) nd) sgs_nil)))) (fun _ _ _ _ _ => sts_nil) (fun _ _ _ _ _ => (se_cmp (op_ltA (hu0 hr)) mLtA (se_var (i := 1)) (se_var (i := 2)) (nomark _)))) sa_nil)))
    sss_nil)
theorem ok_are_signs (Y : Env P w base K mg) : Has P w K mg base 2 "are_signs" "are_signs" s_are_signs ["value"] m_are_signs := by
  have H_is_row := (ok_is_row (P := P) (w := w) (base := base) Y).up (k := 1) (by omega)
  have H_rising := (ok_rising (P := P) (w := w) (base := base) Y).up (k := 1) (by omega)
  obtain ⟨f, fd, F, hm⟩ := Y.d_are_signs
  refine ⟨f, fd, F, hm, def_ok2 (k := 1) F sc_are_signs rfl fun cdv A outer s H E hr tk po => ?_⟩
  have nd := sc_are_signs.nd
  exact (sss_cons (ss_retF (se_and (se_hcall H_is_row hr tk calls_pu b_is_row (sa_cons (se_var (i := 0)) sa_nil)) (se_and (se_cmp (op_neA hr.units) mNeV (se_var (i := 0)) se_str (nomark _)) (se_one (se_hcall H_rising hr tk calls_pu b_rising (sa_cons (se_var (i := 0)) sa_nil))))))
    sss_nil)
theorem ok_is_number (Y : Env P w base K mg) : Has P w K mg base 1 "is_number" "is_number" s_is_number ["value"] m_is_number := by
  obtain ⟨f, fd, F, hm⟩ := Y.d_is_number
  refine ⟨f, fd, F, hm, def_ok2 (k := 0) F sc_is_number rfl fun cdv A outer s H E hr tk po => ?_⟩
  have nd := sc_is_number.nd
  exact (sss_cons (ss_retF (se_and (se_isi .int Y.f_isinstance Y.f_int (se_var (i := 0))) (se_one (se_not (se_isi .bl Y.f_isinstance Y.f_bool (se_var (i := 0)))))))
    sss_nil)
theorem ok_is_within (Y : Env P w base K mg) : Has P w K mg base 2 "is_within" "is_within" s_is_within ["value", "least", "most"] m_is_within := by
  have H_is_number := (ok_is_number (P := P) (w := w) (base := base) Y).up (k := 1) (by omega)
  obtain ⟨f, fd, F, hm⟩ := Y.d_is_within
  refine ⟨f, fd, F, hm, def_ok2 (k := 1) F sc_is_within rfl fun cdv A outer s H E hr tk po => ?_⟩
  have nd := sc_is_within.nd
  exact (sss_cons (ss_retF (se_and (se_hcall H_is_number hr tk calls_pu b_is_number (sa_cons (se_var (i := 0)) sa_nil)) (se_one (se_chain op_leV mLeV blLe op_leV mLeV (se_var (i := 1)) (se_var (i := 0)) (se_var (i := 2))))))
    sss_nil)
theorem ok_rows (Y : Env P w base K mg) : HasGO P w K mg base 3 "rows" "rows" s_rows ["count", "signs"] [("signs", .str "blnr")] m_rows := by
  obtain ⟨v_MOST_ROUNDS, u_MOST_ROUNDS, h_MOST_ROUNDS⟩ := Y.g_MOST_ROUNDS
  have X_InvalidCount := Y.x_InvalidCount.up (k := 2 - 1) (by omega)
  have X_InvalidSign := Y.x_InvalidSign.up (k := 2 - 1) (by omega)
  have H_are_signs := (ok_are_signs (P := P) (w := w) (base := base) Y).up (k := 2) (by omega)
  have H_is_within := (ok_is_within (P := P) (w := w) (base := base) Y).up (k := 2) (by omega)
  obtain ⟨f, fd, kvs, hm, F, kn, kr, ne⟩ := Y.d_rows
  refine ⟨f, fd, kvs, hm, F, kn, kr, ne, gdef_ok (k := 2) F sc_rows rfl fun cdv A outer s H E pn hr tk0 po0 => ?_⟩
  have nd := sc_rows.nd
  exact (gms_cons (gm_pl fun ps_ => have tk := tk0 ps_; have po := po0 ps_; (ss_if (st_not (st_val (se_hcall H_is_within hr tk calls_pu b_is_within (sa_cons (se_var (i := 0)) (sa_cons se_int (sa_cons (se_glob h_MOST_ROUNDS.1 h_MOST_ROUNDS.2.1 h_MOST_ROUNDS.2.2) sa_nil)))))) (sss_cons (ss_raise1 X_InvalidCount hr rfl tk (se_var (i := 0)))
    sss_nil) sss_nil))
    (gms_cons (gm_pl fun ps_ => have tk := tk0 ps_; have po := po0 ps_; (ss_if (st_not (st_val (se_hcall H_are_signs hr tk calls_pu b_are_signs (sa_cons (se_var (i := 1)) sa_nil)))) (sss_cons (ss_raise1 X_InvalidSign hr rfl tk (se_var (i := 1)))
    sss_nil) sss_nil))
    (gms_cons (gm_pl fun ps_ => have tk := tk0 ps_; have po := po0 ps_; (ss_set (i := 2) nd (se_lst (sa_cons se_str sa_nil))))
    (gms_cons (gm_pl fun ps_ => have tk := tk0 ps_; have po := po0 ps_; (ss_for po rfl (si_range1 Y.f_range (sa_cons (se_var (i := 0)) sa_nil)) (sg_name (i := 3) nd) (sss_cons (ss_setLc2 (own := [("row", 4), ("sign", 5)]) (vs1 := [5]) (i := 2) rfl nd (si_src (se_var (i := 2))) (blkOk_at (N := N_rows) (sc := (defScope s_rows)) rfl rfl (by decide +kernel)) rfl rfl rfl (fun _ _ _ _ _ => (sg_name (i := 4) nd)) (fun _ _ _ _ _ => sts_nil) (fun _ _ _ _ _ => (si_src (se_var (i := 1)))) (fun _ _ _ _ _ => (sg_name (i := 5) nd)) (fun _ _ _ _ _ => sts_nil) (fun _ _ _ _ _ => (se_op op_addV mAddV (se_var (i := 4)) (se_var (i := 5)))) (by rfl))
    sss_nil)))
    (gms_cons (gm_for po0 rfl (fun ps_ => have tk := tk0 ps_; have po := po0 ps_; (si_src (se_var (i := 2)))) (fun ps_ => have tk := tk0 ps_; have po := po0 ps_; (sg_name (i := 4) nd)) (gms_cons (gm_yield fun ps_ => have tk := tk0 ps_; have po := po0 ps_; (se_var (i := 4)))
    gms_nil))
    gms_nil)))))
theorem ok_lam_0 (Y : Env P w base K mg) : LOk P w K mg base 7 LE_0 := by
  have S_rows := (ok_rows (P := P) (w := w) (base := base) Y).up (k := 6 - 2) (by omega)
  refine lok_of (k := 6) (N := N_lam_0) (ps := []) (np := 0) (me := ml_0) (NdefX.nscope_by (show NdefX.nscB N_lam_0 [] ["_law_odd", "_law_bad"] LI_0.scope = true by decide +kernel)) rfl (.inl ⟨rfl, rfl, fun _ _ _ _ => rfl⟩) rfl fun f c1 C A outer s H E hr tk => ?_
  have nd : (N_lam_0).Nodup := by decide +kernel
  exact (se_lcG (own := [("_law_row", 2)]) rfl rfl tk (pgc_hkO (ks := ["signs"]) (is := [0, 1]) (L := nsL) (mf := m_rows) (ps := ["count", "signs"]) (kdts := [("signs", .str "blnr")]) (n := 1) (ms := []) S_rows (hr.mono (by omega)) Y.nst (.inr rfl) bo_rows_1_signs (sa_cons (se_var (i := 0)) sa_nil) (sk_cons (se_var (i := 1)) sk_nil)) (hr.mono (by omega)) (blkOk_at (N := N_lam_0) (sc := LI_0.scope) rfl rfl (by decide +kernel)))
theorem ok_lam_1 (Y : Env P w base K mg) : LOk P w K mg base 7 LE_1 := by
  have S_rows := (ok_rows (P := P) (w := w) (base := base) Y).up (k := 6 - 2) (by omega)
  refine lok_of (k := 6) (N := N_lam_1) (ps := ["_law_a"]) (np := 1) (me := ml_1) (NdefX.nscope_by (show NdefX.nscB N_lam_1 ["_law_a"] ["_law_bad"] LI_1.scope = true by decide +kernel)) rfl (.inr ⟨rfl, "_law_a", rfl, fun _ _ _ _ _ _ => ⟨_, rfl, rfl⟩⟩) rfl fun f c1 C A outer s H E hr tk => ?_
  have nd : (N_lam_1).Nodup := by decide +kernel
  exact (se_lcG (own := [("_law_row", 2)]) rfl rfl tk (pgc_hkO (ks := ["signs"]) (is := [0, 1]) (L := nsL) (mf := m_rows) (ps := ["count", "signs"]) (kdts := [("signs", .str "blnr")]) (n := 1) (ms := []) S_rows (hr.mono (by omega)) Y.nst (.inr rfl) bo_rows_1_signs (sa_cons se_int sa_nil) (sk_cons (se_var (i := 1)) sk_nil)) (hr.mono (by omega)) (blkOk_at (N := N_lam_1) (sc := LI_1.scope) rfl rfl (by decide +kernel)))
theorem ok_lam_2 (Y : Env P w base K mg) : LOk P w K mg base 7 LE_2 := by
  have S_rows := (ok_rows (P := P) (w := w) (base := base) Y).up (k := 6 - 2) (by omega)
  refine lok_of (k := 6) (N := N_lam_2) (ps := []) (np := 0) (me := ml_2) (NdefX.nscope_by (show NdefX.nscB N_lam_2 [] ["_law_odd", "_law_bad"] LI_2.scope = true by decide +kernel)) rfl (.inl ⟨rfl, rfl, fun _ _ _ _ => rfl⟩) rfl fun f c1 C A outer s H E hr tk => ?_
  have nd : (N_lam_2).Nodup := by decide +kernel
  exact (se_lz rfl Y.f_list Y.f_zip (pg0_hkO N_rows sc_rows (ms := []) S_rows (hr.mono (by omega)) (.inr rfl) bo_rows_1_signs (sa_cons (se_var (i := 0)) sa_nil) (sk_cons (se_var (i := 1)) sk_nil)))
theorem ok__law_why (Y : Env P w base K mg) : Has P w K mg base 8 "_law_why" "_law_why" s__law_why ["_law_ask"] m_law_why := by
  have N__law_field_ok := (okN__law_field (P := P) (w := w) (base := base) Y).up (k := 7) (by omega)
  have T_lam : ∀ e ∈ tabL, LOk P w K mg base 7 e := by
    unfold tabL
    simp only [List.forall_mem_cons]
    exact ⟨(ok_lam_0 (P := P) (w := w) (base := base) Y).up (by omega), (ok_lam_1 (P := P) (w := w) (base := base) Y).up (by omega), (ok_lam_2 (P := P) (w := w) (base := base) Y).up (by omega), fun _ h => absurd h (by simp)⟩
  obtain ⟨f, fd, F, hm⟩ := Y.d__law_why
  refine ⟨f, fd, F, hm, def_ok2 (k := 7) F sc__law_why rfl fun cdv A outer s H E hr tk po => ?_⟩
  have nd := sc__law_why.nd
  exact (sss_cons (ss_try3 (i := 1) rfl rfl rfl nd rfl rfl Y.c_PostError Y.c_Missing Y.c_NothingLeft Y.ex3 tk (fun W pn xe tk => (sss_cons (ss_retF (se_tup (sa_cons se_str (sa_cons (se_act (i := 0) T_lam hr tk) sa_nil))))
    sss_nil)) (fun a pn => (sss_cons (ss_retF (se_tup (sa_cons (se_fldX Y.xf_tag (se_var (i := 1))) (sa_cons (se_ncall N__law_field_ok (roomN hr _) calls_pu b__law_field (sa_cons (se_var (i := 1)) sa_nil)) sa_nil))))
    sss_nil)))
    sss_nil)
theorem ok__law_whys (Y : Env P w base K mg) : Has P w K mg base 9 "_law_whys" "_law_whys" s__law_whys ["_law_asks"] m_law_whys := by
  have H__law_why := (ok__law_why (P := P) (w := w) (base := base) Y).up (k := 8) (by omega)
  obtain ⟨f, fd, F, hm⟩ := Y.d__law_whys
  refine ⟨f, fd, F, hm, def_ok2 (k := 8) F sc__law_whys rfl fun cdv A outer s H E hr tk po => ?_⟩
  have nd := sc__law_whys.nd
  exact (sss_cons (ss_retF (se_lc (own := [("_law_ask", 1)]) rfl nd (si_src (se_var (i := 0))) (blkOk_at (N := N__law_whys) (sc := (defScope s__law_whys)) rfl rfl (by decide +kernel)) rfl (fun _ _ _ _ _ => (sg_name (i := 1) nd)) (fun _ _ _ _ _ => sts_nil) (fun _ _ _ _ _ => (se_hcall H__law_why hr takes0 calls_st b__law_why (sa_cons (se_var (i := 1)) sa_nil)))))
    sss_nil)
theorem ok_law (Y : Env P w base K mg) (TB : LamX.TabB base mg (He.cT K ("law", none)).1 (He.cT K ("law", none)).2) : HasL P w K mg base 10 "law" "law" s_law ["_law_script"] (m_law (He.cT K ("law", none)).2) := by
  have H__law_alike := (ok__law_alike (P := P) (w := w) (base := base) Y 8).up (k := 9) (by omega)
  have H__law_all_rows := (ok__law_all_rows (P := P) (w := w) (base := base) Y).up (k := 9) (by omega)
  have H__law_bag := (ok__law_bag (P := P) (w := w) (base := base) Y).up (k := 9) (by omega)
  have H__law_draw := (ok__law_draw (P := P) (w := w) (base := base) Y).up (k := 9) (by omega)
  have H__law_of := (ok__law_of (P := P) (w := w) (base := base) Y).up (k := 9) (by omega)
  have H__law_whys := (ok__law_whys (P := P) (w := w) (base := base) Y).up (k := 9) (by omega)
  have S_rows := (ok_rows (P := P) (w := w) (base := base) Y).up (k := 9 - 2) (by omega)
  obtain ⟨f, fd, F, hm⟩ := Y.d_law
  refine ⟨f, fd, F, hm, def_okL (k := 9) F (Y.cl f hm) sc_law rfl fun A outer s H E hr tk po => ?_⟩
  have nd := sc_law.nd
  exact (sss_cons (ss_set (i := 1) nd (se_hcall H__law_bag hr tk calls_st b__law_bag (sa_cons (se_var (i := 0)) sa_nil)))
    (sss_cons (ss_for po rfl (si_range1 Y.f_range (sa_cons se_int sa_nil)) (sg_name (i := 2) nd) (sss_cons (ss_asg (se_tup (sa_cons (se_hcall H__law_draw hr tk calls_st b__law_draw (sa_cons (se_var (i := 1)) (sa_cons se_int sa_nil))) (sa_cons (se_bm PySem.F.plainAttrs_str PySem.F.slot_str_join PySem.F.type_str_join mt_join meJoin se_str (sa_cons (se_lc (own := [("_law_sign", 11)]) rfl nd (si_src se_str) (blkOk_at (N := N_law) (sc := (defScope s_law)) rfl rfl (by decide +kernel)) rfl (fun _ _ _ _ _ => (sg_name (i := 11) nd)) (fun _ _ _ _ _ => (sts_one (st_cmp (op_eqA hr.units) mEqV blEq (se_hcall H__law_draw hr takes0 calls_st b__law_draw (sa_cons (se_var (i := 1)) (sa_cons se_int sa_nil))) se_int (nomark _)))) (fun _ _ _ _ _ => (se_var (i := 11)))) sa_nil)) sa_nil))) (sg_tup rfl (sgs_cons (sg_name (i := 7) nd) (sgs_cons (sg_name (i := 3) nd) sgs_nil))))
    (sss_cons (ss_set (i := 3) nd (se_if (st_cmp (op_neA hr.units) mNeV blNe (se_var (i := 3)) se_str (nomark _)) (se_var (i := 3)) (se_hcall H__law_of hr tk calls_st b__law_of (sa_cons (se_var (i := 1)) (sa_cons se_str sa_nil)))))
    (sss_cons (ss_setLc (own := [("_law_row", 10)]) (i := 4) rfl nd (si_src (se_hcall H__law_all_rows hr tk calls_pu b__law_all_rows (sa_cons (se_var (i := 7)) sa_nil))) (blkOk_at (N := N_law) (sc := (defScope s_law)) rfl rfl (by decide +kernel)) rfl (fun _ _ _ _ _ => (sg_name (i := 10) nd)) (fun _ _ _ _ _ => (sts_one (st_val (se_callB (cr_all rfl) mAll Y.f_all (sa_cons (se_lc (own := [("_law_sign", 11)]) rfl nd (si_src (se_var (i := 10))) (blkOk_in (N := N_law) (sc := (defScope s_law)) rfl rfl (by decide +kernel)) rfl (fun _ _ _ _ _ => (sg_name (i := 11) nd)) (fun _ _ _ _ _ => sts_nil) (fun _ _ _ _ _ => (se_cmp (op_inV (hu65 hr)) mInV (se_var (i := 11)) (se_var (i := 3)) (by with_unfolding_all rfl)))) sa_nil))))) (fun _ _ _ _ _ => (se_var (i := 10))) (by rfl))
    (sss_cons (ss_setLcG (own := [("_law_row", 10)]) (i := 5) rfl rfl tk nd (pgc_hkO (ks := ["signs"]) (is := [0, 1]) (L := nsL) (mf := m_rows) (ps := ["count", "signs"]) (kdts := [("signs", .str "blnr")]) (n := 1) (ms := []) S_rows (hr.mono (by omega)) Y.nst (.inr rfl) bo_rows_1_signs (sa_cons (se_var (i := 7)) sa_nil) (sk_cons (se_var (i := 3)) sk_nil)) (hr.mono (by omega)) (blkOk_at (N := N_law) (sc := (defScope s_law)) rfl rfl (by decide +kernel)) (by rfl))
    (sss_cons (ss_if (sw_st (sw_or (st_not (st_val (se_hcall H__law_alike hr tk calls_pu b__law_alike (sa_cons (se_var (i := 5)) (sa_cons (se_var (i := 4)) sa_nil))))) (sw_or1 (st_cmp (op_neA hr.units) mNeV blNe (se_var (i := 5)) (se_lcG (own := [("_law_row", 10)]) rfl rfl tk (pgc_hkO0 (ks := ["signs", "count"]) (is := [1, 0]) (L := nsL) (mf := m_rows) (ps := ["count", "signs"]) (kdts := [("signs", .str "blnr")]) (ms := []) S_rows (hr.mono (by omega)) Y.nst (.inr rfl) bo_rows_0_signs_count (sk_cons (se_var (i := 3)) (sk_cons (se_var (i := 7)) sk_nil))) (hr.mono (by omega)) (blkOk_at (N := N_law) (sc := (defScope s_law)) rfl rfl (by decide +kernel))) (nomark _))))) (sss_cons (ss_retF se_bl)
    sss_nil) sss_nil)
    (sss_cons (ss_asg (se_tup (sa_cons (se_hcall H__law_of hr tk calls_st b__law_of (sa_cons (se_var (i := 1)) (sa_cons (se_lst (sa_cons (se_neg se_int) (sa_cons se_int (sa_cons se_non (sa_cons se_bl (sa_cons se_str sa_nil)))))) sa_nil))) (sa_cons (se_hcall H__law_of hr tk calls_st b__law_of (sa_cons (se_var (i := 1)) (sa_cons (se_lst (sa_cons se_str (sa_cons se_str (sa_cons se_str (sa_cons se_str (sa_cons se_non (sa_cons se_int (sa_cons (se_lst (sa_cons se_str sa_nil)) sa_nil)))))))) sa_nil))) sa_nil))) (sg_tup rfl (sgs_cons (sg_name (i := 8) nd) (sgs_cons (sg_name (i := 9) nd) sgs_nil))))
    (sss_cons (ss_set (i := 6) nd (se_lstN (sa_cons (se_lamE (I := LI_0) (k := 0) (pos := lamPos lam_0) (lamB_of TB rfl (sc := (defScope s_law)) rfl (q := "law.<locals>.") rfl (by decide +kernel) (by decide +kernel) rfl (.inl ⟨rfl, rfl⟩)) (by kernel_rfl)) (sa_cons (se_lamE (I := LI_1) (k := 1) (pos := lamPos lam_1) (lamB_of TB rfl (sc := (defScope s_law)) rfl (q := "law.<locals>.") rfl (by decide +kernel) (by decide +kernel) rfl (.inr ⟨rfl, _, _, rfl⟩)) (by kernel_rfl)) sa_nil))))
    (sss_cons (ss_expr (se_bm PySem.F.plainAttrs_list PySem.F.slot_list_append PySem.F.type_list_append mt_append meAppend (se_var (i := 6)) (sa_cons (se_lamE (I := LI_2) (k := 2) (pos := lamPos lam_2) (lamB_of TB rfl (sc := (defScope s_law)) rfl (q := "law.<locals>.") rfl (by decide +kernel) (by decide +kernel) rfl (.inl ⟨rfl, rfl⟩)) (by kernel_rfl)) sa_nil)))
    (sss_fz 6 (sss_cons (ss_if (st_not (st_val (se_hcall H__law_alike hr tk calls_pu b__law_alike (sa_cons (se_lendH (ix := ix_law) (C := C_law _) (lendB_of (N := N_law) (sc := (defScope s_law)) (fun _ => rfl) rfl rfl rfl (by decide +kernel)) rfl H__law_whys hr tk b__law_whys (sa_cons (se_var (i := 6)) sa_nil)) (sa_cons (se_lst (sa_cons (se_tup (sa_cons se_str (sa_cons (se_var (i := 8)) sa_nil))) (sa_cons (se_tup (sa_cons se_str (sa_cons (se_var (i := 9)) sa_nil))) (sa_cons (se_tup (sa_cons se_str (sa_cons (se_lst sa_nil) sa_nil))) sa_nil)))) sa_nil))))) (sss_cons (ss_retF se_bl)
    sss_nil) sss_nil)
    sss_nil)))))))))))
    (sss_fz 1 (sss_cons (ss_if (sw_st (sw_or (st_cmp (op_neA hr.units) mNeV blNe (se_callB call_lenAll mLen Y.f_len (sa_cons (se_lcG (own := [("_law_row", 10)]) rfl rfl tk (pgc_hkO (ks := []) (is := [0, 1]) (L := nsL) (mf := m_rows) (ps := ["count", "signs"]) (kdts := [("signs", .str "blnr")]) (n := 1) (ms := [("signs", .str "blnr")]) S_rows (hr.mono (by omega)) Y.nst (.inl rfl) bo_rows_1_ (sa_cons se_int sa_nil) sk_nil) (hr.mono (by omega)) (blkOk_at (N := N_law) (sc := (defScope s_law)) rfl rfl (by decide +kernel))) sa_nil)) se_int (nomark _)) (sw_or1 (st_cmp (op_neA hr.units) mNeV blNe (se_lcG (own := [("_law_row", 10)]) rfl rfl tk (pgc_hkO (ks := []) (is := [0, 1]) (L := nsL) (mf := m_rows) (ps := ["count", "signs"]) (kdts := [("signs", .str "blnr")]) (n := 1) (ms := [("signs", .str "blnr")]) S_rows (hr.mono (by omega)) Y.nst (.inl rfl) bo_rows_1_ (sa_cons se_int sa_nil) sk_nil) (hr.mono (by omega)) (blkOk_at (N := N_law) (sc := (defScope s_law)) rfl rfl (by decide +kernel))) (se_lst (sa_cons se_str sa_nil)) (nomark _))))) (sss_cons (ss_retF se_bl)
    sss_nil) sss_nil)
    (sss_cons (ss_retF (se_cmp (op_eqA hr.units) mEqV (se_lcG (own := [("_law_row", 10)]) rfl rfl tk (pgc_hkO (ks := []) (is := [0, 1]) (L := nsL) (mf := m_rows) (ps := ["count", "signs"]) (kdts := [("signs", .str "blnr")]) (n := 1) (ms := [("signs", .str "blnr")]) S_rows (hr.mono (by omega)) Y.nst (.inl rfl) bo_rows_1_ (sa_cons se_int sa_nil) sk_nil) (hr.mono (by omega)) (blkOk_at (N := N_law) (sc := (defScope s_law)) rfl rfl (by decide +kernel))) (se_hcall H__law_all_rows hr tk calls_pu b__law_all_rows (sa_cons se_int sa_nil)) (nomark _)))
    sss_nil)))))
end
end L_k02
end part_W02
section part_PbA02
set_option maxRecDepth 100000
set_option maxHeartbeats 4000000
/-! posts, part A -/
namespace L_k02
open PySem PySem.Spec PyProof.Rows L2 Mi
def OkR (l : List Nat) : Prop := ∀ c ∈ l, c ∈ [98, 108, 110, 114]
theorem e_signs : ("blnr" : Str) = sS [98, 108, 110, 114] := by decide +kernel
theorem e_none : ("" : Str) = sS [] := by decide +kernel
theorem chr_sS (l : List Nat) : chrT (sS l) = l.map fun c => .str (sS [c]) := by
  unfold chrT
  rw [sS_list]
  rfl
def chs (l : List Nat) : List T := l.map fun c => .str (sS [c])
theorem fNe_s (l k : List Nat) (m : MH) : fNe (.str (sS l)) (.str (sS k)) m = .ok (.bl (!decide (l = k))) m := by
  show R.ok (T.bl (!decide (sS l = sS k))) m = _
  congr 3
  exact decide_eq_decide.mpr sS_inj
theorem of4 {c : Nat} (h : c ∈ [98, 108, 110, 114]) {p : Nat → Prop} (h1 : p 98) (h2 : p 108) (h3 : p 110) (h4 : p 114) : p c := by
  simp only [List.mem_cons, List.not_mem_nil, or_false] at h
  rcases h with rfl | rfl | rfl | rfl <;> assumption
theorem strs_chs : ∀ l : List Nat, strsOf (chs l) = some (l.map fun c => sS [c])
  | [] => rfl
  | c :: l => by
    show (strsOf (chs l)).map (sS [c] :: ·) = _
    rw [strs_chs l]; rfl
theorem join_chs : ∀ l : List Nat, Txt.join (sS []) (l.map fun c => sS [c]) = sS l := by
  intro l
  show Builtin.Str.glued _ _ = _
  rw [StrLaws.glued_eq_join]
  induction l with
  | nil => rfl
  | cons c l ih =>
    cases l with
    | nil => rfl
    | cons d r =>
      show sS [c] ++ sS [] ++ Str.join (sS []) ((d :: r).map fun c => sS [c]) = _
      rw [ih, sS_app, sS_app]
      rfl
theorem sum_chs : ∀ l : List Nat, ((l.map fun c => sS [c]).map fun x : Str => x.length).sum = l.length
  | [] => rfl
  | c :: l => by
    have := sum_chs l
    simp only [List.map_cons, List.sum_cons, sS_len, List.length_cons, List.length_nil] at *
    omega
theorem fJoin_chs {l : List Nat} (hn : l.length ≤ 1000) (h : MH) : fJoin (.str "") [.lst (chs l)] h = .ok (.str (sS l)) h := by
  show (match strsOf (chs l) with
      | some ys => if (ys.map fun x : Str => x.length).sum + ys.length * (sS []).length ≤ big then R.ok (.str (Txt.join (sS []) ys)) h else .stuck
      | none => .stuck) = _
  rw [strs_chs]
  dsimp only
  rw [sum_chs, join_chs, if_pos]
  rw [List.length_map, sS_len]
  exact Mi.big_of (by simp; omega)
end L_k02
end part_PbA02
section part_Bx
set_option maxRecDepth 100000
set_option maxHeartbeats 2000000
/-! Bx: things that values tell of, with their equality: ==, in, index of lists and tuples of them. -/
namespace Mi
open PySem PySem.Spec PyProof.Rows L2
/-- the values f tell of the things α, and equal ones of equal things -/
structure Enc {α : Type} [DecidableEq α] (P : α → Prop) (f : α → T) (d : α → PyData) (n : Nat) : Prop where
  to : ∀ x, toD (f x) = some (d x)
  lay : ∀ x, P x → (d x).canLay0 = true
  dep : ∀ x, (d x).depth ≤ n
  eqv : ∀ x y, PyData.eqv (d x) (d y) = decide (x = y)
theorem shaped_of {d : PyData} (h1 : d.canLay0 = true) (h2 : d.depth ≤ 64) : SeqAt.shaped d = true := by
  unfold SeqAt.shaped
  rw [h1, decide_eq_true h2]
  rfl
theorem toDsM {α : Type} {f : α → T} {d : α → PyData} : ∀ (L : List α), (∀ x ∈ L, toD (f x) = some (d x)) → toDs (L.map f) = some (L.map d)
  | [], _ => rfl
  | x :: L, h => by simp only [List.map_cons, toDs, h x List.mem_cons_self, toDsM L fun y hy => h y (List.mem_cons_of_mem _ hy)]
section
variable {α : Type} [DecidableEq α] {P : α → Prop} {f : α → T} {d : α → PyData} {n : Nat} {h : MH}
theorem Enc.layAll (E : Enc P f d n) : ∀ xs : List α, (∀ x ∈ xs, P x) → PyData.canLayAll0 (xs.map d) = true
  | [], _ => rfl
  | x :: xs, h => by
    have h3 := E.layAll xs fun y q => h y (List.mem_cons_of_mem _ q)
    have h1 := E.lay x (h x List.mem_cons_self)
    simp only [List.map_cons, PyData.canLayAll0, h1, h3, Bool.and_self]
theorem Enc.depAll (E : Enc P f d n) : ∀ xs : List α, PyData.depthAll (xs.map d) ≤ n
  | [] => by simp [PyData.depthAll]
  | x :: xs => by
    have h4 := E.depAll xs
    have h2 := E.dep x
    simp only [List.map_cons, PyData.depthAll]
    omega
theorem Enc.eqvAll (E : Enc P f d n) : ∀ xs ys : List α, PyData.eqvAll (xs.map d) (ys.map d) = decide (xs = ys)
  | [], [] => rfl
  | [], q :: qs => rfl
  | p :: ps, [] => rfl
  | p :: ps, q :: qs => by
    show (PyData.eqv (d p) (d q) && PyData.eqvAll (ps.map d) (qs.map d)) = _
    rw [E.eqv, E.eqvAll ps qs, Bool.eq_iff_iff, Bool.and_eq_true, decide_eq_true_eq, decide_eq_true_eq, decide_eq_true_eq, List.cons.injEq]
theorem Enc.lst (E : Enc P f d n) : Enc (fun xs : List α => ∀ x ∈ xs, P x) (fun xs : List α => T.lst (xs.map f)) (fun xs => PyData.list (xs.map d)) (n + 1) :=
  ⟨fun xs => by show (toDs (xs.map f)).map PyData.list = _; rw [toDsM xs fun x _ => E.to x]; rfl, fun xs p => E.layAll xs p, fun xs => by show PyData.depthAll _ + 1 ≤ _; have := E.depAll xs; omega, fun xs ys => E.eqvAll xs ys⟩
theorem Enc.tup (E : Enc P f d n) : Enc (fun xs : List α => ∀ x ∈ xs, P x) (fun xs : List α => T.tup (xs.map f)) (fun xs => PyData.tuple (xs.map d)) (n + 1) :=
  ⟨fun xs => by show (toDs (xs.map f)).map PyData.tuple = _; rw [toDsM xs fun x _ => E.to x]; rfl, fun xs p => E.layAll xs p, fun xs => by show PyData.depthAll _ + 1 ≤ _; have := E.depAll xs; omega, fun xs ys => E.eqvAll xs ys⟩
theorem Enc.pair {β : Type} [DecidableEq β] {P' : β → Prop} {g : β → T} {e : β → PyData} (E : Enc P f d n) (F : Enc P' g e n) : Enc (fun p : α × β => P p.1 ∧ P' p.2) (fun p : α × β => T.tup [f p.1, g p.2]) (fun p => PyData.tuple [d p.1, e p.2]) (n + 1) :=
  ⟨fun p => by show (toDs [f p.1, g p.2]).map PyData.tuple = _; simp only [toDs, E.to, F.to, Option.map_some], fun p q => by
    show PyData.canLayAll0 [d p.1, e p.2] = true
    simp only [PyData.canLayAll0, E.lay _ q.1, F.lay _ q.2, Bool.and_self], fun p => by
    show PyData.depthAll [d p.1, e p.2] + 1 ≤ _
    have h1 := E.dep p.1
    have h2 := F.dep p.2
    simp only [PyData.depthAll]
    omega, fun p q => by
    show (PyData.eqv (d p.1) (d q.1) && (PyData.eqv (e p.2) (e q.2) && true)) = _
    rw [E.eqv, F.eqv, Bool.and_true, Bool.eq_iff_iff, Bool.and_eq_true, decide_eq_true_eq, decide_eq_true_eq, decide_eq_true_eq, Prod.ext_iff]⟩
theorem Enc.inj {β : Type} [DecidableEq β] (E : Enc P f d n) (g : β → α) (i : ∀ x y, g x = g y → x = y) : Enc (fun x => P (g x)) (fun x => f (g x)) (fun x => d (g x)) n :=
  ⟨fun x => E.to _, fun x => E.lay _, fun x => E.dep _, fun x y => by rw [E.eqv]; exact decide_eq_decide.mpr ⟨i x y, congrArg g⟩⟩
theorem Enc.up (E : Enc P f d n) {m : Nat} (l : n ≤ m) : Enc P f d m := ⟨E.to, E.lay, fun x => Nat.le_trans (E.dep x) l, E.eqv⟩
theorem Enc.sh (E : Enc P f d n) (l : n ≤ 60) (x : α) (p : P x) : SeqAt.shaped (d x) = true := shaped_of (E.lay x p) (Nat.le_trans (E.dep x) (by omega))
theorem ne_toD {t u : T} {a b : PyData} (e1 : toD t = some a) (e2 : toD u = some b) (s1 : SeqAt.shaped a = true) (s2 : SeqAt.shaped b = true) : fNe t u h = .ok (.bl (!PyData.eqv a b)) h := by
  have w : with2 t u (fun d e => R.ok (.bl (!PyData.eqv d e)) h) = .ok (.bl (!PyData.eqv a b)) h := by
    unfold with2
    rw [e1, e2]
    dsimp only
    rw [s1, s2]
    rfl
  have q : ∀ x y : Str, t = .str x → u = .str y → fNe t u h = .ok (.bl (!PyData.eqv a b)) h := by
    rintro x y rfl rfl
    cases e1; cases e2
    show R.ok (.bl (!decide (x = y))) h = R.ok (.bl (!(x == y))) h
    rw [show decide (x = y) = (x == y) by rw [Bool.eq_iff_iff, decide_eq_true_eq, beq_iff_eq]]
  cases t <;> first | exact w | skip
  all_goals (cases u <;> first | exact w | exact q _ _ rfl rfl)
theorem Enc.ne (E : Enc P f d n) (l : n ≤ 60) {x y : α} (p : P x) (q : P y) : fNe (f x) (f y) h = .ok (.bl (!decide (x = y))) h := by
  rw [ne_toD (E.to x) (E.to y) (E.sh l x p) (E.sh l y q), E.eqv]
theorem Enc.any (E : Enc P f d n) (x : α) : ∀ xs : List α, ((xs.map d).any fun z => PyData.eqv z (d x)) = decide (x ∈ xs)
  | [] => rfl
  | q :: ps => by
    rw [List.map_cons, List.any_cons, E.any x ps, E.eqv, Bool.eq_iff_iff, Bool.or_eq_true, decide_eq_true_eq, decide_eq_true_eq, decide_eq_true_eq, List.mem_cons]
    exact or_congr_left ⟨Eq.symm, Eq.symm⟩
/-- the first place of a thing -/
def ixOf {α : Type} [DecidableEq α] (x : α) (xs : List α) : Nat := xs.idxOf x
theorem Enc.idx (E : Enc P f d n) (x : α) : ∀ {xs : List α}, x ∈ xs → idxD (d x) (xs.map d) = some (ixOf x xs)
  | [], h => by cases h
  | y :: ys, h => by
    rw [List.map_cons]
    unfold idxD
    rw [E.eqv]
    by_cases e : y = x
    · rw [if_pos (decide_eq_true e), e]
      unfold ixOf
      rw [List.idxOf_cons_self]
    · rw [if_neg (by rw [decide_eq_true_eq]; exact e), E.idx x (List.mem_of_ne_of_mem (Ne.symm e) h)]
      unfold ixOf
      rw [List.idxOf_cons, show (y == x) = false from beq_eq_false_iff_ne.mpr e]
      rfl
theorem Enc.index (E : Enc P f d n) (l : n ≤ 50) {x : α} {xs : List α} (p : P x) (q : ∀ x ∈ xs, P x) (hx : x ∈ xs) (ht : isTupT (.lst (xs.map f)) = false) : fIndex (.lst (xs.map f)) [f x] h = .ok (.int (ixOf x xs : Nat)) h := by
  simp only [fIndex, ht, E.to, seqOf, toDsM xs fun x _ => E.to x, E.sh (show n ≤ 60 by omega) x p, E.lst.sh (show n + 1 ≤ 60 by omega) xs q, E.idx x hx, Bool.and_self, if_true, Bool.false_eq_true, if_false]
end
theorem Enc.int : Enc (fun _ => True) (fun k : Int => T.int k) (fun k => PyData.int k) 1 := ⟨fun _ => rfl, fun _ _ => rfl, fun _ => by simp [PyData.depth], fun x y => by
  show (x == y) = _
  rw [Bool.eq_iff_iff, beq_iff_eq, decide_eq_true_eq]⟩
theorem Enc.str : Enc (fun x => PyData.strOk x = true) (fun x : Str => T.str x) (fun x => PyData.str x) 1 := ⟨fun _ => rfl, fun _ q => q, fun _ => by simp [PyData.depth], fun x y => by
  show (x == y) = _
  rw [Bool.eq_iff_iff, beq_iff_eq, decide_eq_true_eq]⟩
theorem Enc.bl : Enc (fun _ => True) (fun x : Bool => T.bl x) (fun x => PyData.bool x) 1 := ⟨fun _ => rfl, fun _ _ => rfl, fun _ => by simp [PyData.depth], fun x y => by
  cases x <;> cases y <;> rfl⟩
theorem Enc.txt : Enc (fun l : List Nat => ∀ c ∈ l, c < 1114112) (fun l : List Nat => T.str (sS l)) (fun l => PyData.str (sS l)) 1 :=
  have z := Enc.str.inj sS fun x y e => by
    have := congrArg (fun x : Str => x.cps.toList) e
    simpa [sS_list] using this
  ⟨z.to, fun x q => z.lay x (by
    show (sS x).cps.all (fun c => decide (c < 1114112)) = true
    unfold sS
    simp only [List.all_toArray, List.all_eq_true, decide_eq_true_eq]
    exact q), z.dep, z.eqv⟩
/-! ### texts joined -/
end Mi
end part_Bx
section part_By
set_option maxRecDepth 100000
set_option maxHeartbeats 2000000
/-! By: draws, and lambdas asked by _law_why and _law_whys, as rules of the walk. -/
namespace Mi
open PySem PySem.Spec PyProof.Rows L2
/-- the mirror's heap of a law with lambdas: the table, the bag -/
structure OkH (q : Str) (P : Addr) (h : MH) : Prop where
  tab : h[0]? = some (.tab q P)
  bag : Bag h 1
theorem OkH.app {q : Str} {P : Addr} {h t : MH} (o : OkH q P h) : OkH q P (h ++ t) := ⟨by rw [List.getElem?_append_left (List.getElem?_eq_some_iff.mp o.tab).1]; exact o.tab, o.bag.app⟩
theorem OkH.keep {q : Str} {P : Addr} {h h' : MH} (o : OkH q P h) (k : Keeps 1 h h') (b : Bag h' 1) : OkH q P h' := ⟨(k.get 0 (by decide)).trans o.tab, b⟩
section
variable {q : Str} {P : Addr} {s : SM} {h : MH} {Q : T → MH → Prop} {X : Exc → MH → Prop}
theorem we_draw {n : Nat} (o : OkH q P h) (h1 : 1 ≤ n) (h2 : n ≤ 1000000) (k : ∀ (r : Nat) h', r < n → OkH q P h' → Keeps 1 h h' → Q (.int (r : Nat)) h') : WE ((fS 2 mDrawL) [.ref 1, .int (n : Nat)] h) Q X := by
  obtain ⟨r, h', e, p, l, B, K⟩ := drawC (many := (n : Int)) o.bag (by omega) (by omega)
  obtain ⟨m, rfl⟩ : ∃ m : Nat, r = m := ⟨r.toNat, by omega⟩
  exact we_at e (k m h' (by omega) (o.keep K B) K)
theorem we_of {xs : List T} (o : OkH q P h) (h1 : xs ≠ []) (h2 : xs.length ≤ 1000000) (hc : closedL xs = true) (k : ∀ x h', x ∈ xs → OkH q P h' → Keeps 1 h h' → Q x h') : WE ((fS 2 mOfL) [.ref 1, .lst xs] h) Q X := by
  obtain ⟨x, h', e, m, B, K⟩ := ofC o.bag h1 h2 hc
  exact we_at e (k x h' m (o.keep K B) K)
theorem we_lam {k : Nat} {I : LamI} {C : List (Str × Addr)} (o : OkH q P h) (hq : q = I.q) (w : Q (.fn k I C) h) : WE (mLam k I C P s h) Q X := we_at (lam_ok o.tab hq) w
variable {tab : List LamE} {ct : List (Str × Bool)} {su : MS} {C : List (Str × Addr)} {ix : List Nat}
/-- functions in a list, and what they answer -/
inductive Asks (tab : List LamE) (ct : List (Str × Bool)) (su : MS) (C : List (Str × Addr)) (cs : MH) : List T → List T → Prop
  | nil : Asks tab ct su C cs [] []
  | cons {k : Nat} {e : LamE} {ts : List T} {r : T} {fs rs : List T} (a : AskOk ct su e ts r) (ht : tab[k]? = some e) (ok : okC C e.fr e.js = true) (cv : celVals cs 0 e.js = some ts) (b : Asks tab ct su C cs fs rs) : Asks tab ct su C cs (.fn k e.I C :: fs) (r :: rs)
theorem we_lends {i : Nat} {fs rs : List T} (o : OkH q P h) (hs : s[i]? = some (some (.lst fs))) (al : allCel (celsOf ix s) 0 C.length = true) (lc : (celsOf ix s).length = C.length) (hl : fs.length ≤ 1000)
    (as : Asks tab ct su C (celsOf ix s) fs rs) (w : ∀ h', OkH q P h' → Q (.lst rs) h') : WE (mLend (mWhysL (mWhyL tab ct su)) 1 C ix (aCons (mVar i) aNil) s h) Q X := by
  refine we_at (t := .lst rs) (h := h ++ deads C) ?_ (w _ o.app)
  refine lend_ok' (cons_ok (var_ok _ hs) nil_ok) al lc (whys_ok (big_of (by rw [List.length_map]; omega)) ?_)
  clear hl hs w
  induction as with
  | nil => exact .nil
  | cons a ht ok cv b ih =>
    rw [List.map_cons, closeV_fn]
    exact .cons (why_of rfl a ht ok al lc cv) ih
end
end Mi
end part_By
section part_Bz
set_option maxRecDepth 100000
set_option maxHeartbeats 2000000
/-! Bz: short comprehensions item by item, comprehensions told item by item. -/
namespace Mi
open PySem PySem.Spec PyProof.Rows L2
section
variable {s : SM} {h : MH} {Q : T → MH → Prop} {X : Exc → MH → Prop}
theorem we_lcnil {mgt : MG} {mt me : ME} {s0 : SM} {acc : List T} (q : Q (.lst acc) h) : WE (lcFrom mgt mt me s0 [] acc h) Q X := we_at (t := .lst acc) (h := h) rfl q
theorem we_lccons {mgt : MG} {mt me : ME} {s0 : SM} {x : T} {xs acc : List T} (l : acc.length < 10000) (w : WG (mgt x s0 h) (fun s1 h1 => WE (mt s1 h1) (fun t h2 => (t = .bl true ∧ WE (me s1 h2) (fun y h3 => WE (lcFrom mgt mt me s0 xs (acc ++ [y]) h3) Q X) (fun _ _ => False)) ∨ (t = .bl false ∧ WE (lcFrom mgt mt me s0 xs acc h2) Q X)) (fun _ _ => False))) : WE (lcFrom mgt mt me s0 (x :: xs) acc h) Q X := by
  obtain ⟨s1, h1, e1, w⟩ := w
  have fe : lcFrom mgt mt me s0 (x :: xs) acc h = (match mt s1 h1 with
    | .ok (.bl true) h2 => match me s1 h2 with
      | .ok y h3 => if acc.length < big then lcFrom mgt mt me s0 xs (acc ++ [y]) h3 else .stuck
      | _ => .stuck
    | .ok (.bl false) h2 => lcFrom mgt mt me s0 xs acc h2
    | _ => .stuck) := by
    rw [lcFrom, e1]
    first | done | rfl
  rcases w with ⟨t, h2, e2, w⟩ | ⟨_, _, _, w⟩
  · rcases w with ⟨rfl, w⟩ | ⟨rfl, w⟩
    · rcases w with ⟨y, h3, e3, w⟩ | ⟨_, _, _, w⟩
      · rw [fe, e2]
        dsimp only
        rw [e3]
        dsimp only
        rw [if_pos (show acc.length < big by unfold big; omega)]
        exact w
      · exact w.elim
    · rw [fe, e2]
      exact w
  · exact w.elim
end
end Mi
end part_Bz
section part_Qa02
set_option maxRecDepth 100000
set_option maxHeartbeats 8000000
/-! the plain law of k02: rows, case by case; what is asked -/
namespace L_k02
open PySem PySem.Spec PyProof.Rows L2 Mi
def Q : Str := "law.<locals>.<lambda>"
def rowsM (s : List Nat) : Nat → List (List Nat)
  | 0 => [[]]
  | n + 1 => (rowsM s n).flatMap fun r => s.map fun c => r ++ [c]
abbrev txs (xs : List (List Nat)) : List T := xs.map fun r => T.str (sS r)
def subs : List (List Nat) := [[98], [108], [110], [114], [98, 108], [98, 110], [98, 114], [108, 110], [108, 114], [110, 114], [98, 108, 110], [98, 108, 114], [98, 110, 114], [108, 110, 114], [98, 108, 110, 114]]
def su : MS := (mSq (mRetF (mA fTup (aCons (m1 (fFldX xs_tag "tag") (mVar 1)) (aCons (mA (fP 1 m_law_field) (aCons (mVar 1) aNil)) aNil)))) mNx)
theorem alk {t : T} (p : Mi.Pl 8 t) (h : MH) : fP 2 (m_law_alike 8) [t, t] h = .ok (.bl true) h := Mi.fP2 p.closed p.closed (alike_refl p []) rfl
theorem n4 {p : Nat → Prop} {n : Nat} (hn : n ≤ 4) (h0 : p 0) (h1 : p 1) (h2 : p 2) (h3 : p 3) (h4 : p 4) : p n := by
  have : n = 0 ∨ n = 1 ∨ n = 2 ∨ n = 3 ∨ n = 4 := by omega
  rcases this with rfl | rfl | rfl | rfl | rfl <;> assumption
theorem s15 {p : List Nat → Prop} {s : List Nat} (hs : s ∈ subs) (h : ∀ i : Fin 15, p (subs.get i)) : p s := by
  obtain ⟨i, hi, e⟩ := List.getElem_of_mem hs
  rw [← e]
  exact h ⟨i, hi⟩
theorem rows_ok {n : Nat} {s : List Nat} (hn : n ≤ 4) (hs : s ∈ subs) (m : MH) : m_rows [.int (n : Nat), .str (sS s)] m = .ok (.lst (txs (rowsM s n))) m := by
  refine s15 (p := fun s => m_rows [.int (n : Nat), .str (sS s)] m = .ok (.lst (txs (rowsM s n))) m) hs fun i => ?_
  refine n4 (p := fun n => m_rows [.int (n : Nat), .str (sS (subs.get i))] m = .ok (.lst (txs (rowsM (subs.get i) n))) m) hn ?_ ?_ ?_ ?_ ?_
  all_goals (match i with
    | ⟨0, _⟩ => kernel_rfl
    | ⟨1, _⟩ => kernel_rfl
    | ⟨2, _⟩ => kernel_rfl
    | ⟨3, _⟩ => kernel_rfl
    | ⟨4, _⟩ => kernel_rfl
    | ⟨5, _⟩ => kernel_rfl
    | ⟨6, _⟩ => kernel_rfl
    | ⟨7, _⟩ => kernel_rfl
    | ⟨8, _⟩ => kernel_rfl
    | ⟨9, _⟩ => kernel_rfl
    | ⟨10, _⟩ => kernel_rfl
    | ⟨11, _⟩ => kernel_rfl
    | ⟨12, _⟩ => kernel_rfl
    | ⟨13, _⟩ => kernel_rfl
    | ⟨14, _⟩ => kernel_rfl)
/-- the law's own list -/
theorem due_ok {n : Nat} {s : List Nat} (hn : n ≤ 4) (hs : s ∈ subs) (y0 y1 y2 y4 y5 y6 y8 y9 y10 y11 : Option T) (m : MH) :
    mLc (mSrc (mA (fP 1 m_law_all_rows) (aCons (mVar 7) aNil))) (gN 10) (mTru (mA fAll (aCons (mLc (mSrc (mVar 10)) (gN 11) (mC (.bl true)) (m2 (fIn false) (mVar 11) (mVar 3)) [11]) aNil))) (mVar 10) [10] [y0, y1, y2, some (.str (sS s)), y4, y5, y6, some (.int (n : Nat)), y8, y9, y10, y11] m = .ok (.lst (txs (rowsM s n))) m := by
  refine s15 (p := fun s => mLc (mSrc (mA (fP 1 m_law_all_rows) (aCons (mVar 7) aNil))) (gN 10) (mTru (mA fAll (aCons (mLc (mSrc (mVar 10)) (gN 11) (mC (.bl true)) (m2 (fIn false) (mVar 11) (mVar 3)) [11]) aNil))) (mVar 10) [10] [y0, y1, y2, some (.str (sS s)), y4, y5, y6, some (.int (n : Nat)), y8, y9, y10, y11] m = .ok (.lst (txs (rowsM s n))) m) hs fun i => ?_
  refine n4 (p := fun n => mLc (mSrc (mA (fP 1 m_law_all_rows) (aCons (mVar 7) aNil))) (gN 10) (mTru (mA fAll (aCons (mLc (mSrc (mVar 10)) (gN 11) (mC (.bl true)) (m2 (fIn false) (mVar 11) (mVar 3)) [11]) aNil))) (mVar 10) [10] [y0, y1, y2, some (.str (sS (subs.get i))), y4, y5, y6, some (.int (n : Nat)), y8, y9, y10, y11] m = .ok (.lst (txs (rowsM (subs.get i) n))) m) hn ?_ ?_ ?_ ?_ ?_
  all_goals (match i with
    | ⟨0, _⟩ => kernel_rfl
    | ⟨1, _⟩ => kernel_rfl
    | ⟨2, _⟩ => kernel_rfl
    | ⟨3, _⟩ => kernel_rfl
    | ⟨4, _⟩ => kernel_rfl
    | ⟨5, _⟩ => kernel_rfl
    | ⟨6, _⟩ => kernel_rfl
    | ⟨7, _⟩ => kernel_rfl
    | ⟨8, _⟩ => kernel_rfl
    | ⟨9, _⟩ => kernel_rfl
    | ⟨10, _⟩ => kernel_rfl
    | ⟨11, _⟩ => kernel_rfl
    | ⟨12, _⟩ => kernel_rfl
    | ⟨13, _⟩ => kernel_rfl
    | ⟨14, _⟩ => kernel_rfl)
abbrev gR : List T → MH → R := gFs 2 nsL m_rows
theorem gR_ok {n : Nat} {s : List Nat} (hn : n ≤ 4) (hs : s ∈ subs) (m : MH) : gR [.int (n : Nat), .str (sS s)] m = .ok (.lst (txs (rowsM s n))) m := by
  show gFs 2 nsL m_rows [.int (n : Nat), .str (sS s)] m = _
  unfold gFs
  rw [if_pos (show [T.int (n : Nat), .str (sS s)].length = 2 from rfl), rows_ok hn hs]
theorem len_rows {n : Nat} {s : List Nat} (hn : n ≤ 4) (hs : s ∈ subs) : (rowsM s n).length ≤ 256 := by
  refine s15 (p := fun s => (rowsM s n).length ≤ 256) hs fun i => ?_
  refine n4 (p := fun n => (rowsM (subs.get i) n).length ≤ 256) hn ?_ ?_ ?_ ?_ ?_
  all_goals (revert i; decide +kernel)
theorem okr_sub {s : List Nat} (hs : s ∈ subs) : OkR s := by
  have a : (subs.all fun s => s.all fun c => decide (c ∈ [98, 108, 110, 114])) = true := by decide +kernel
  exact fun c hc => of_decide_eq_true (List.all_eq_true.mp (List.all_eq_true.mp a s hs) c hc)
theorem rows_mem {s : List Nat} (ok : OkR s) : ∀ (n : Nat) (r : List Nat), r ∈ rowsM s n → OkR r
  | 0, r, h => by
    rw [List.mem_singleton.mp h]
    exact fun c hc => absurd hc List.not_mem_nil
  | n + 1, r, h => by
    obtain ⟨l0, h0, h1⟩ := List.mem_flatMap.mp h
    obtain ⟨c, hc, rfl⟩ := List.mem_map.mp h1
    intro d hd
    rcases List.mem_append.mp hd with z | z
    · exact rows_mem ok n l0 h0 d z
    · rw [List.mem_singleton.mp z]; exact ok c hc
theorem ne_rows {xs : List (List Nat)} (ok : ∀ r ∈ xs, OkR r) (m : MH) : fNe (.lst (txs xs)) (.lst (txs xs)) m = .ok (.bl false) m := by
  have b : ∀ r ∈ xs, ∀ c ∈ r, c < 1114112 := fun r hr c hc => of4 (p := fun c => c < 1114112) (ok r hr c hc) (by decide) (by decide) (by decide) (by decide)
  have := Enc.txt.lst.ne (x := xs) (y := xs) (h := m) (by omega) b b
  rw [decide_eq_true rfl] at this
  exact this
theorem pl_rows {xs : List (List Nat)} (hl : xs.length ≤ 1000) : Mi.Pl 8 (.lst (txs xs)) := .lst (fun x hx => by
  obtain ⟨r, _, rfl⟩ := List.mem_map.mp hx
  exact .str _) (Mi.big_of (by rw [List.length_map]; omega))
/-! ### what is asked -/
def ODD : List T := [.int (-1), .int 7, .non, .bl true, .str "2"]
def BAD : List T := [.str "", .str "lb", .str "bb", .str "a", .non, .int 3, .lst [.str "b"]]
theorem o5 {p : T → Prop} {x : T} (hx : x ∈ ODD) (h : ∀ i : Fin 5, p (ODD.get i)) : p x := by
  obtain ⟨i, hi, e⟩ := List.getElem_of_mem hx
  rw [← e]
  exact h ⟨i, hi⟩
theorem b7 {p : T → Prop} {x : T} (hx : x ∈ BAD) (h : ∀ i : Fin 7, p (BAD.get i)) : p x := by
  obtain ⟨i, hi, e⟩ := List.getElem_of_mem hx
  rw [← e]
  exact h ⟨i, hi⟩
def xG (c : Str) (x : T) : Exc := ⟨c, ["given", "tag"], [x, .str c]⟩
theorem gR_c {x y : T} (hx : x ∈ ODD) (m : MH) : gR [x, y] m = .ex (xG "InvalidCount" x) m := by
  refine o5 (p := fun x => gR [x, y] m = .ex (xG "InvalidCount" x) m) hx fun i => ?_
  match i with
    | ⟨0, _⟩ => kernel_rfl
    | ⟨1, _⟩ => kernel_rfl
    | ⟨2, _⟩ => kernel_rfl
    | ⟨3, _⟩ => kernel_rfl
    | ⟨4, _⟩ => kernel_rfl
theorem gR_b {y : T} (hy : y ∈ BAD) (m : MH) : gR [.int 2, y] m = .ex (xG "InvalidSign" y) m := by
  refine b7 (p := fun y => gR [.int 2, y] m = .ex (xG "InvalidSign" y) m) hy fun i => ?_
  match i with
    | ⟨0, _⟩ => kernel_rfl
    | ⟨1, _⟩ => kernel_rfl
    | ⟨2, _⟩ => kernel_rfl
    | ⟨3, _⟩ => kernel_rfl
    | ⟨4, _⟩ => kernel_rfl
    | ⟨5, _⟩ => kernel_rfl
    | ⟨6, _⟩ => kernel_rfl
theorem su_c {x : T} (hx : x ∈ ODD) (t0 : Option T) (h : MH) : su [t0, some (.exn "InvalidCount" ["given", "tag"] [x, .str "InvalidCount"])] h = .rt (.tup [.str "InvalidCount", x]) h := by
  refine o5 (p := fun x => su [t0, some (.exn "InvalidCount" ["given", "tag"] [x, .str "InvalidCount"])] h = .rt (.tup [.str "InvalidCount", x]) h) hx fun i => ?_
  match i with
    | ⟨0, _⟩ => kernel_rfl
    | ⟨1, _⟩ => kernel_rfl
    | ⟨2, _⟩ => kernel_rfl
    | ⟨3, _⟩ => kernel_rfl
    | ⟨4, _⟩ => kernel_rfl
theorem su_b {x : T} (hx : x ∈ BAD) (t0 : Option T) (h : MH) : su [t0, some (.exn "InvalidSign" ["given", "tag"] [x, .str "InvalidSign"])] h = .rt (.tup [.str "InvalidSign", x]) h := by
  refine b7 (p := fun x => su [t0, some (.exn "InvalidSign" ["given", "tag"] [x, .str "InvalidSign"])] h = .rt (.tup [.str "InvalidSign", x]) h) hx fun i => ?_
  match i with
    | ⟨0, _⟩ => kernel_rfl
    | ⟨1, _⟩ => kernel_rfl
    | ⟨2, _⟩ => kernel_rfl
    | ⟨3, _⟩ => kernel_rfl
    | ⟨4, _⟩ => kernel_rfl
    | ⟨5, _⟩ => kernel_rfl
    | ⟨6, _⟩ => kernel_rfl
theorem ask0 {x y : T} (hx : x ∈ ODD) : AskOk ct_why su LE_0 [x, y] (.tup [.str "InvalidCount", x]) := by
  refine .inr ⟨xG "InvalidCount" x, fun h => ?_, by kernel_rfl, fun t0 h => su_c hx t0 h⟩
  show ml_0 [some x, some y, none] h = _
  unfold ml_0 mLcG mKwO aCons mVar aNil
  show (match gR [x, y] h with | .ok (.lst out) h1 => R.ok (.lst out) h1 | .ok _ _ => .stuck | .ex x h1 => .ex x h1 | .stuck => .stuck) = _
  rw [gR_c hx]
theorem ask1 {y : T} (hy : y ∈ BAD) : AskOk ct_why su LE_1 [y] (.tup [.str "InvalidSign", y]) := by
  refine .inr ⟨xG "InvalidSign" y, fun h => ?_, by kernel_rfl, fun t0 h => su_b hy t0 h⟩
  show ml_1 [some (.int 0), some y, none] h = _
  unfold ml_1 mLcG mKwO aCons mVar aNil
  show (match gR [.int 2, y] h with | .ok (.lst out) h1 => R.ok (.lst out) h1 | .ok _ _ => .stuck | .ex x h1 => .ex x h1 | .stuck => .stuck) = _
  rw [gR_b hy]
theorem ask2 {x y : T} : AskOk ct_why su LE_2 [x, y] (.tup [.str "", .lst []]) := .inl ⟨.lst [], fun h => rfl, rfl⟩
end L_k02
end part_Qa02
section part_Qc02
set_option maxRecDepth 100000
set_option maxHeartbeats 8000000
/-! the plain law of k02: rows of any few signs, by the walk of its loops -/
namespace L_k02
open PySem PySem.Spec PyProof.Rows L2 Mi
section
theorem lcIn_ok {β : Type} {mgt1 : MG} {mt1 me : ME} {s1 : SM} (g1 f : β → T) (P : β → Bool) (h : MH) : ∀ (B : List β) (acc : List T), acc.length + B.length ≤ 10000 → (∀ y ∈ B, ∃ s2, mgt1 (g1 y) s1 h = .ok s2 h ∧ mt1 s2 h = .ok (.bl (P y)) h ∧ (P y = true → me s2 h = .ok (f y) h)) →
    lcIn mgt1 mt1 me s1 (B.map g1) acc h = some (acc ++ (B.filter P).map f, h)
  | [], acc, _, _ => by simp [lcIn]
  | y :: B, acc, l, st => by
    rw [List.length_cons] at l
    obtain ⟨s2, e1, e2, e3⟩ := st y List.mem_cons_self
    rw [List.map_cons]
    unfold lcIn
    rw [e1]
    dsimp only
    rw [e2]
    cases hp : P y with
    | true =>
      dsimp only
      rw [e3 hp]
      dsimp only
      rw [if_pos (show acc.length < big by unfold big; omega), lcIn_ok g1 f P h B (acc ++ [f y]) (by simp; omega) (fun z hz => st z (List.mem_cons_of_mem _ hz)), List.filter_cons, hp]
      simp
    | false =>
      dsimp only
      rw [lcIn_ok g1 f P h B acc (by omega) (fun z hz => st z (List.mem_cons_of_mem _ hz)), List.filter_cons, hp]
      simp
theorem lc2_ok {α β : Type} {mgt mgt1 : MG} {mt mt1 me : ME} {mi1 : MI} {vs1 : List Nat} {s0 : SM} (g : α → T) (g1 : β → T) (f : α → β → T) (P : α → β → Bool) (B : List β) (h : MH) : ∀ (A : List α) (acc : List T), acc.length + A.length * B.length ≤ 10000 →
    (∀ x ∈ A, ∃ s1, mgt (g x) s0 h = .ok s1 h ∧ mt s1 h = .ok (.bl true) h ∧ mi1 s1 h = .ok (B.map g1) h ∧ ∀ y ∈ B, ∃ s2, mgt1 (g1 y) (wipeM s1 vs1) h = .ok s2 h ∧ mt1 s2 h = .ok (.bl (P x y)) h ∧ (P x y = true → me s2 h = .ok (f x y) h)) →
    lc2From mgt mt mi1 mgt1 mt1 me vs1 s0 (A.map g) acc h = .ok (.lst (acc ++ A.flatMap fun x => (B.filter (P x)).map (f x))) h
  | [], acc, _, _ => by simp [lc2From]
  | x :: A, acc, l, st => by
    rw [List.length_cons, Nat.add_mul, Nat.one_mul] at l
    obtain ⟨s1, e1, e2, e3, e4⟩ := st x List.mem_cons_self
    have hl : ((B.filter (P x)).map (f x)).length ≤ B.length := by rw [List.length_map]; exact List.length_filter_le _ _
    rw [List.map_cons]
    unfold lc2From
    rw [e1]
    dsimp only
    rw [e2]
    dsimp only
    rw [e3]
    dsimp only
    rw [lcIn_ok g1 (f x) (P x) h B acc (by omega) e4]
    dsimp only
    rw [lc2_ok g g1 f P B h A _ (by rw [List.length_append]; omega) (fun z hz => st z (List.mem_cons_of_mem _ hz)), List.flatMap_cons, List.append_assoc]
end
abbrev sg : List Nat := [98, 108, 110, 114]
theorem len_pow (s : List Nat) : ∀ n, (rowsM s n).length = s.length ^ n
  | 0 => rfl
  | n + 1 => by
    unfold rowsM
    rw [List.length_flatMap]
    have : ((rowsM s n).map fun r => (s.map fun c => r ++ [c]).length) = List.replicate (rowsM s n).length s.length := by
      rw [List.eq_replicate_iff]
      refine ⟨by simp, fun b hb => ?_⟩
      obtain ⟨r, _, rfl⟩ := List.mem_map.mp hb
      simp
    rw [this, List.sum_replicate_nat, len_pow s n, Nat.pow_succ]
theorem len_row (s : List Nat) : ∀ (n : Nat) (r : List Nat), r ∈ rowsM s n → r.length = n
  | 0, r, h => by rw [List.mem_singleton.mp h]; rfl
  | n + 1, r, h => by
    obtain ⟨l0, h0, h1⟩ := List.mem_flatMap.mp h
    obtain ⟨c, hc, rfl⟩ := List.mem_map.mp h1
    rw [List.length_append, len_row s n l0 h0]
    rfl
abbrev LP : ME := mLc2 (mSrc (mVar 2)) (gN 4) (mC (.bl true)) (mSrc (mVar 1)) (gN 5) (mC (.bl true)) (m2 fAdd (mVar 4) (mVar 5)) [4, 5] [5]
abbrev S2 (n : Nat) (xs : List (List Nat)) (y3 : Option T) : SM := [some (.int (n : Nat)), some (.str (sS sg)), some (.lst (txs xs)), y3, none, none]
theorem lp_ok {n : Nat} {xs : List (List Nat)} {y3 : Option T} (m : MH) (hl : xs.length ≤ 1024) (h6 : ∀ r ∈ xs, r.length ≤ 6) : LP (S2 n xs y3) m = .ok (.lst (txs (xs.flatMap fun r => sg.map fun c => r ++ [c]))) m := by
  show lc2From (gN 4) (mC (.bl true)) (mSrc (mVar 1)) (gN 5) (mC (.bl true)) (m2 fAdd (mVar 4) (mVar 5)) [5] [some (.int (n : Nat)), some (.str (sS sg)), some (.lst (txs xs)), y3, none, none] (xs.map fun r => T.str (sS r)) [] m = _
  rw [lc2_ok (fun r : List Nat => T.str (sS r)) (fun c : Nat => T.str (sS [c])) (fun r c => T.str (sS (r ++ [c]))) (fun _ _ => true) sg m xs [] (by simp [sg]; omega) fun r hr => ⟨_, rfl, rfl, ?_, fun c hc => ⟨_, rfl, rfl, fun _ => ?_⟩⟩]
  · have : ∀ r : List Nat, sg.filter (fun _ => true) = sg := fun _ => rfl
    rw [List.nil_append]
    congr 1
    show T.lst _ = T.lst _
    congr 1
    unfold txs
    rw [List.map_flatMap]
    rfl
  · show RL.ok (chrT (sS sg)) m = _
    rw [chr_sS]
  · show fAdd (.str (sS r)) (.str (sS [c])) m = _
    exact fAdd_s (by have := h6 r hr; unfold big; simp; omega)
theorem loop_ok {n : Nat} (m : MH) : ∀ (k i : Nat) (y3 : Option T), i + k ≤ 6 → ∃ y, forFrom (gN 3) (mSq (mSet 2 LP) mNx) (intsT (i : Int) k) (S2 n (rowsM sg i) y3) m = .nx (S2 n (rowsM sg (i + k)) y) m
  | 0, i, y3, _ => ⟨y3, rfl⟩
  | k + 1, i, y3, h => by
    obtain ⟨y, e⟩ := loop_ok (n := n) m k (i + 1) (some (.int (i : Nat))) (by omega)
    refine ⟨y, ?_⟩
    have hl : (rowsM sg i).length ≤ 1024 := by
      rw [len_pow]
      have : i = 0 ∨ i = 1 ∨ i = 2 ∨ i = 3 ∨ i = 4 ∨ i = 5 := by omega
      rcases this with rfl | rfl | rfl | rfl | rfl | rfl <;> decide
    have e1 : mSet 2 LP (S2 n (rowsM sg i) (some (.int (i : Nat)))) m = .nx (S2 n (rowsM sg (i + 1)) (some (.int (i : Nat)))) m := by
      unfold mSet
      rw [lp_ok m hl (fun r hr => by rw [len_row sg i r hr]; omega)]
      rfl
    have e2 : mSq (mSet 2 LP) mNx (S2 n (rowsM sg i) (some (.int (i : Nat)))) m = .nx (S2 n (rowsM sg (i + 1)) (some (.int (i : Nat)))) m := by
      unfold mSq
      rw [e1]
      rfl
    have e3 : intsT (i : Int) (k + 1) = .int (i : Nat) :: intsT ((i + 1 : Nat) : Int) k := rfl
    rw [e3]
    unfold forFrom
    show (match mSq (mSet 2 LP) mNx (S2 n (rowsM sg i) (some (.int (i : Nat)))) m with
      | .nx s2 h2 => forFrom (gN 3) (mSq (mSet 2 LP) mNx) (intsT ((i + 1 : Nat) : Int) k) s2 h2
      | .ct s2 h2 => forFrom (gN 3) (mSq (mSet 2 LP) mNx) (intsT ((i + 1 : Nat) : Int) k) s2 h2
      | .bk s2 h2 => .nx s2 h2
      | r => r) = _
    rw [e2]
    dsimp only
    rw [e, show i + 1 + k = i + (k + 1) by omega]
theorem wa_eqR {n : Nat} {xs : List (List Nat)} {y : Option T} (hn : n ≤ 6) (m : MH) : (mIA iRg1 (aCons (mVar 0) aNil)) (S2 n xs y) m = .ok (intsT 0 n) m := by
  have : n = 0 ∨ n = 1 ∨ n = 2 ∨ n = 3 ∨ n = 4 ∨ n = 5 ∨ n = 6 := by omega
  rcases this with rfl | rfl | rfl | rfl | rfl | rfl | rfl <;> rfl
theorem out_ok {n : Nat} {ys : List (List Nat)} {y3 : Option T} (m : MH) : ∀ (xs : List (List Nat)) (out : List T) (y4 : Option T), out.length + xs.length ≤ 90000 →
    ∃ y, gforFrom (gN 4) (mGSq (mGY (mVar 4)) mGNx) (txs xs) out [some (.int (n : Nat)), some (.str (sS sg)), some (.lst (txs ys)), y3, y4, none] m = .nx (out ++ txs xs) [some (.int (n : Nat)), some (.str (sS sg)), some (.lst (txs ys)), y3, y, none] m
  | [], out, y4, _ => ⟨y4, by rw [show txs [] = [] from rfl, List.append_nil]; rfl⟩
  | x :: xs, out, y4, h => by
    rw [List.length_cons] at h
    obtain ⟨y, e⟩ := out_ok (n := n) (ys := ys) (y3 := y3) m xs (out ++ [.str (sS x)]) (some (.str (sS x))) (by rw [List.length_append, List.length_singleton]; omega)
    refine ⟨y, ?_⟩
    have e1 : mGSq (mGY (mVar 4)) mGNx out [some (.int (n : Nat)), some (.str (sS sg)), some (.lst (txs ys)), y3, some (.str (sS x)), none] m = .nx (out ++ [.str (sS x)]) [some (.int (n : Nat)), some (.str (sS sg)), some (.lst (txs ys)), y3, some (.str (sS x)), none] m := by
      unfold mGSq mGY
      rw [if_pos (show out.length < big by unfold big; omega)]
      rfl
    show gforFrom (gN 4) (mGSq (mGY (mVar 4)) mGNx) (T.str (sS x) :: txs xs) out _ m = _
    unfold gforFrom
    show (match mGSq (mGY (mVar 4)) mGNx out [some (.int (n : Nat)), some (.str (sS sg)), some (.lst (txs ys)), y3, some (.str (sS x)), none] m with
      | .nx out2 s2 h2 => gforFrom (gN 4) (mGSq (mGY (mVar 4)) mGNx) (txs xs) out2 s2 h2
      | .ct out2 s2 h2 => gforFrom (gN 4) (mGSq (mGY (mVar 4)) mGNx) (txs xs) out2 s2 h2
      | .bk out2 s2 h2 => .nx out2 s2 h2
      | r => r) = _
    rw [e1]
    dsimp only
    rw [e, show txs (x :: xs) = [T.str (sS x)] ++ txs xs from rfl, List.append_assoc]
abbrev G1 : MGB := mGPl (mIfS (mNot (mTru (mA (fP 3 m_is_within) (aCons (mVar 0) (aCons (mC (.int 0)) (aCons (mC t_MOST_ROUNDS) aNil)))))) (mSq (mRaise (fExn1 "InvalidCount" "InvalidCount" "given") (aCons (mVar 0) aNil)) mNx) mNx)
abbrev G2 : MGB := mGPl (mIfS (mNot (mTru (mA (fP 1 m_are_signs) (aCons (mVar 1) aNil)))) (mSq (mRaise (fExn1 "InvalidSign" "InvalidSign" "given") (aCons (mVar 1) aNil)) mNx) mNx)
abbrev G3 : MGB := mGPl (mSet 2 (mA fLst (aCons (mC (.str "")) aNil)))
abbrev G4 : MGB := mGPl (mFor (mIA iRg1 (aCons (mVar 0) aNil)) (gN 3) (mSq (mSet 2 LP) mNx))
abbrev G5 : MGB := mGFor (mSrc (mVar 2)) (gN 4) (mGSq (mGY (mVar 4)) mGNx)
theorem m_rows_eq : m_rows = mGDef 6 (mGSq G1 (mGSq G2 (mGSq G3 (mGSq G4 (mGSq G5 mGNx))))) := rfl
theorem gsq_nx {a b : MGB} {out out1 : List T} {s s1 : SM} {h h1 : MH} (e : a out s h = .nx out1 s1 h1) : mGSq a b out s h = b out1 s1 h1 := by
  unfold mGSq
  rw [e]
abbrev S0 (n : Nat) (y : Option T) : SM := [some (.int (n : Nat)), some (.str (sS sg)), y, none, none, none]
theorem rows_gen {n : Nat} (hn : n ≤ 6) (m : MH) (a1 : G1 [] (S0 n none) m = .nx [] (S0 n none) m) (a2 : G2 [] (S0 n none) m = .nx [] (S0 n none) m) : m_rows [.int (n : Nat), .str (sS sg)] m = .ok (.lst (txs (rowsM sg n))) m := by
  obtain ⟨y, e⟩ := loop_ok (n := n) m n 0 none (by omega)
  have hl : (rowsM sg n).length ≤ 4096 := by
    rw [len_pow]
    exact Nat.pow_le_pow_right (show 0 < 4 by decide) hn
  obtain ⟨z, e2⟩ := out_ok (n := n) (ys := rowsM sg n) (y3 := y) m (rowsM sg n) [] none (by rw [List.length_nil]; omega)
  rw [Nat.zero_add] at e
  have a3 : G3 [] (S0 n none) m = .nx [] (S2 n [[]] none) m := by
    show GnR.nx [] [some (.int (n : Nat)), some (.str (sS sg)), some (.lst [.str ""]), none, none, none] m = GnR.nx [] [some (.int (n : Nat)), some (.str (sS sg)), some (.lst [.str (sS [])]), none, none, none] m
    rw [← e_none]
  have a4 : G4 [] (S2 n [[]] none) m = .nx [] (S2 n (rowsM sg n) y) m := by
    have f : mFor (mIA iRg1 (aCons (mVar 0) aNil)) (gN 3) (mSq (mSet 2 LP) mNx) (S2 n [[]] none) m = forFrom (gN 3) (mSq (mSet 2 LP) mNx) (intsT 0 n) (S2 n [[]] none) m := by
      have r : (mIA iRg1 (aCons (mVar 0) aNil)) (S2 n [[]] none) m = .ok (intsT 0 n) m := wa_eqR hn m
      unfold mFor
      rw [r]
    show (match mFor (mIA iRg1 (aCons (mVar 0) aNil)) (gN 3) (mSq (mSet 2 LP) mNx) (S2 n [[]] none) m with
      | .nx s1 h1 => GnR.nx [] s1 h1 | .bk s1 h1 => .bk [] s1 h1 | .ct s1 h1 => .ct [] s1 h1 | .ex x s1 h1 => .ex x s1 h1 | .rt _ _ => .stuck | .stuck => .stuck) = _
    rw [f, show (intsT 0 n) = intsT ((0 : Nat) : Int) n from rfl, show S2 n [[]] none = S2 n (rowsM sg 0) none from rfl, e]
  have a5 : G5 [] (S2 n (rowsM sg n) y) m = .nx (txs (rowsM sg n)) [some (.int (n : Nat)), some (.str (sS sg)), some (.lst (txs (rowsM sg n))), y, z, none] m := by
    show gforFrom (gN 4) (mGSq (mGY (mVar 4)) mGNx) (txs (rowsM sg n)) [] (S2 n (rowsM sg n) y) m = _
    rw [e2, List.nil_append]
  rw [m_rows_eq]
  unfold mGDef
  show (match mGSq G1 (mGSq G2 (mGSq G3 (mGSq G4 (mGSq G5 mGNx)))) [] (S0 n none) m with
    | .nx out _ h1 => R.ok (.lst out) h1 | .ex x _ h1 => .ex x h1 | _ => .stuck) = _
  rw [gsq_nx a1, gsq_nx a2, gsq_nx a3, gsq_nx a4, gsq_nx a5]
  rfl
theorem rows6 (m : MH) : m_rows [.int 6, .str (sS sg)] m = .ok (.lst (txs (rowsM sg 6))) m := rows_gen (n := 6) (by omega) m (by kernel_rfl) (by kernel_rfl)
end L_k02
end part_Qc02
section part_Qb02
set_option maxRecDepth 100000
set_option maxHeartbeats 8000000
/-! the plain law of k02 -/
namespace L_k02
open PySem PySem.Spec PyProof.Rows L2 Mi
section
variable {P L : Addr} {h : MH} {Qc : T → MH → Prop} {X : Exc → MH → Prop} {s : SM}
theorem e_sg : T.str "blnr" = .str (sS [98, 108, 110, 114]) := by rw [e_signs]
theorem ofS {k : List Nat} (o : OkH Q P h) (h1 : k ≠ []) (h2 : k.length ≤ 1000) (w : ∀ c h', c ∈ k → OkH Q P h' → Qc (.str (sS [c])) h') : WE ((fS 2 m_law_of) [.ref 1, .str (sS k)] h) Qc X := by
  have hl := List.length_pos_iff.mpr h1
  refine we_fS rfl (we_def ?_)
  (repeat (with_reducible first | refine ws_sq ?_ | refine ws_set ?_ | refine we_var (by with_unfolding_all rfl) ?_ | refine we_c ?_ | refine wa_cons ?_ | refine wa_nil ?_ | refine we_m2 ?_ | refine we_mA ?_ | refine we_m1 ?_ | refine ws_nx ?_ | refine we_ftup (by with_unfolding_all rfl) ?_ | refine we_flst (by with_unfolding_all rfl) ?_ | refine we_tru ?_ | refine we_ftru ?_ | refine we_not ?_ | refine we_fnot_t ?_ | refine we_fnot_f ?_ | refine we_fnot ?_ | refine we_and ?_ | refine we_and_t ?_ | refine we_and_f ?_ | refine we_or ?_ | refine we_or_t ?_ | refine we_or_f ?_ | refine we_if ?_ | refine we_if_t ?_ | refine we_if_f ?_ | refine we_andv ?_ | refine we_andv_t ?_ | refine we_andv_f ?_ | refine we_orv ?_ | refine we_orv_t ?_ | refine we_orv_f ?_ | refine we_notv ?_ | refine we_fnotv_t ?_ | refine we_fnotv_f ?_ | refine we_fnotv ?_ | refine we_sl ?_ | refine we_part ?_ | refine we_chain ?_ | refine we_lc ?_ | refine wa_src ?_ | refine wa_IA ?_ | refine ws_ifs ?_ | refine ws_ifs_t ?_ | refine ws_ifs_f ?_ | refine ws_as ?_ | refine wg_n ?_ | refine wg_t (by with_unfolding_all rfl) ?_ | refine wg_p (by with_unfolding_all rfl) ?_ | refine wg_cons ?_ | refine wg_nil ?_ | refine ws_for ?_ | refine ws_ex ?_ | refine ws_ret ?_ | refine ws_retF ?_ | refine we_me ?_ | refine we_meth ?_ | refine we_methK ?_ | refine we_dget2 ?_ | refine we_fMkN (by with_unfolding_all rfl) ?_ | refine ws_raise ?_))
  refine we_at (fLen_s (Mi.big_of (by omega))) ?_
  (repeat (with_reducible first | refine ws_sq ?_ | refine ws_set ?_ | refine we_var (by with_unfolding_all rfl) ?_ | refine we_c ?_ | refine wa_cons ?_ | refine wa_nil ?_ | refine we_m2 ?_ | refine we_mA ?_ | refine we_m1 ?_ | refine ws_nx ?_ | refine we_ftup (by with_unfolding_all rfl) ?_ | refine we_flst (by with_unfolding_all rfl) ?_ | refine we_tru ?_ | refine we_ftru ?_ | refine we_not ?_ | refine we_fnot_t ?_ | refine we_fnot_f ?_ | refine we_fnot ?_ | refine we_and ?_ | refine we_and_t ?_ | refine we_and_f ?_ | refine we_or ?_ | refine we_or_t ?_ | refine we_or_f ?_ | refine we_if ?_ | refine we_if_t ?_ | refine we_if_f ?_ | refine we_andv ?_ | refine we_andv_t ?_ | refine we_andv_f ?_ | refine we_orv ?_ | refine we_orv_t ?_ | refine we_orv_f ?_ | refine we_notv ?_ | refine we_fnotv_t ?_ | refine we_fnotv_f ?_ | refine we_fnotv ?_ | refine we_sl ?_ | refine we_part ?_ | refine we_chain ?_ | refine we_lc ?_ | refine wa_src ?_ | refine wa_IA ?_ | refine ws_ifs ?_ | refine ws_ifs_t ?_ | refine ws_ifs_f ?_ | refine ws_as ?_ | refine wg_n ?_ | refine wg_t (by with_unfolding_all rfl) ?_ | refine wg_p (by with_unfolding_all rfl) ?_ | refine wg_cons ?_ | refine wg_nil ?_ | refine ws_for ?_ | refine ws_ex ?_ | refine ws_ret ?_ | refine ws_retF ?_ | refine we_me ?_ | refine we_meth ?_ | refine we_methK ?_ | refine we_dget2 ?_ | refine we_fMkN (by with_unfolding_all rfl) ?_ | refine ws_raise ?_))
  refine we_draw o (by omega) (by omega) fun r h' hr o' _ => ?_
  refine we_at (fIx_s (Mi.big_of (by omega)) (atI_nat hr)) ?_
  exact ⟨rfl, w _ _ (List.getElem_mem hr) o'⟩
/-- the drawn signs, one by one -/
theorem sg_drawn {y0 y1 y2 y3 y4 y5 y6 y7 y8 y9 y10 : Option T} (e1 : y1 = some (.ref 1)) : ∀ (k : List Nat) (acc : List Nat) {h : MH}, OkH Q P h → acc.length + k.length ≤ 10 → (∀ l h', l.Sublist k → OkH Q P h' → Qc (.lst (chs (acc ++ l))) h') →
    WE (lcFrom (gN 11) (m2 fEq (mA (fS 2 m_law_draw) (aCons (mVar 1) (aCons (mC (.int 2)) aNil))) (mC (.int 0))) (mVar 11) [y0, y1, y2, y3, y4, y5, y6, y7, y8, y9, y10, none] (chs k) (chs acc) h) Qc X
  | [], acc, h, o, _, w => we_lcnil (by have := w [] h .slnil o; rw [List.append_nil] at this; exact this)
  | c :: k, acc, h, o, hl, w => by
    subst e1
    rw [List.length_cons] at hl
    refine we_lccons (by unfold chs; rw [List.length_map]; omega) ?_
    refine wg_n ?_
    refine we_m2 (we_mA (wa_cons (we_var rfl (wa_cons (we_c (wa_nil ?_))))))
    refine we_draw (n := 2) o (by decide) (by decide) fun r h' hr o' _ => we_c ?_
    have hr : r = 0 ∨ r = 1 := by omega
    rcases hr with rfl | rfl
    · refine we_at (t := .bl true) (h := h') rfl (.inl ⟨rfl, we_var rfl ?_⟩)
      have e : chs acc ++ [T.str (sS [c])] = chs (acc ++ [c]) := by unfold chs; rw [List.map_append]; rfl
      rw [e]
      refine sg_drawn rfl k (acc ++ [c]) o' (by rw [List.length_append, List.length_singleton]; omega) fun l h2 hs o2 => ?_
      have := w (c :: l) h2 (hs.cons₂ c) o2
      rw [List.append_assoc]
      exact this
    · refine we_at (t := .bl false) (h := h') rfl (.inr ⟨rfl, ?_⟩)
      exact sg_drawn rfl k acc o' (by omega) fun l h2 hs o2 => w l h2 (hs.cons c) o2
theorem sub1 {a : Nat} {r : List Nat} {p : List Nat → Prop} (h1 : ∀ l, l.Sublist r → p l) (h2 : ∀ l, l.Sublist r → p (a :: l)) {l : List Nat} (hl : l.Sublist (a :: r)) : p l := by
  rcases List.sublist_cons_iff.mp hl with h | ⟨l1, rfl, h⟩
  · exact h1 l h
  · exact h2 l1 h
theorem sub0 {p : List Nat → Prop} (h : p []) {l : List Nat} (hl : l.Sublist []) : p l := by
  rw [List.sublist_nil.mp hl]
  exact h
theorem sub_all {l : List Nat} (hl : l.Sublist [98, 108, 110, 114]) : l = [] ∨ l ∈ subs := by
  refine sub1 (p := fun l => l = [] ∨ l ∈ subs) (fun l h => ?_) (fun l h => ?_) hl
  all_goals clear hl
  · refine sub1 (p := fun l => l = [] ∨ l ∈ subs) (fun l h => ?_) (fun l h => ?_) h
    · refine sub1 (p := fun l => l = [] ∨ l ∈ subs) (fun l h => ?_) (fun l h => ?_) h
      · exact sub1 (p := fun l => l = [] ∨ l ∈ subs) (fun l h => sub0 (p := fun l => l = [] ∨ l ∈ subs) (by decide) h) (fun l h => sub0 (p := fun l => 114 :: l = [] ∨ 114 :: l ∈ subs) (by decide) h) h
      · exact sub1 (p := fun l => 110 :: l = [] ∨ 110 :: l ∈ subs) (fun l h => sub0 (p := fun l => 110 :: l = [] ∨ 110 :: l ∈ subs) (by decide) h) (fun l h => sub0 (p := fun l => 110 :: 114 :: l = [] ∨ 110 :: 114 :: l ∈ subs) (by decide) h) h
    · refine sub1 (p := fun l => 108 :: l = [] ∨ 108 :: l ∈ subs) (fun l h => ?_) (fun l h => ?_) h
      · exact sub1 (p := fun l => 108 :: l = [] ∨ 108 :: l ∈ subs) (fun l h => sub0 (p := fun l => 108 :: l = [] ∨ 108 :: l ∈ subs) (by decide) h) (fun l h => sub0 (p := fun l => 108 :: 114 :: l = [] ∨ 108 :: 114 :: l ∈ subs) (by decide) h) h
      · exact sub1 (p := fun l => 108 :: 110 :: l = [] ∨ 108 :: 110 :: l ∈ subs) (fun l h => sub0 (p := fun l => 108 :: 110 :: l = [] ∨ 108 :: 110 :: l ∈ subs) (by decide) h) (fun l h => sub0 (p := fun l => 108 :: 110 :: 114 :: l = [] ∨ 108 :: 110 :: 114 :: l ∈ subs) (by decide) h) h
  · refine sub1 (p := fun l => 98 :: l = [] ∨ 98 :: l ∈ subs) (fun l h => ?_) (fun l h => ?_) h
    · refine sub1 (p := fun l => 98 :: l = [] ∨ 98 :: l ∈ subs) (fun l h => ?_) (fun l h => ?_) h
      · exact sub1 (p := fun l => 98 :: l = [] ∨ 98 :: l ∈ subs) (fun l h => sub0 (p := fun l => 98 :: l = [] ∨ 98 :: l ∈ subs) (by decide) h) (fun l h => sub0 (p := fun l => 98 :: 114 :: l = [] ∨ 98 :: 114 :: l ∈ subs) (by decide) h) h
      · exact sub1 (p := fun l => 98 :: 110 :: l = [] ∨ 98 :: 110 :: l ∈ subs) (fun l h => sub0 (p := fun l => 98 :: 110 :: l = [] ∨ 98 :: 110 :: l ∈ subs) (by decide) h) (fun l h => sub0 (p := fun l => 98 :: 110 :: 114 :: l = [] ∨ 98 :: 110 :: 114 :: l ∈ subs) (by decide) h) h
    · refine sub1 (p := fun l => 98 :: 108 :: l = [] ∨ 98 :: 108 :: l ∈ subs) (fun l h => ?_) (fun l h => ?_) h
      · exact sub1 (p := fun l => 98 :: 108 :: l = [] ∨ 98 :: 108 :: l ∈ subs) (fun l h => sub0 (p := fun l => 98 :: 108 :: l = [] ∨ 98 :: 108 :: l ∈ subs) (by decide) h) (fun l h => sub0 (p := fun l => 98 :: 108 :: 114 :: l = [] ∨ 98 :: 108 :: 114 :: l ∈ subs) (by decide) h) h
      · exact sub1 (p := fun l => 98 :: 108 :: 110 :: l = [] ∨ 98 :: 108 :: 110 :: l ∈ subs) (fun l h => sub0 (p := fun l => 98 :: 108 :: 110 :: l = [] ∨ 98 :: 108 :: 110 :: l ∈ subs) (by decide) h) (fun l h => sub0 (p := fun l => 98 :: 108 :: 110 :: 114 :: l = [] ∨ 98 :: 108 :: 110 :: 114 :: l ∈ subs) (by decide) h) h
theorem ws_cut {m1 rest : MS} {N : SM → MH → Prop} {V : T → MH → Prop} {Y : Exc → SM → MH → Prop} (I : SM → MH → Prop) (w : WS (m1 s h) I V Y) (c : ∀ s h, I s h → WS (rest s h) N V Y) : WS (mSq m1 rest s h) N V Y := ws_sq (ws_mono w c)
theorem ne_e (l : List Nat) (m : MH) : fNe (.str (sS l)) (.str "") m = .ok (.bl (!decide (l = []))) m := by
  rw [show T.str "" = .str (sS []) from congrArg T.str e_none]
  exact fNe_s l [] m
theorem g1 {n : Nat} {k : List Nat} {y0 y1 y2 y4 y5 y6 y8 y9 y10 y11 : Option T} (hn : n ≤ 4) (hk : k ∈ subs) : mLcG (mKwO 1 1 [0, 1] (List.map Prod.snd ([] : List (Str × T))) (gFs 2 nsL m_rows) (aCons (mVar 7) aNil) (aCons (mVar 3) aNil)) [y0, y1, y2, some (.str (sS k)), y4, y5, y6, some (.int (n : Nat)), y8, y9, y10, y11] h = .ok (.lst (txs (rowsM k n))) h := by
  unfold mLcG mKwO aCons mVar aNil
  show (match gR [.int (n : Nat), .str (sS k)] h with | .ok (.lst out) h1 => R.ok (.lst out) h1 | .ok _ _ => .stuck | .ex x h1 => .ex x h1 | .stuck => .stuck) = _
  rw [gR_ok hn hk]
theorem g2 {n : Nat} {k : List Nat} {y0 y1 y2 y4 y5 y6 y8 y9 y10 y11 : Option T} (hn : n ≤ 4) (hk : k ∈ subs) : mLcG (mKwO 0 2 [1, 0] (List.map Prod.snd ([] : List (Str × T))) (gFs 2 nsL m_rows) aNil (aCons (mVar 3) (aCons (mVar 7) aNil))) [y0, y1, y2, some (.str (sS k)), y4, y5, y6, some (.int (n : Nat)), y8, y9, y10, y11] h = .ok (.lst (txs (rowsM k n))) h := by
  unfold mLcG mKwO aCons mVar aNil
  show (match gR [.int (n : Nat), .str (sS k)] h with | .ok (.lst out) h1 => R.ok (.lst out) h1 | .ok _ _ => .stuck | .ex x h1 => .ex x h1 | .stuck => .stuck) = _
  rw [gR_ok hn hk]
theorem gD {s0 : SM} (n : Int) (h : MH) : mLcG (mKwO 1 0 [0, 1] (List.map Prod.snd ([("signs", .str "blnr")] : List (Str × T))) (gFs 2 nsL m_rows) (aCons (mC (.int n)) aNil) aNil) s0 h = (match gR [.int n, .str "blnr"] h with | .ok (.lst out) h1 => R.ok (.lst out) h1 | .ok _ _ => .stuck | .ex x h1 => .ex x h1 | .stuck => .stuck) := by
  unfold mLcG mKwO aCons mC aNil
  rfl
theorem gE (h : MH) : gR [.int 6, .str "blnr"] h = .ok (.lst (txs (rowsM sg 6))) h := by
  have k : ∀ (r : R), m_rows [.int 6, .str (sS sg)] h = r → (∀ x h1, r ≠ .ex x h1) → gR [.int 6, .str (sS sg)] h = r := fun r e ne => by
    show gFs 2 nsL m_rows [.int 6, .str (sS sg)] h = r
    unfold gFs
    rw [if_pos (show [T.int 6, .str (sS sg)].length = 2 from rfl), e]
    cases r with
    | ex x h1 => exact absurd rfl (ne x h1)
    | ok t h1 => rfl
    | stuck => rfl
  rw [show T.str "blnr" = .str (sS sg) from congrArg T.str e_signs]
  exact k _ (rows6 h) fun x h1 e => by cases e
theorem g6 {s0 : SM} (h : MH) : mLcG (mKwO 1 0 [0, 1] (List.map Prod.snd ([("signs", .str "blnr")] : List (Str × T))) (gFs 2 nsL m_rows) (aCons (mC (.int 6)) aNil) aNil) s0 h = .ok (.lst (txs (rowsM sg 6))) h := by
  rw [gD, gE]
theorem g0 {s0 : SM} (h : MH) : mLcG (mKwO 1 0 [0, 1] (List.map Prod.snd ([("signs", .str "blnr")] : List (Str × T))) (gFs 2 nsL m_rows) (aCons (mC (.int 0)) aNil) aNil) s0 h = .ok (.lst [.str ""]) h := by kernel_rfl
theorem fLen_l (xs : List T) (h : MH) : fLen [.lst xs] h = .ok (.int (xs.length : Nat)) h := rfl
theorem six : ∃ xs : List T, xs.length = 4096 ∧ ∀ (s0 : SM) (h : MH), mLcG (mKwO 1 0 [0, 1] (List.map Prod.snd ([("signs", .str "blnr")] : List (Str × T))) (gFs 2 nsL m_rows) (aCons (mC (.int 6)) aNil) aNil) s0 h = .ok (.lst xs) h :=
  ⟨txs (rowsM sg 6), by rw [List.length_map, len_pow]; decide, fun s0 h => g6 h⟩
theorem ne_n (x : Int) (h : MH) : fNe (.int x) (.int x) h = .ok (.bl false) h := by
  show R.ok (.bl (!decide (x = x))) h = _
  rw [decide_eq_true rfl]
  rfl
theorem app3 {s0 : SM} {a b : T} (o : OkH Q P (h ++ [.lst [a, b]])) (e6 : s0[6]? = some (some (.ref h.length)) := by rfl) : mEx (mMe "list" fAppend (mVar 6) (aCons (mLam 2 LI_2 (C_law L) P) aNil)) s0 (h ++ [.lst [a, b]]) = .nx s0 (h ++ [.lst [a, b, .fn 2 LI_2 (C_law L)]]) := by
  have e1 : (h ++ [MO.lst [a, b]])[h.length]? = some (.lst [a, b]) := by simp
  have e2 := app_at (t := .fn 2 LI_2 (C_law L)) e1 (by simp)
  have e3 : (h ++ [MO.lst [a, b]]).set h.length (.lst ([a, b] ++ [.fn 2 LI_2 (C_law L)])) = h ++ [.lst [a, b, .fn 2 LI_2 (C_law L)]] := by simp
  rw [e3] at e2
  have e4 : mMe "list" fAppend (mVar 6) (aCons (mLam 2 LI_2 (C_law L) P) aNil) s0 (h ++ [.lst [a, b]]) = .ok .non (h ++ [.lst [a, b, .fn 2 LI_2 (C_law L)]]) := by
    refine we_eq (we_me (we_var e6 ⟨?_, wa_cons (we_lam o rfl (wa_nil (we_at e2 ⟨rfl, rfl⟩)))⟩))
    unfold tyOK
    simp
  unfold mEx
  rw [e4]
  rfl
theorem one_sub {c : Nat} (hc : c ∈ [98, 108, 110, 114]) : [c] ∈ subs := of4 (p := fun c => [c] ∈ subs) hc (by decide) (by decide) (by decide) (by decide)
theorem odd_pl (x : T) (hx : x ∈ ODD) : Mi.Pl 6 x := by
  simp only [ODD, List.mem_cons, List.not_mem_nil, or_false] at hx
  rcases hx with rfl | rfl | rfl | rfl | rfl
  · exact .int _
  · exact .int _
  · exact .non
  · exact .bl _
  · exact .str _
theorem bad_pl (x : T) (hx : x ∈ BAD) : Mi.Pl 6 x := by
  simp only [BAD, List.mem_cons, List.not_mem_nil, or_false] at hx
  rcases hx with rfl | rfl | rfl | rfl | rfl | rfl | rfl
  · exact .str _
  · exact .str _
  · exact .str _
  · exact .str _
  · exact .non
  · exact .int _
  · exact .lst (Pl.lc (.str _) Pl.l0) (Mi.big_of (by simp))
abbrev FN (L : Addr) : List T := [.fn 0 LI_0 (C_law L), .fn 1 LI_1 (C_law L), .fn 2 LI_2 (C_law L)]
end
theorem pure_law (P L : Nat) {ns : List Int} {t0 : T} (_ : ns.length ≤ 63) (h0 : t0 = .frl (ns.map T.int) ∨ t0 = .lst (ns.map T.int)) : ∃ h', m_law P L [t0] [.tab Q P] = .ok (.bl true) h' := by
  obtain ⟨o, b1, B1⟩ := bag_t h0 [.tab Q P]
  have w : WE (m_law P L [t0] [.tab Q P]) (fun t _ => t = .bl true) (fun _ _ => False) := by
    refine we_def ?_
    refine ws_sq (ws_set (we_mA (wa_cons (we_var rfl (wa_nil (we_at (show (fS 1 m_law_bag) [t0] [.tab Q P] = .ok (.ref 1) ([.tab Q P] ++ [o]) from b1) ?_))))))
    have o1 : OkH Q P ([MO.tab Q P] ++ [o]) := ⟨rfl, B1⟩
    generalize [MO.tab Q P] ++ [o] = h1 at o1
    clear B1 b1
    refine ws_sq (ws_for (wa_IA (wa_cons (we_c (wa_nil (wa_at (ts := intsT 0 6) rfl ?_))))))
    refine ws_inv (fun _ s h => OkH Q P h ∧ ∃ y2 y3 y4 y5 y6 y7 y8 y9 y10 y11, s = [some t0, some (.ref 1), y2, y3, y4, y5, y6, y7, y8, y9, y10, y11]) ?_ ?_ _ _ _ ⟨o1, none, none, none, none, none, none, none, none, none, none, rfl⟩
    · rintro s h ⟨o, y2, y3, y4, y5, y6, y7, y8, y9, y10, y11, rfl⟩
      refine ws_fzB rfl o.bag fun ys => ?_
      obtain ⟨x6, l6, g6⟩ := six
      refine ws_sq (ws_ifs (we_or (we_m2 (we_mA (wa_cons (we_at (g6 _ _) (wa_nil (we_at (fLen_l _ _) ?_))))))))
      rw [l6]
      refine we_c (we_at (ne_n 4096 _) (we_or_f ?_))
      refine we_m2 (we_at (g0 _) (we_at (t := .lst [.str ""]) (h := h.set 1 .dead) rfl (we_at (t := .bl false) (h := h.set 1 .dead) (by kernel_rfl) (ws_ifs_f (ws_nx ?_)))))
      refine ws_ar (t := .bl true) (h := h.set 1 .dead) ?_ rfl
      kernel_rfl
    · rintro x xs s h ⟨o, y2, y3, y4, y5, y6, y7, y8, y9, y10, y11, rfl⟩
      clear o1
      refine wg_n ?_
      refine ws_sq (ws_as (we_mA (wa_cons (we_mA (wa_cons (we_var rfl (wa_cons (we_c (wa_nil ?_))))))))) 
      refine we_draw (n := 5) o (by decide) (by decide) fun n h hn o _ => ?_
      have hn4 : n ≤ 4 := by omega
      refine wa_cons (we_me (we_c ⟨rfl, wa_cons (we_lc (wa_src (we_c (wa_iS (xs := chs [98, 108, 110, 114]) rfl ?_)))) ⟩))
      refine sg_drawn (y0 := some t0) (y1 := some (.ref 1)) (y2 := some x) (y3 := y3) (y4 := y4) (y5 := y5) (y6 := y6) (y7 := y7) (y8 := y8) (y9 := y9) (y10 := y10) rfl [98, 108, 110, 114] [] o (by decide) fun l h hl o => ?_
      rw [List.nil_append]
      have ll : l.length ≤ 4 := hl.length_le
      refine wa_nil (we_at (fJoin_chs (by omega) _) (wa_nil (we_ftup rfl (wg_t rfl (wg_cons (wg_n (wg_cons (wg_n (wg_nil ?_)))))))))
      refine ws_cut (fun s h => OkH Q P h ∧ ∃ k, k ∈ subs ∧ s = [some t0, some (.ref 1), some x, some (.str (sS k)), y4, y5, y6, some (.int (n : Nat)), y8, y9, y10, y11]) ?_ ?_
      · refine ws_set (we_if (we_m2 (we_var rfl (we_c (we_at (ne_e l _) ?_)))))
        by_cases e : l = []
        · subst e
          refine we_if_f (we_mA (wa_cons (we_var rfl (wa_cons (we_c (wa_nil ?_))))))
          rw [e_sg]
          refine ofS o (by simp) (by simp) fun c h' hc o' => ?_
          exact ⟨o', [c], one_sub hc, rfl⟩
        · rw [decide_eq_false e]
          refine we_if_t (we_var rfl ?_)
          refine ⟨o, l, ?_, rfl⟩
          rcases sub_all hl with z | z
          · exact absurd z e
          · exact z
      clear o hl ll
      rintro s h ⟨o, k, hk, rfl⟩
      have lk := len_rows hn4 hk
      have okr := rows_mem (okr_sub hk) n
      refine ws_sq (ws_set (we_at (due_ok hn4 hk _ _ _ _ _ _ _ _ _ _ _) ?_))
      refine ws_sq (ws_set (we_at (g1 hn4 hk) ?_))
      refine ws_sq (ws_ifs (we_or (we_not (we_tru (we_mA (wa_cons (we_var rfl (wa_cons (we_var rfl (wa_nil (we_at (alk (pl_rows (by omega)) _) (we_ftru (we_fnot_t (we_or_f ?_))))))))))))))
      refine we_m2 (we_var rfl (we_at (g2 hn4 hk) (we_at (ne_rows okr _) (ws_ifs_f (ws_nx ?_)))))
      refine ws_sq (ws_as (we_mA (wa_cons (we_mA (wa_cons (we_var rfl (wa_cons (we_at (t := .lst ODD) (h := h) (by with_unfolding_all rfl) (wa_nil ?_)))))))))
      refine we_of (xs := ODD) o (by simp [ODD]) (by simp [ODD]) rfl fun z h hz o _ => ?_
      refine wa_cons (we_mA (wa_cons (we_var rfl (wa_cons (we_at (t := .lst BAD) (h := h) (by with_unfolding_all rfl) (wa_nil ?_))))))
      refine we_of (xs := BAD) o (by simp [BAD]) (by simp [BAD]) rfl fun b h hb o _ => ?_
      refine wa_nil (we_ftup rfl (wg_t rfl (wg_cons (wg_n (wg_cons (wg_n (wg_nil ?_)))))))
      refine ws_sq (ws_set (we_mA (wa_cons (we_lam o rfl (wa_cons (we_lam o rfl (wa_nil (we_at (t := .ref h.length) (h := h ++ [.lst [.fn 0 LI_0 (C_law L), .fn 1 LI_1 (C_law L)]]) rfl ?_))))))))
      have o2 : OkH Q P (h ++ [.lst [.fn 0 LI_0 (C_law L), .fn 1 LI_1 (C_law L)]]) := o.app
      refine ws_sq (ws_at (h := h ++ [.lst (FN L)]) (app3 o2) ?_)
      have o3 : OkH Q P (h ++ [.lst (FN L)]) := o.app
      refine ws_fz (k := h.length) (ys := FN L) rfl (by simp) ?_
      have e4 : (h ++ [MO.lst (FN L)]).set h.length .dead = h ++ [.dead] := by simp
      rw [e4]
      have o4 : OkH Q P (h ++ [MO.dead]) := o.app
      refine ws_sq (ws_ifs (we_not (we_tru (we_mA (wa_cons ?_)))))
      refine we_lends (tab := tabL) (ct := ct_why) (su := su) o4 rfl (by kernel_rfl) (by kernel_rfl) (by simp) (.cons (k := 0) (e := LE_0) (ask0 (y := b) hz) rfl (by kernel_rfl) (by kernel_rfl) (.cons (k := 1) (e := LE_1) (ask1 hb) rfl (by kernel_rfl) (by kernel_rfl) (.cons (k := 2) (e := LE_2) (ask2 (x := z) (y := b)) rfl (by kernel_rfl) (by kernel_rfl) .nil))) fun h9 o9 => ?_
      refine wa_cons (we_at (t := .lst [.tup [.str "InvalidCount", z], .tup [.str "InvalidSign", b], .tup [.str "", .lst []]]) (h := h9) (by with_unfolding_all rfl) (wa_nil ?_))
      refine we_at (alk (.lst (Pl.lc (odd_pl z hz).ans (Pl.lc (bad_pl b hb).ans (Pl.lc (Pl.ans (.lst Pl.l0 (Mi.big_of (by simp)))) Pl.l0))) (Mi.big_of (by simp))) _) (we_ftru (we_fnot_t (ws_ifs_f (ws_nx (ws_nx ?_)))))
      exact ⟨o9, _, _, _, _, _, _, _, _, _, _, rfl⟩
  obtain ⟨t, h', e, rfl⟩ := we_out w
  exact ⟨h', e⟩
end L_k02
end part_Qb02
section part_Mi87
set_option maxRecDepth 100000
set_option maxHeartbeats 4000000
/-! Mi, part 87: the facts of parts 83 to 86, as Bools of the head. -/
namespace Mi
open PySem PySem.Spec PyProof.Rows L2
open NdefX (NF)
section
variable {P : Program} {K : PySem.W.Frag} {mg : Str → Option Value} {h : Heap} {c cB x file : Str} {st : Stmt} {kdts : List (Str × T)}
theorem funOB_ok {qual : Str} (X : K.In h) (G : h.Ns mainGlobals mg) (e : fnS K (He.ga K x) = some (x, qual, defArgs st, .stmts (defBody st), defScope st, mainGlobals, builtinsNs)) (b : funOB K x qual kdts = true) (hne : kdts ≠ []) : FunO K mg x qual st kdts := by
  obtain ⟨b1, b2⟩ := bb b
  obtain ⟨fd, kvs, z1, z2, z3, z4⟩ := okK_ok (mg := mg) e b2 hne
  exact ⟨_, fd, kvs, PySem.W.mg_of X G (He.eqO_ok b1), z1, z2, z3, z4⟩
end
end Mi
end part_Mi87
section part_H02
set_option maxRecDepth 100000
set_option maxHeartbeats 0
namespace L_k02
open PySem PySem.Spec PyProof.Rows L2 Mi
theorem ob_eq (s : PySem.W.SharedT) : ob s = hk.obs s.abs := obsZ_eq (HandSHeadRun.getT_eq s)
theorem run (w : World) : HandSHeadRun.RunEq Rw0 qv hk ob 7000 names w := PySem.W.byRow2 "special-get-raises" run_false run_true w
abbrev PP : Program := (PySem.Challenge.rw_hushaccord_k02_whole_rows_in_order).prog
theorem env {K : PySem.W.Frag} {h base : Heap} {mg : Str → Option Value} {w : World} (X : K.In h) (G : h.Ns mainGlobals mg) (c0 : SaysY fa fn sf ex K) : Env PP w base K mg := by
  have c := c0.d
  have CL : ∀ f, mg "law" = some (.ref f) → CodeAt K f (He.cT K ("law", none)).1 := fun f e => by
    obtain ⟨fd, F⟩ := c.def_ 13 (d := d_law) rfl
    have m : mg "law" = some (.ref (He.fAd K ("law", none))) := He.glo_ok X G (c.fact 13 (f := .glo "law") rfl)
    rw [m] at e
    cases e
    exact code_at_of F
  have b0 : ex K = true := c0.more
  unfold ex at b0
  obtain ⟨x0, b1⟩ := bb b0
  obtain ⟨x1, b2⟩ := bb b1
  obtain ⟨x2, b3⟩ := bb b2
  obtain ⟨x3, b4⟩ := bb b3
  obtain ⟨x4, b5⟩ := bb b4
  obtain ⟨x5, b6⟩ := bb b5
  obtain ⟨x6, b7⟩ := bb b6
  obtain ⟨x7, b8⟩ := bb b7
  have x8 := b8
  exact ⟨He.free_ok X G (c.fact 14 (f := .free "all") rfl),
    He.free_ok X G (c.fact 15 (f := .free "bool") rfl),
    He.free_ok X G (c.fact 16 (f := .free "int") rfl),
    He.free_ok X G (c.fact 17 (f := .free "isinstance") rfl),
    He.free_ok X G (c.fact 18 (f := .free "len") rfl),
    He.free_ok X G (c.fact 19 (f := .free "list") rfl),
    He.free_ok X G (c.fact 20 (f := .free "range") rfl),
    He.free_ok X G (c.fact 21 (f := .free "str") rfl),
    He.free_ok X G (c.fact 22 (f := .free "tuple") rfl),
    He.free_ok X G (c.fact 23 (f := .free "zip") rfl),
    (let ⟨fd, F⟩ := c.def_ 0 (d := d__law_alike) rfl; ⟨_, fd, F, He.glo_ok X G (c.fact 0 (f := .glo "_law_alike") rfl)⟩),
    (let ⟨fd, F⟩ := c.def_ 1 (d := d__law_all_rows) rfl; ⟨_, fd, F, He.glo_ok X G (c.fact 1 (f := .glo "_law_all_rows") rfl)⟩),
    (let ⟨fd, F⟩ := c.def_ 2 (d := d__law_bag) rfl; ⟨_, fd, F, He.glo_ok X G (c.fact 2 (f := .glo "_law_bag") rfl)⟩),
    (let ⟨fd, F⟩ := c.def_ 3 (d := d__law_draw) rfl; ⟨_, fd, F, He.glo_ok X G (c.fact 3 (f := .glo "_law_draw") rfl)⟩),
    (let ⟨fd, F⟩ := c.def_ 4 (d := d__law_of) rfl; ⟨_, fd, F, He.glo_ok X G (c.fact 4 (f := .glo "_law_of") rfl)⟩),
    (let ⟨fd, F⟩ := c.def_ 5 (d := d__law_field) rfl; ⟨_, fd, F, He.glo_ok X G (c.fact 5 (f := .glo "_law_field") rfl)⟩),
    (let ⟨fd, F⟩ := c.def_ 6 (d := d_is_row) rfl; ⟨_, fd, F, He.glo_ok X G (c.fact 6 (f := .glo "is_row") rfl)⟩),
    (let ⟨fd, F⟩ := c.def_ 7 (d := d_rising) rfl; ⟨_, fd, F, He.glo_ok X G (c.fact 7 (f := .glo "rising") rfl)⟩),
    (let ⟨fd, F⟩ := c.def_ 8 (d := d_are_signs) rfl; ⟨_, fd, F, He.glo_ok X G (c.fact 8 (f := .glo "are_signs") rfl)⟩),
    (let ⟨fd, F⟩ := c.def_ 9 (d := d_is_number) rfl; ⟨_, fd, F, He.glo_ok X G (c.fact 9 (f := .glo "is_number") rfl)⟩),
    (let ⟨fd, F⟩ := c.def_ 10 (d := d_is_within) rfl; ⟨_, fd, F, He.glo_ok X G (c.fact 10 (f := .glo "is_within") rfl)⟩),
    funOB_ok X G (c0.def_ 2 (q := p_rows) rfl) x0 (by decide),
    (let ⟨fd, F⟩ := c.def_ 11 (d := d__law_why) rfl; ⟨_, fd, F, He.glo_ok X G (c.fact 11 (f := .glo "_law_why") rfl)⟩),
    (let ⟨fd, F⟩ := c.def_ 12 (d := d__law_whys) rfl; ⟨_, fd, F, He.glo_ok X G (c.fact 12 (f := .glo "_law_whys") rfl)⟩),
    (let ⟨fd, F⟩ := c.def_ 13 (d := d_law) rfl; ⟨_, fd, F, He.glo_ok X G (c.fact 13 (f := .glo "law") rfl)⟩),
    kV_of X G x1,
    kV_of X G x2,
    hasE1_of base_VE X G x3 (c0.def_ 0 (q := e_InvalidCount) rfl) rfl (by decide +kernel) (by decide) (by decide) rfl (fun _ => ⟨_, rfl⟩) (by decide +kernel) rfl ⟨_, rfl, rfl⟩ (by decide) (by decide) (fun _ _ _ _ _ _ _ => rfl) (fun _ _ _ _ _ _ _ => rfl),
    hasE1_of base_VE X G x4 (c0.def_ 1 (q := e_InvalidSign) rfl) rfl (by decide +kernel) (by decide) (by decide) rfl (fun _ => ⟨_, rfl⟩) (by decide +kernel) rfl ⟨_, rfl, rfl⟩ (by decide) (by decide) (fun _ _ _ _ _ _ _ => rfl) (fun _ _ _ _ _ _ _ => rfl),
    fldXB_ok X G x5,
    fldXB_ok X G x6,
    He.glo_ok X G (c.fact 24 (f := .glo "PostError") rfl),
    He.glo_ok X G (c.fact 25 (f := .glo "Missing") rfl),
    He.glo_ok X G (c.fact 26 (f := .glo "NothingLeft") rfl),
    exm3B_ok X G x7,
    (fun f e => CL f e),
    noStB_ok X G x8⟩
end L_k02
open PySem PySem.W PySem.Calls PyProof.Rows
theorem PySem.Challenge.cw_hushaccord_k02_whole_rows_in_order_holds : PySem.Challenge.rw_hushaccord_k02_whole_rows_in_order.Holds := by
  w_on; o_law
  refine HandSHeadRun.head_any (r := OpenLaw.row PySem.Challenge.rw_hushaccord_k02_whole_rows_in_order) (q := view (OpenLaw.row PySem.Challenge.rw_hushaccord_k02_whole_rows_in_order).prog [25]) (H := L_k02.hk) (ob := L_k02.ob) (M := 7000) (loose := L_k02.names) (d := HandSHeadRun.topDef (OpenLaw.row PySem.Challenge.rw_hushaccord_k02_whole_rows_in_order).prog 25) (kwd := []) L_k02.ob_eq
    (by kernel_rfl) (fun s => by kernel_rfl) L_k02.run (by kernel_rfl) (by kernel_rfl) (by kernel_rfl) (by rfl) (by first | assumption | decide +kernel) (by decide +kernel) ⟨rfl, rfl, rfl, rfl, rfl, by decide +kernel⟩ ?hw ?hc
  case hw => w_witness2
  case hc =>
    refine Mi.walk_ofZ (l := PySem.Challenge.rw_hushaccord_k02_whole_rows_in_order) (n := 63) (k := 10) (x := "_law_script") (CX := L2.CX0) rfl (by decide) (by kernel_rfl) ⟨rfl, by decide, by decide⟩ ?F (fun _ _ _ _ z => z)
    intro w mg fa h Y G hmg0
    obtain ⟨K, KX, c⟩ := Y
    have hmg : mg ("law" : PySem.Str) = some (.ref fa) := by
      have e : (HandSHeadRun.topDef (OpenLaw.row PySem.Challenge.rw_hushaccord_k02_whole_rows_in_order).prog 25).name = ("law" : PySem.Str) := by kernel_rfl
      rw [← e]
      exact hmg0
    have Y := fun base : Heap => L_k02.env (base := base) (w := w) KX G c.y
    obtain ⟨f, fd, F, hm⟩ := (Y h).d_law
    cases hmg.symm.trans hm
    have one : ∀ {p : Addr × Addr}, p ∈ [He.cT K ("law", none)] → p = He.cT K ("law", none) := fun hp => List.mem_singleton.mp hp
    exact ⟨K, fd, [He.cT K ("law", none)], fun vs H Q _ => Mi.spML K mg 1 (L_k02.m_law (He.cT K ("law", none)).2) vs H Q fun _ _ _ => False, KX, fun p hp => by rw [one hp]; exact c.empty _ (List.mem_cons_self ..), fun p hp => by rw [one hp]; exact c.out _ (List.mem_cons_self ..), fun p hp => by rw [one hp]; exact PySem.W.codeHd_of_K KX (c.hd _ (List.mem_cons_self ..)), fun s v => (L2.FunD.bindsA (ps := ["_law_script"]) F fun _ _ _ _ _ _ us hl => match us, hl with | [_], _ => rfl) s [v] rfl,
      fun H a ns hl hT hS => Mi.law_spT (fun L t ht => L_k02.pure_law (He.cT K ("law", none)).2 L hl ht) (hT _ (List.mem_cons_self ..)) hS, fun base _ _ hTB => Mi.law_atL F hm (L_k02.ok_law (P := (PySem.Challenge.rw_hushaccord_k02_whole_rows_in_order).prog) (w := w) (base := base) (Y base) (hTB _ (List.mem_cons_self ..)))⟩
end part_H02
