import PyProof.Rows.All
import Wide.All
import OpenK.AllK
import Wide.FinOn
import KE.KStateDown
import KE.KNest
import KE.KExcInit
import KE.KTryMore
import HandS.Head0
import HandS.Head1
import HandS.Head2
import HandS.HeadEnd
import HandS.HeadHook1
import HandS.HeadHook2
import HandS.ForMost
import HandS.Walk
import HandS.Defaults
import HandS.Lambda
import HandS.ExcCtx
import KE.KDictKeyed
import HandS.Property
import HandS.ClsMeth
import HandS.TupAny
import HandS.Wide
import HandS.WideBits
import HandS.IsInst
import HandS.Style
import HandS.Text
import KE.KTupSum
import KE.GoesEnum
import HandS.Zip
import HandS.MakeKwOnly
import HandS.SortKw
import HandS.SortInts
import HandS.Rev
import HandS.FStr
import HandS.ListItems
import PyProof.Draws
import HandS.ExcInit
import HandS.OwnEq
import KE.KDictZip
import KE.KOpsOwn
import KE.DatumOrd
import PyProof.ListNew
import HandS.Star
import PyProof.ReprRoads
import KE.KFmtOwn
import HandS.TryOnly
import HandS.More
import KE.KExcIs
import HandS.ExcField
import KE.Datum
import HandS.SetFor
import HandS.HotCalls
import HandS.RaiseMore
import HandS.EndTab
import PyProof.InstStoreFacts
import PyProof.ExcBaseAll.ValueError
import PyProof.ExcBaseAll.LookupError
import PyProof.ExcBaseAll.ArithmeticError
import HandS.Dict
import HandS.Hot
import PyProof.StrLawsRepr
import HandS.Conv
import KE.KDictWalk
import PyProof.MaxThree
import HandS.Flt
import PySem.Challenge.RW_sparepay_k57_answers_of_great_numbers
import Lean
namespace Mi
end Mi
namespace G57
end G57
namespace PySem.W
end PySem.W
namespace PySem
end PySem
namespace SrtR
end SrtR
namespace L2
end L2
namespace Sh
end Sh
namespace S3
end S3
namespace P20
end P20
namespace S2
end S2
namespace S1
end S1
namespace MiHot
end MiHot
set_option Elab.async false
set_option linter.all false
set_option maxRecDepth 100000
set_option maxHeartbeats 4000000
/-! Mp0: the checks of the written part (what the run of the top is asked). -/
namespace Mi
open PySem PySem.Spec PyProof.Rows L2 He
/-- the errors of the package, their three bases -/
def errV : List Str := ["InvalidName", "InvalidText", "InvalidAmount", "InvalidBill", "InvalidIndex", "NotACard", "NotAWallet", "NotAForm", "NotACourse", "NotFacts", "NotARule", "InvalidCards", "InvalidRow", "InvalidEvents", "InvalidPayment", "InvalidPaid", "InvalidRefused", "InvalidKeys"]
def errN : List Str := ["UnknownName", "InUse"]
def errA : List Str := ["CannotPay", "Full", "TooMany", "NoWallet", "Broken", "NothingToUndo"]
def errB : List Str := ["WrongValue", "WrongName", "NoAnswer"]
def errs : List Str := errV ++ errN ++ errA ++ errB

/-- the package's classes: which is under which -/
def subC (c k : Str) : Bool := decide (c = k) || (decide (k = "Rule") && (decide (c = "Drain") || decide (c = "Units") || decide (c = "Spare")))
def refsM (o : Obj) : List Addr := match o.cls with
  | .type "code" => []
  | _ => refsD o
def frontM (g : Addr → Option Obj) (as : List Addr) : List Addr := as.flatMap fun a => match g a with
  | some o => refsM o
  | none => []
def bfsM (g : Addr → Option Obj) : Nat → List Addr → List Addr
  | 0, as => as
  | n + 1, as => as ++ bfsM g n (frontM g as).eraseDups
def asM (g : Addr → Option Obj) (n : Nat) : List Addr := (bfsM g n [mainGlobals, cStatics]).eraseDups
def recFn (K : PySem.W.Frag) (p : Addr) (T : String) : Addr := match PySem.W.recIn K p T with
  | some (.ref g :: _) => g
  | _ => 0
inductive Pl where
  | glob (x : Str) | meth (c m : Str) | prop (c m : Str) | stat (c m : Str) | clsm (c m : Str)
def Pl.ad (K : PySem.W.Frag) : Pl → Addr
  | .glob x => ga K x
  | .meth c m => ma K (ga K c) m
  | .prop c m => recFn K (ma K (ga K c) m) "property"
  | .stat c m => recFn K (ma K (ga K c) m) "staticmethod"
  | .clsm c m => recFn K (ma K (ga K c) m) "classmethod"
def fd0 : FuncData := PySem.W.fnOf "" "" ⟨[], [], none, [], [], none, []⟩ [] ⟨.function, [], false, false, []⟩ .none .none .none .none none .none .none
def fdOf (K : PySem.W.Frag) (a : Addr) : FuncData := match K.lookup a with
  | some ⟨_, _, .func fd, _⟩ => fd
  | _ => fd0
/-- one def: its place, name, qualified name, parameters, body, scope -/
structure DefP where
  at_ : Pl
  name : Str
  qual : Str
  params : Arguments
  body : List Stmt
  scope : Scope
def fnP (K : PySem.W.Frag) (a : Addr) : FnW := match K.lookup a with
  | some ⟨_, _, .func fd, _⟩ => some (fd.name, fd.qualname, fd.params, fd.body, fd.scope, fd.globals, fd.closure, fd.builtins)
  | _ => none
def DefP.val (d : DefP) : FnW := some (d.name, d.qual, d.params, .stmts d.body, d.scope, mainGlobals, [], builtinsNs)
def DefP.ok (K : PySem.W.Frag) (d : DefP) : Bool := PySem.W.keepIn K (.ref (d.at_.ad K)) && (match K.lookup (d.at_.ad K) with
  | some ⟨_, _, .func fd, _⟩ => PySem.W.codeIn K fd.code d.qual && dflB K fd.defaults []
  | _ => false)
inductive Ft where
  | b (f : Fa) | prop (c f : Str) | stat (c m : Str) | clsm (c m : Str) | eqc (c : Str) | isi (cs : List Str) | len (c : Str) | raw (f : PySem.W.Frag → Bool)
def insB (K : PySem.W.Frag) (C : Addr) : Bool := (PySem.W.plainGet K C Str.empty && (PySem.W.hasDictIn K C && (PySem.W.plainOver K C && eqO (PySem.W.findIn K (.ref C) "__setattr__") (some (some (.builtin "object.__setattr__"))))))
  && (eqO (PySem.W.findIn K (.ref C) "__class__") (some (some (.builtin "object.__class__"))) && (eqO (PySem.W.specialIn K (.builtin "object.__class__") "__get__") (some (some (.builtin "getset_descriptor.__get__")))
  && (decide (PySem.W.takesIn K (.builtin "object.__class__") = some true) && decide (PySem.W.mroIn K C (.type "object") = some true))))
def Ft.ok (K : PySem.W.Frag) : Ft → Bool
  | .b f => f.ok K
  | .prop c f => eqO (PySem.W.findIn K (.ref (ga K c)) f) (some (some (.ref (ma K (ga K c) f)))) && (eqO (PySem.W.specialIn K (.ref (ma K (ga K c) f)) "__get__") (some (some (.builtin "property.__get__"))) && (decide (PySem.W.takesIn K (.ref (ma K (ga K c) f)) = some true) &&
    (match PySem.W.recIn K (ma K (ga K c) f) "property" with
      | some (.ref _ :: _) => true
      | _ => false)))
  | .stat c m => PySem.W.readsIn K (ga K c) (.type "type") && (eqO (PySem.W.specialIn K (.ref (ga K c)) "__getattribute__") (some (some (.builtin "type.__getattribute__"))) && ((match PySem.W.findCls K (.ref (ga K c)) (.type "type") m with
      | some (.get (.builtin "staticmethod.__get__") (.ref q) .none (.ref C)) => decide (q = ma K (ga K c) m) && decide (C = ga K c)
      | _ => false) && ((match PySem.W.recIn K (ma K (ga K c) m) "staticmethod" with
      | some (.ref _ :: _) => true
      | _ => false) && PySem.W.keepIn K (.ref (recFn K (ma K (ga K c) m) "staticmethod")))))
  | .clsm c m => PySem.W.readsIn K (ga K c) (.type "type") && (eqO (PySem.W.specialIn K (.ref (ga K c)) "__getattribute__") (some (some (.builtin "type.__getattribute__"))) && ((match PySem.W.findCls K (.ref (ga K c)) (.type "type") m with
      | some (.get (.builtin "classmethod.__get__") (.ref q) .none (.ref C)) => decide (q = ma K (ga K c) m) && decide (C = ga K c)
      | _ => false) && ((match PySem.W.recIn K (ma K (ga K c) m) "classmethod" with
      | some (.ref _ :: _) => true
      | _ => false) && PySem.W.fnIn K (recFn K (ma K (ga K c) m) "classmethod"))))
  | .eqc c => eqO (PySem.W.findIn K (.ref (ga K c)) "__eq__") (some (some (.ref (ma K (ga K c) "__eq__")))) && (PySem.W.isFn K (.ref (ma K (ga K c) "__eq__")) && (eqO (PySem.W.findIn K (.ref (ga K c)) "__ne__") (some (some (.builtin "object.__ne__"))) && decide (PySem.W.mroIn K (ga K c) (.type "object") = some true)))
  | .isi cs => (cs.all fun c => insB K (ga K c)) && ((cs.all fun c => cs.all fun k => decide (PySem.W.kitOne K (.ref (ga K c)) (.ref (ga K k)) = some (subC c k))) &&
    ((["NoneType", "bool", "int", "str", "tuple", "list", "dict"].all fun a => cs.all fun k => decide (PySem.W.kitOne K (.type a) (.ref (ga K k)) = some false)) &&
    (cs.all fun c => ["int", "bool", "str", "tuple", "list"].all fun n => decide (PySem.W.kitOne K (.ref (ga K c)) (.type n) = some false))))
  | .len c => eqO (PySem.W.findIn K (.ref (ga K c)) "__len__") (some (some (.ref (ma K (ga K c) "__len__")))) && PySem.W.isFn K (.ref (ma K (ga K c) "__len__"))
  | .raw f => f K
abbrev AlP : Type := Bool × List FnW
def obsP (fa : List Ft) (fn : List DefP) (K : PySem.W.Frag) : AlP := ((fa.all fun f => f.ok K) && fn.all fun d => d.ok K, fn.map fun d => fnP K (d.at_.ad K))
def valP (fn : List DefP) : AlP := (true, fn.map DefP.val)
def SaysP (fa : List Ft) (fn : List DefP) (K : PySem.W.Frag) : Prop := obsP fa fn K = valP fn
def obsPG (n : Nat) (fa : List Ft) (fn : List DefP) (g : Addr → Option Obj) : AlP := obsP fa fn (frG g (asM g n))
def hookP (n : Nat) (fa : List Ft) (fn : List DefP) : PySem.W.Hook where
  α := AlP
  obs := fun s => obsPG n fa fn s.heap.get?
  val := fun _ => valP fn
  says := fun _ h => ∃ K : PySem.W.Frag, K.In h ∧ SaysP fa fn K
  of := fun _ _ e => ⟨_, frG_in, e⟩
  keeps := fun _ _ _ ⟨K, hK, c⟩ k => ⟨K, PySem.W.Frag.In.keeps hK k, c⟩
theorem obsPG_eq {n : Nat} {fa : List Ft} {fn : List DefP} {g : Addr → Option Obj} {s : Shared} (h : ∀ a, g a = s.heap.get? a) : obsPG n fa fn g = (hookP n fa fn).obs s := by
  have e : g = s.heap.get? := funext h
  rw [e] <;> rfl
def noListsB (K : PySem.W.Frag) : Bool := K.all fun q => match q.2.cls with
  | .type c => !(c == "list")
  | _ => true
/-- the base of an error class -/
def exB (k : Str) : Str := if k ∈ errV then "WrongValue" else if k ∈ errN then "WrongName" else if k ∈ errA then "NoAnswer" else ""
def exP (k : Str) : String := if exB k = "WrongValue" then "ValueError" else if exB k = "WrongName" then "LookupError" else "ArithmeticError"
def exS (k c : Str) : Bool := decide (k = c) || decide (exB k = c)
def pyE : List String := ["ValueError", "LookupError", "ArithmeticError"]
def bmOf (b : String) : List Value := if b = "ValueError" then [.type "ValueError", .type "Exception", .type "BaseException", .type "object"] else if b = "LookupError" then [.type "LookupError", .type "Exception", .type "BaseException", .type "object"] else [.type "ArithmeticError", .type "Exception", .type "BaseException", .type "object"]
def tyB (K : PySem.W.Frag) (v : Value) (t : String) : Bool := match PySem.W.typeIn K v with
  | some (.type x) => x == t
  | _ => false
def erB (k f : Str) (K : PySem.W.Frag) : Bool := PySem.W.excInitIn K (ga K k) (bmOf (exP k)) (exP k ++ ".__new__") && (PySem.W.excOver K (ga K k) (bmOf (exP k)) && (eqO (PySem.W.findIn K (.ref (ga K k)) "__setattr__") (some (some (.builtin "object.__setattr__"))) &&
  (eqO (PySem.W.takerIn K (ga K k) f) (some none) && (eqO (PySem.W.findIn K (.ref (ga K k)) "__init__") (some (some (.ref (ma K (ga K k) "__init__")))) && (tyB K (.ref (ma K (ga K k) "__init__")) "function" && (PySem.W.keepIn K (.ref (ga K k)) &&
  (decide (PySem.W.subIn K (.ref (ga K k)) (.type "BaseException") = some true) && (tyB K (.ref (ga K k)) "type" && PySem.W.hasDictIn K (ga K k)))))))))
def exkB (K : PySem.W.Frag) (D : Addr) : Bool := (PySem.W.clsIn K D).isSome && (eqO (PySem.W.findIn K (.ref D) "__getattribute__") (some (some (.builtin "BaseException.__getattribute__"))) && (eqO (PySem.W.findIn K (.ref D) "__getattr__") (some none) && (decide (PySem.W.subIn K (.ref D) (.type "BaseException") = some true) && (PySem.W.hasDictIn K D &&
  (eqO (PySem.W.findIn K (.ref D) "__class__") (some (some (.builtin "object.__class__"))) && (eqO (PySem.W.specialIn K (.builtin "object.__class__") "__get__") (some (some (.builtin "getset_descriptor.__get__"))) && (decide (PySem.W.takesIn K (.builtin "object.__class__") = some true) && decide (PySem.W.mroIn K D (.type "object") = some true))))))))
/-- the errors' fields are no attributes of their classes -/
def noaB (es fs : List Str) (K : PySem.W.Frag) : Bool := es.all fun k => fs.all fun f => eqO (PySem.W.findIn K (.ref (ga K k)) f) (some none)
/-- an except clause takes just these -/
def exmB (es c : List Str) (K : PySem.W.Frag) : Bool := es.all fun k => decide (PySem.W.exmAny K (.ref (ga K k)) (c.map fun x => .ref (ga K x)) = some true)
/-- names of the module that stand for themselves -/
def glsB (xs : List Str) (K : PySem.W.Frag) : Bool := xs.all fun x => (Fa.glo x).ok K
def tabB (xs : List Str) (K : PySem.W.Frag) : Bool := (xs.all fun x => (PySem.W.tabIn K x).isSome) && (decide ((xs.filterMap fun x => (PySem.W.tabIn K x).map (·.2)).Nodup) && xs.all fun x => match PySem.W.tabIn K x with
  | some p => !(K.lookup p.2).isSome
  | none => false)
end Mi

set_option Elab.async false
set_option linter.all false
set_option maxRecDepth 100000
set_option maxHeartbeats 4000000
/-! Mp1: a check of keyword-only defaults (empty tuples). -/
namespace Mi
open PySem PySem.Spec PyProof.Rows L2 He
/-- isxB with just these classes of errors -/
def isxB2 (es cl : List Str) (K : PySem.W.Frag) : Bool := (es.all fun k => exkB K (ga K k)) && ((es.all fun k => cl.all fun c => decide (PySem.W.kitOne K (.ref (ga K k)) (.ref (ga K c)) = some (exS k c))) &&
  ((es.all fun k => pyE.all fun n => decide (PySem.W.kitOne K (.ref (ga K k)) (.type n) = some (decide (exP k = n)))) && es.all fun k => ["int", "bool", "str", "tuple", "list"].all fun n => decide (PySem.W.kitOne K (.ref (ga K k)) (.type n) = some false)))
end Mi

namespace G57
open PySem PySem.Spec PyProof.Rows L2 Mi He
@[reducible] def es : List Str := ["NoWallet"]
def top (i : Nat) : Stmt := PySem.Challenge.pw_sparepay_k57_answers_of_great_numbers.main.body.getD i (.Pass ⟨0, 0, 0, 0⟩)
def sub (s : Stmt) (j : Nat) : Stmt := match s with
  | .ClassDef _ _ _ b _ _ _ _ _ _ _ => b.getD j (.Pass ⟨0, 0, 0, 0⟩)
  | _ => .Pass ⟨0, 0, 0, 0⟩

def xs : List Str := ["_law_right"]
def gls : List Str := ["NoAnswer", "NoWallet"]
@[reducible] def cs : List Str := ["Card", "Course", "Facts", "Form"]
theorem hc_Card : ("Card" : Str) ∈ cs := by decide
theorem hc_Course : ("Course" : Str) ∈ cs := by decide
theorem hc_Facts : ("Facts" : Str) ∈ cs := by decide
theorem hc_Form : ("Form" : Str) ∈ cs := by decide
abbrev st__law_draw : Stmt := (top 65)
def d__law_draw : DefP := ⟨.glob "_law_draw", "_law_draw", "_law_draw", defArgs st__law_draw, defBody st__law_draw, defScope st__law_draw⟩
theorem sc__law_draw : FnScope ["_law_pot_here", "_law_many", "_law_at", "_law_digit"] ["_law_pot_here", "_law_many"] (defScope st__law_draw) := ⟨rfl, rfl, rfl, by decide +kernel, rfl, by decide +kernel, by decide +kernel⟩
abbrev st__law_amount : Stmt := (top 66)
def d__law_amount : DefP := ⟨.glob "_law_amount", "_law_amount", "_law_amount", defArgs st__law_amount, defBody st__law_amount, defScope st__law_amount⟩
theorem sc__law_amount : FnScope ["_law_pot_here", "_law_way", "_law_high"] ["_law_pot_here"] (defScope st__law_amount) := ⟨rfl, rfl, rfl, by decide +kernel, rfl, by decide +kernel, by decide +kernel⟩
abbrev st__law_falling : Stmt := (top 71)
def d__law_falling : DefP := ⟨.glob "_law_falling", "_law_falling", "_law_falling", defArgs st__law_falling, defBody st__law_falling, defScope st__law_falling⟩
theorem sc__law_falling : FnScope ["_law_pot_here", "_law_many", "_law_some", "_law_k"] ["_law_pot_here", "_law_many"] (defScope st__law_falling) := ⟨rfl, rfl, rfl, by decide +kernel, rfl, by decide +kernel, by decide +kernel⟩
abbrev st__law_card : Stmt := (top 67)
def d__law_card : DefP := ⟨.glob "_law_card", "_law_card", "_law_card", defArgs st__law_card, defBody st__law_card, defScope st__law_card⟩
theorem sc__law_card : FnScope ["_law_pot_here", "_law_limit", "_law_days"] ["_law_pot_here"] (defScope st__law_card) := ⟨rfl, rfl, rfl, by decide +kernel, rfl, by decide +kernel, by decide +kernel⟩
abbrev st__law_worth : Stmt := (top 68)
def d__law_worth : DefP := ⟨.glob "_law_worth", "_law_worth", "_law_worth", defArgs st__law_worth, defBody st__law_worth, defScope st__law_worth⟩
theorem sc__law_worth : FnScope ["_law_pair", "_law_days"] ["_law_pair", "_law_days"] (defScope st__law_worth) := ⟨rfl, rfl, rfl, by decide +kernel, rfl, by decide +kernel, by decide +kernel⟩
abbrev st__law_near_row : Stmt := (top 72)
def d__law_near_row : DefP := ⟨.glob "_law_near_row", "_law_near_row", "_law_near_row", defArgs st__law_near_row, defBody st__law_near_row, defScope st__law_near_row⟩
theorem sc__law_near_row : FnScope ["_law_pot_here", "_law_row", "_law_way", "_law_many", "_law_turn", "_law_by", "_law_bills", "_law_total", "_law_at", "_law_events", "_law_pair", "_law_k"] ["_law_pot_here", "_law_row"] (defScope st__law_near_row) := ⟨rfl, rfl, rfl, by decide +kernel, rfl, by decide +kernel, by decide +kernel⟩
abbrev st__law_row_pays : Stmt := (top 74)
def d__law_row_pays : DefP := ⟨.glob "_law_row_pays", "_law_row_pays", "_law_row_pays", defArgs st__law_row_pays, defBody st__law_row_pays, defScope st__law_row_pays⟩
theorem sc__law_row_pays : FnScope ["_law_row", "_law_asks_here", "_law_k"] ["_law_row", "_law_asks_here"] (defScope st__law_row_pays) := ⟨rfl, rfl, rfl, by decide +kernel, rfl, by decide +kernel, by decide +kernel⟩
abbrev st__law_power : Stmt := (top 69)
def d__law_power : DefP := ⟨.glob "_law_power", "_law_power", "_law_power", defArgs st__law_power, defBody st__law_power, defScope st__law_power⟩
theorem sc__law_power : FnScope ["_law_cards", "_law_days", "_law_pair"] ["_law_cards", "_law_days"] (defScope st__law_power) := ⟨rfl, rfl, rfl, by decide +kernel, rfl, by decide +kernel, by decide +kernel⟩
abbrev st__law_asks : Stmt := (top 70)
def d__law_asks : DefP := ⟨.glob "_law_asks", "_law_asks", "_law_asks", defArgs st__law_asks, defBody st__law_asks, defScope st__law_asks⟩
theorem sc__law_asks : FnScope ["_law_events", "_law_places", "_law_coming", "_law_bills", "_law_ahead", "_law_sets", "_law_at", "_law_best", "_law_one", "_law_height", "_law_k"] ["_law_events"] (defScope st__law_asks) := ⟨rfl, rfl, rfl, by decide +kernel, rfl, by decide +kernel, by decide +kernel⟩
abbrev st__law_drawn : Stmt := (top 80)
def d__law_drawn : DefP := ⟨.glob "_law_drawn", "_law_drawn", "_law_drawn", defArgs st__law_drawn, defBody st__law_drawn, defScope st__law_drawn⟩
theorem sc__law_drawn : FnScope ["_law_pot_here", "_law_hidden", "_law_spoiled", "_law_yea", "_law_nay", "_law_k", "_law_events"] ["_law_pot_here"] (defScope st__law_drawn) := ⟨rfl, rfl, rfl, by decide +kernel, rfl, by decide +kernel, by decide +kernel⟩
abbrev st__law_least : Stmt := (top 75)
def d__law_least : DefP := ⟨.glob "_law_least", "_law_least", "_law_least", defArgs st__law_least, defBody st__law_least, defScope st__law_least⟩
theorem sc__law_least : FnScope ["_law_asks_here", "_law_row", "_law_total", "_law_j", "_law_number", "_law_k"] ["_law_asks_here"] (defScope st__law_least) := ⟨rfl, rfl, rfl, by decide +kernel, rfl, by decide +kernel, by decide +kernel⟩
abbrev st__law_joined : Stmt := (top 76)
def d__law_joined : DefP := ⟨.glob "_law_joined", "_law_joined", "_law_joined", defArgs st__law_joined, defBody st__law_joined, defScope st__law_joined⟩
theorem sc__law_joined : FnScope ["_law_tables", "_law_days", "_law_asks_here", "_law_k"] ["_law_tables"] (defScope st__law_joined) := ⟨rfl, rfl, rfl, by decide +kernel, rfl, by decide +kernel, by decide +kernel⟩
abbrev st_is_integer : Stmt := (top 22)
def d_is_integer : DefP := ⟨.glob "is_integer", "is_integer", "is_integer", defArgs st_is_integer, defBody st_is_integer, defScope st_is_integer⟩
theorem sc_is_integer : FnScope ["value"] ["value"] (defScope st_is_integer) := ⟨rfl, rfl, rfl, by decide +kernel, rfl, by decide +kernel, by decide +kernel⟩
abbrev st_is_natural : Stmt := (top 23)
def d_is_natural : DefP := ⟨.glob "is_natural", "is_natural", "is_natural", defArgs st_is_natural, defBody st_is_natural, defScope st_is_natural⟩
theorem sc_is_natural : FnScope ["value"] ["value"] (defScope st_is_natural) := ⟨rfl, rfl, rfl, by decide +kernel, rfl, by decide +kernel, by decide +kernel⟩
abbrev st_wrong_event : Stmt := (top 47)
def d_wrong_event : DefP := ⟨.glob "wrong_event", "wrong_event", "wrong_event", defArgs st_wrong_event, defBody st_wrong_event, defScope st_wrong_event⟩
theorem sc_wrong_event : FnScope ["events", "bills", "coming", "index", "event"] ["events"] (defScope st_wrong_event) := ⟨rfl, rfl, rfl, by decide +kernel, rfl, by decide +kernel, by decide +kernel⟩
abbrev st_Course___init__ : Stmt := (sub (top 49) 0)
def d_Course___init__ : DefP := ⟨.meth "Course" "__init__", "__init__", "Course.__init__", defArgs st_Course___init__, defBody st_Course___init__, defScope st_Course___init__⟩
theorem sc_Course___init__ : FnScope ["self", "events", "wrong"] ["self", "events"] (defScope st_Course___init__) := ⟨rfl, rfl, rfl, by decide +kernel, rfl, by decide +kernel, by decide +kernel⟩
abbrev st_Card___init__ : Stmt := (sub (top 42) 0)
def d_Card___init__ : DefP := ⟨.meth "Card" "__init__", "__init__", "Card.__init__", defArgs st_Card___init__, defBody st_Card___init__, defScope st_Card___init__⟩
theorem sc_Card___init__ : FnScope ["self", "balance", "limit"] ["self", "balance", "limit"] (defScope st_Card___init__) := ⟨rfl, rfl, rfl, by decide +kernel, rfl, by decide +kernel, by decide +kernel⟩
abbrev st__law_course : Stmt := (top 73)
def d__law_course : DefP := ⟨.glob "_law_course", "_law_course", "_law_course", defArgs st__law_course, defBody st__law_course, defScope st__law_course⟩
theorem sc__law_course : FnScope ["_law_events", "_law_event"] ["_law_events"] (defScope st__law_course) := ⟨rfl, rfl, rfl, by decide +kernel, rfl, by decide +kernel, by decide +kernel⟩
abbrev st_wrong_course : Stmt := (top 56)
def d_wrong_course : DefP := ⟨.glob "wrong_course", "wrong_course", "wrong_course", defArgs st_wrong_course, defBody st_wrong_course, defScope st_wrong_course⟩
theorem sc_wrong_course : FnScope ["values", "index", "value"] ["values"] (defScope st_wrong_course) := ⟨rfl, rfl, rfl, by decide +kernel, rfl, by decide +kernel, by decide +kernel⟩
abbrev st_Facts___init__ : Stmt := (sub (top 61) 0)
def d_Facts___init__ : DefP := ⟨.meth "Facts" "__init__", "__init__", "Facts.__init__", defArgs st_Facts___init__, defBody st_Facts___init__, defScope st_Facts___init__⟩
theorem sc_Facts___init__ : FnScope ["self", "paid", "refused", "wrong"] ["self", "paid", "refused"] (defScope st_Facts___init__) := ⟨rfl, rfl, rfl, by decide +kernel, rfl, by decide +kernel, by decide +kernel⟩
abbrev st_wrong_number : Stmt := (top 37)
def d_wrong_number : DefP := ⟨.glob "wrong_number", "wrong_number", "wrong_number", defArgs st_wrong_number, defBody st_wrong_number, defScope st_wrong_number⟩
theorem sc_wrong_number : FnScope ["row", "index", "number"] ["row"] (defScope st_wrong_number) := ⟨rfl, rfl, rfl, by decide +kernel, rfl, by decide +kernel, by decide +kernel⟩
abbrev st_Form___init__ : Stmt := (sub (top 38) 0)
def d_Form___init__ : DefP := ⟨.meth "Form" "__init__", "__init__", "Form.__init__", defArgs st_Form___init__, defBody st_Form___init__, defScope st_Form___init__⟩
theorem sc_Form___init__ : FnScope ["self", "row", "wrong"] ["self", "row"] (defScope st_Form___init__) := ⟨rfl, rfl, rfl, by decide +kernel, rfl, by decide +kernel, by decide +kernel⟩
abbrev st_least_row : Stmt := (top 33)
def d_least_row : DefP := ⟨.glob "least_row", "least_row", "least_row", defArgs st_least_row, defBody st_least_row, defScope st_least_row⟩
theorem sc_least_row : FnScope ["sums", "found", "total", "day", "wanted", "number", "later"] ["sums"] (defScope st_least_row) := ⟨rfl, rfl, rfl, by decide +kernel, rfl, by decide +kernel, by decide +kernel⟩
abbrev st_worth : Stmt := (top 41)
def d_worth : DefP := ⟨.glob "worth", "worth", "worth", defArgs st_worth, defBody st_worth, defScope st_worth⟩
theorem sc_worth : FnScope ["balance", "limit", "days"] ["balance", "limit", "days"] (defScope st_worth) := ⟨rfl, rfl, rfl, by decide +kernel, rfl, by decide +kernel, by decide +kernel⟩
abbrev st_Card_limit : Stmt := (sub (top 42) 3)
def d_Card_limit : DefP := ⟨.prop "Card" "limit", "limit", "Card.limit", defArgs st_Card_limit, defBody st_Card_limit, defScope st_Card_limit⟩
theorem sc_Card_limit : FnScope ["self"] ["self"] (defScope st_Card_limit) := ⟨rfl, rfl, rfl, by decide +kernel, rfl, by decide +kernel, by decide +kernel⟩
abbrev st_Card_balance : Stmt := (sub (top 42) 2)
def d_Card_balance : DefP := ⟨.prop "Card" "balance", "balance", "Card.balance", defArgs st_Card_balance, defBody st_Card_balance, defScope st_Card_balance⟩
theorem sc_Card_balance : FnScope ["self"] ["self"] (defScope st_Card_balance) := ⟨rfl, rfl, rfl, by decide +kernel, rfl, by decide +kernel, by decide +kernel⟩
abbrev st_asked_sets : Stmt := (top 45)
def d_asked_sets : DefP := ⟨.glob "asked_sets", "asked_sets", "asked_sets", defArgs st_asked_sets, defBody st_asked_sets, defScope st_asked_sets⟩
theorem sc_asked_sets : FnScope ["events", "best", "index", "event", "longer", "kept", "asks", "days", "k"] ["events"] (defScope st_asked_sets) := ⟨rfl, rfl, rfl, by decide +kernel, rfl, by decide +kernel, by decide +kernel⟩
abbrev st_asked : Stmt := (top 46)
def d_asked : DefP := ⟨.glob "asked", "asked", "asked", defArgs st_asked, defBody st_asked, defScope st_asked⟩
theorem sc_asked : FnScope ["events", "asks", "days"] ["events"] (defScope st_asked) := ⟨rfl, rfl, rfl, by decide +kernel, rfl, by decide +kernel, by decide +kernel⟩
abbrev st_Course_events : Stmt := (sub (top 49) 3)
def d_Course_events : DefP := ⟨.prop "Course" "events", "events", "Course.events", defArgs st_Course_events, defBody st_Course_events, defScope st_Course_events⟩
theorem sc_Course_events : FnScope ["self"] ["self"] (defScope st_Course_events) := ⟨rfl, rfl, rfl, by decide +kernel, rfl, by decide +kernel, by decide +kernel⟩
abbrev st_most_asked : Stmt := (top 53)
def d_most_asked : DefP := ⟨.glob "most_asked", "most_asked", "most_asked", defArgs st_most_asked, defBody st_most_asked, defScope st_most_asked⟩
theorem sc_most_asked : FnScope ["courses", "tables", "longest", "course", "table", "day"] ["courses"] (defScope st_most_asked) := ⟨rfl, rfl, rfl, by decide +kernel, rfl, by decide +kernel, by decide +kernel⟩
abbrev st_least_of : Stmt := (top 57)
def d_least_of : DefP := ⟨.glob "least_of", "least_of", "least_of", defArgs st_least_of, defBody st_least_of, defScope st_least_of⟩
theorem sc_least_of : FnScope ["courses"] ["courses"] (defScope st_least_of) := ⟨rfl, rfl, rfl, by decide +kernel, rfl, by decide +kernel, by decide +kernel⟩
abbrev st_Facts_form : Stmt := (sub (top 61) 3)
def d_Facts_form : DefP := ⟨.prop "Facts" "form", "form", "Facts.form", defArgs st_Facts_form, defBody st_Facts_form, defScope st_Facts_form⟩
theorem sc_Facts_form : FnScope ["self"] ["self"] (defScope st_Facts_form) := ⟨rfl, rfl, rfl, by decide +kernel, rfl, by decide +kernel, by decide +kernel⟩
abbrev st_Form_row : Stmt := (sub (top 38) 4)
def d_Form_row : DefP := ⟨.prop "Form" "row", "row", "Form.row", defArgs st_Form_row, defBody st_Form_row, defScope st_Form_row⟩
theorem sc_Form_row : FnScope ["self"] ["self"] (defScope st_Form_row) := ⟨rfl, rfl, rfl, by decide +kernel, rfl, by decide +kernel, by decide +kernel⟩
abbrev st_number_at : Stmt := (top 28)
def d_number_at : DefP := ⟨.glob "number_at", "number_at", "number_at", defArgs st_number_at, defBody st_number_at, defScope st_number_at⟩
theorem sc_number_at : FnScope ["row", "index"] ["row", "index"] (defScope st_number_at) := ⟨rfl, rfl, rfl, by decide +kernel, rfl, by decide +kernel, by decide +kernel⟩
abbrev st_reaches : Stmt := (top 54)
def d_reaches : DefP := ⟨.glob "reaches", "reaches", "reaches", defArgs st_reaches, defBody st_reaches, defScope st_reaches⟩
theorem sc_reaches : FnScope ["row", "asks", "total", "day", "wanted"] ["row", "asks"] (defScope st_reaches) := ⟨rfl, rfl, rfl, by decide +kernel, rfl, by decide +kernel, by decide +kernel⟩
abbrev st_first_paid : Stmt := (top 58)
def d_first_paid : DefP := ⟨.glob "first_paid", "first_paid", "first_paid", defArgs st_first_paid, defBody st_first_paid, defScope st_first_paid⟩
theorem sc_first_paid : FnScope ["row", "courses", "index", "course"] ["row", "courses"] (defScope st_first_paid) := ⟨rfl, rfl, rfl, by decide +kernel, rfl, by decide +kernel, by decide +kernel⟩
abbrev st_Facts_fit : Stmt := (sub (top 61) 4)
def d_Facts_fit : DefP := ⟨.prop "Facts" "fit", "fit", "Facts.fit", defArgs st_Facts_fit, defBody st_Facts_fit, defScope st_Facts_fit⟩
theorem sc_Facts_fit : FnScope ["self"] ["self"] (defScope st_Facts_fit) := ⟨rfl, rfl, rfl, by decide +kernel, rfl, by decide +kernel, by decide +kernel⟩
abbrev st__law_above : Stmt := (top 77)
def d__law_above : DefP := ⟨.glob "_law_above", "_law_above", "_law_above", defArgs st__law_above, defBody st__law_above, defScope st__law_above⟩
theorem sc__law_above : FnScope ["_law_row", "_law_asks_here", "_law_sums", "_law_k"] ["_law_row", "_law_asks_here"] (defScope st__law_above) := ⟨rfl, rfl, rfl, by decide +kernel, rfl, by decide +kernel, by decide +kernel⟩
abbrev st__law_due : Stmt := (top 79)
def d__law_due : DefP := ⟨.glob "_law_due", "_law_due", "_law_due", defArgs st__law_due, defBody st__law_due, defScope st__law_due⟩
theorem sc__law_due : FnScope ["_law_row", "_law_unpaid", "_law_asks_here", "_law_broken", "_law_more", "_law_k", "_law_table"] ["_law_row", "_law_unpaid", "_law_asks_here"] (defScope st__law_due) := ⟨rfl, rfl, rfl, by decide +kernel, rfl, by decide +kernel, by decide +kernel⟩
abbrev st__law_end : Stmt := (top 78)
def d__law_end : DefP := ⟨.glob "_law_end", "_law_end", "_law_end", defArgs st__law_end, defBody st__law_end, defScope st__law_end⟩
theorem sc__law_end : FnScope ["_law_act", "_law_told", "e"] ["_law_act"] (defScope st__law_end) := ⟨rfl, rfl, rfl, by decide +kernel, rfl, by decide +kernel, by decide +kernel⟩
abbrev st_check_course : Stmt := (top 51)
def d_check_course : DefP := ⟨.glob "check_course", "check_course", "check_course", defArgs st_check_course, defBody st_check_course, defScope st_check_course⟩
theorem sc_check_course : FnScope ["value"] ["value"] (defScope st_check_course) := ⟨rfl, rfl, rfl, by decide +kernel, rfl, by decide +kernel, by decide +kernel⟩
abbrev st_Facts_paid : Stmt := (sub (top 61) 1)
def d_Facts_paid : DefP := ⟨.prop "Facts" "paid", "paid", "Facts.paid", defArgs st_Facts_paid, defBody st_Facts_paid, defScope st_Facts_paid⟩
theorem sc_Facts_paid : FnScope ["self"] ["self"] (defScope st_Facts_paid) := ⟨rfl, rfl, rfl, by decide +kernel, rfl, by decide +kernel, by decide +kernel⟩
abbrev st_Facts_refused : Stmt := (sub (top 61) 2)
def d_Facts_refused : DefP := ⟨.prop "Facts" "refused", "refused", "Facts.refused", defArgs st_Facts_refused, defBody st_Facts_refused, defScope st_Facts_refused⟩
theorem sc_Facts_refused : FnScope ["self"] ["self"] (defScope st_Facts_refused) := ⟨rfl, rfl, rfl, by decide +kernel, rfl, by decide +kernel, by decide +kernel⟩
abbrev st_NoWallet___init__ : Stmt := (sub (top 15) 0)
def d_NoWallet___init__ : DefP := ⟨.meth "NoWallet" "__init__", "__init__", "NoWallet.__init__", defArgs st_NoWallet___init__, defBody st_NoWallet___init__, defScope st_NoWallet___init__⟩
abbrev st_fitting_row : Stmt := (top 62)
def d_fitting_row : DefP := ⟨.glob "fitting_row", "fitting_row", "fitting_row", defArgs st_fitting_row, defBody st_fitting_row, defScope st_fitting_row⟩
theorem sc_fitting_row : FnScope ["facts", "row", "index"] ["facts"] (defScope st_fitting_row) := ⟨rfl, rfl, rfl, by decide +kernel, rfl, by decide +kernel, by decide +kernel⟩
abbrev st_sums_of : Stmt := (top 29)
def d_sums_of : DefP := ⟨.glob "sums_of", "sums_of", "sums_of", defArgs st_sums_of, defBody st_sums_of, defScope st_sums_of⟩
theorem sc_sums_of : FnScope ["row", "found", "number"] ["row"] (defScope st_sums_of) := ⟨rfl, rfl, rfl, by decide +kernel, rfl, by decide +kernel, by decide +kernel⟩
abbrev st_row_total : Stmt := (top 60)
def d_row_total : DefP := ⟨.glob "row_total", "row_total", "row_total", defArgs st_row_total, defBody st_row_total, defScope st_row_total⟩
theorem sc_row_total : FnScope ["sums"] ["sums"] (defScope st_row_total) := ⟨rfl, rfl, rfl, by decide +kernel, rfl, by decide +kernel, by decide +kernel⟩
abbrev st_higher : Stmt := (top 59)
def d_higher : DefP := ⟨.glob "higher", "higher", "higher", defArgs st_higher, defBody st_higher, defScope st_higher⟩
theorem sc_higher : FnScope ["row", "asks", "sums", "days", "mine", "day"] ["row", "asks"] (defScope st_higher) := ⟨rfl, rfl, rfl, by decide +kernel, rfl, by decide +kernel, by decide +kernel⟩
abbrev st_Facts_answer : Stmt := (sub (top 61) 7)
def d_Facts_answer : DefP := ⟨.meth "Facts" "answer", "answer", "Facts.answer", defArgs st_Facts_answer, defBody st_Facts_answer, defScope st_Facts_answer⟩
theorem sc_Facts_answer : FnScope ["self", "course", "row", "asks"] ["self", "course"] (defScope st_Facts_answer) := ⟨rfl, rfl, rfl, by decide +kernel, rfl, by decide +kernel, by decide +kernel⟩
abbrev st__law_right : Stmt := (top 81)
def d__law_right : DefP := ⟨.glob "_law_right", "_law_right", "_law_right", defArgs st__law_right, defBody st__law_right, defScope st__law_right⟩
theorem sc__law_right : FnScope ["_law_pot_here", "_law_hidden", "_law_yea", "_law_nay", "_law_quests", "_law_row", "_law_unpaid", "_law_tasks", "_law_facts", "_law_events", "_law_task", "_law_due_here", "_law_k", "_law_one"] ["_law_pot_here"] (defScope st__law_right) := ⟨rfl, rfl, rfl, by decide +kernel, rfl, by decide +kernel, by decide +kernel⟩
abbrev st__law_pot : Stmt := (top 64)
def d__law_pot : DefP := ⟨.glob "_law_pot", "_law_pot", "_law_pot", defArgs st__law_pot, defBody st__law_pot, defScope st__law_pot⟩
theorem sc__law_pot : FnScope ["_law_cells", "_law_k", "_law_cell", "_law_other", "_law_digits"] ["_law_cells", "_law_k"] (defScope st__law_pot) := ⟨rfl, rfl, rfl, by decide +kernel, rfl, by decide +kernel, by decide +kernel⟩
abbrev st_law : Stmt := (top 82)
def d_law : DefP := ⟨.glob "law", "law", "law", defArgs st_law, defBody st_law, defScope st_law⟩
theorem sc_law : FnScope ["_law_cells", "_law_k"] ["_law_cells"] (defScope st_law) := ⟨rfl, rfl, rfl, by decide +kernel, rfl, by decide +kernel, by decide +kernel⟩
def fa : List Ft := [
  .isi cs,
  .b (.free "len"),
  .b (.free "min"),
  .b (.free "max"),
  .b (.free "range"),
  .b (.free "int"),
  .b (.free "divmod"),
  .b (.glo "_law_draw"),
  .b (.glo "_law_amount"),
  .b (.free "sorted"),
  .b (.glo "_law_falling"),
  .b (.free "sum"),
  .b (.glo "_law_card"),
  .b (.glo "_law_worth"),
  .b (.glo "_law_near_row"),
  .b (.free "all"),
  .b (.free "isinstance"),
  .b (.glo "_law_power"),
  .b (.glo "_law_asks"),
  .b (.glo "_law_row_pays"),
  .b (.glo "_law_drawn"),
  .b (.glo "_law_joined"),
  .b (.glo "_law_least"),
  .b (.free "tuple"),
  .b (.free "enumerate"),
  .b (.glo "Card"),
  .b (.free "bool"),
  .b (.glo "is_integer"),
  .b (.glo "is_natural"),
  .b (.int "MOST_BILLS" 12),
  .b (.int "MOST_COMING" 6),
  .b (.glo "wrong_event"),
  .b (.noat "Course" "passed"),
  .b (.cls "Course"),
  .b (.mkr "Course"),
  .b (.int "MOST_DAYS" 24),
  .b (.noat "Card" "held"),
  .b (.cls "Card"),
  .b (.noat "Card" "daily"),
  .b (.mkr "Card"),
  .b (.glo "Course"),
  .b (.glo "_law_course"),
  .b (.int "MOST_FACTS" 8),
  .b (.glo "wrong_course"),
  .b (.noat "Facts" "known"),
  .b (.cls "Facts"),
  .b (.noat "Facts" "unpaid"),
  .b (.mkr "Facts"),
  .b (.glo "Facts"),
  .b (.glo "wrong_number"),
  .b (.noat "Form" "numbers"),
  .b (.cls "Form"),
  .b (.mkr "Form"),
  .b (.free "list"),
  .b (.free "reversed"),
  .prop "Card" "limit",
  .prop "Card" "balance",
  .b (.glo "worth"),
  .b (.glo "asked_sets"),
  .prop "Course" "events",
  .b (.glo "asked"),
  .b (.glo "most_asked"),
  .b (.glo "least_row"),
  .b (.glo "least_of"),
  .b (.glo "Form"),
  .prop "Facts" "form",
  .prop "Form" "row",
  .b (.glo "number_at"),
  .b (.glo "reaches"),
  .b (.glo "first_paid"),
  .prop "Facts" "fit",
  .b (.free "repr"),
  .b (.free "str"),
  .b (.glo "_law_above"),
  .b (.free "any"),
  .b (.glo "_law_due"),
  .raw (glsB gls),
  .raw (isxB2 es ["NoAnswer"]),
  .raw (noaB es ["given", "index", "bill", "bound"]),
  .raw (exmB es ["NoWallet"]),
  .b (.glo "check_course"),
  .prop "Facts" "paid",
  .prop "Facts" "refused",
  .raw (erB "NoWallet" "index"),
  .b (.glo "fitting_row"),
  .b (.glo "sums_of"),
  .b (.glo "row_total"),
  .b (.glo "higher"),
  .b (.meth "Facts" "answer"),
  .b (.glo "_law_end"),
  .b (.glo "_law_right"),
  .b (.free "abs"),
  .b (.glo "_law_pot"),
  .b (.glo "law"),
  .raw (tabB xs),
  .raw noListsB]
def fn : List DefP := [d__law_draw, d__law_amount, d__law_falling, d__law_card, d__law_worth, d__law_near_row, d__law_row_pays, d__law_power, d__law_asks, d__law_drawn, d__law_least, d__law_joined, d_is_integer, d_is_natural, d_wrong_event, d_Course___init__, d_Card___init__, d__law_course, d_wrong_course, d_Facts___init__, d_wrong_number, d_Form___init__, d_least_row, d_worth, d_Card_limit, d_Card_balance, d_asked_sets, d_asked, d_Course_events, d_most_asked, d_least_of, d_Facts_form, d_Form_row, d_number_at, d_reaches, d_first_paid, d_Facts_fit, d__law_above, d__law_due, d__law_end, d_check_course, d_Facts_paid, d_Facts_refused, d_NoWallet___init__, d_fitting_row, d_sums_of, d_row_total, d_higher, d_Facts_answer, d__law_right, d__law_pot, d_law]
end G57
set_option maxHeartbeats 0
section
namespace G57
open PySem PySem.Spec PyProof.Rows L2 Mi He
abbrev RR : PySem.W.OpenRow := PySem.W.OpenLaw.row PySem.Challenge.rw_sparepay_k57_answers_of_great_numbers
def loose : List Str := [("_wall" : Str), ("WrongValue" : Str), ("InvalidText" : Str), ("InvalidAmount" : Str), ("InvalidBill" : Str), ("InvalidIndex" : Str), ("NotAForm" : Str), ("NotACourse" : Str), ("InvalidRow" : Str), ("InvalidEvents" : Str), ("InvalidPaid" : Str), ("InvalidRefused" : Str), ("NoAnswer" : Str), ("CannotPay" : Str), ("NoWallet" : Str), ("MOST_DAYS" : Str), ("MOST_BILLS" : Str), ("MOST_COMING" : Str), ("MOST_FACTS" : Str), ("DIGITS" : Str), ("is_integer" : Str), ("is_natural" : Str), ("is_bills" : Str), ("number_of" : Str), ("check_bill" : Str), ("number_at" : Str), ("sums_of" : Str), ("sums_for" : Str), ("row_with" : Str), ("both_sums" : Str), ("least_row" : Str), ("added" : Str), ("taken" : Str), ("pays_bills" : Str), ("wrong_number" : Str), ("Form" : Str), ("check_form" : Str), ("worth" : Str), ("Card" : Str), ("card_of" : Str), ("asked_sets" : Str), ("asked" : Str), ("wrong_event" : Str), ("event_of" : Str), ("Course" : Str), ("course_of" : Str), ("check_course" : Str), ("most_asked" : Str), ("reaches" : Str), ("wrong_course" : Str), ("least_of" : Str), ("first_paid" : Str), ("higher" : Str), ("row_total" : Str), ("Facts" : Str), ("fitting_row" : Str), ("_law_pot" : Str), ("_law_draw" : Str), ("_law_amount" : Str), ("_law_card" : Str), ("_law_worth" : Str), ("_law_power" : Str), ("_law_asks" : Str), ("_law_falling" : Str), ("_law_near_row" : Str), ("_law_course" : Str), ("_law_row_pays" : Str), ("_law_least" : Str), ("_law_joined" : Str), ("_law_above" : Str), ("_law_end" : Str), ("_law_due" : Str), ("_law_drawn" : Str), ("_law_right" : Str)]
abbrev hk : PySem.W.Hook := hookP 5 fa fn
def ob (s : PySem.W.SharedT) : AlP := obsPG 5 fa fn (HandSHeadRun.getT s)
theorem ob_eq (s : PySem.W.SharedT) : ob s = hk.obs s.abs := obsPG_eq (HandSHeadRun.getT_eq s)
def fa_0 : List Ft := (fa.drop 0).take 24
def fa_24 : List Ft := (fa.drop 24).take 24
def fa_48 : List Ft := (fa.drop 48).take 24
def fa_72 : List Ft := (fa.drop 72).take 5
def fa_77 : List Ft := (fa.drop 77).take 1
def fa_78 : List Ft := (fa.drop 78).take 1
def fa_79 : List Ft := (fa.drop 79).take 15
def fa_94 : List Ft := (fa.drop 94).take 2
def fn_0 : List DefP := (fn.drop 0).take 12
def fn_12 : List DefP := (fn.drop 12).take 12
def fn_24 : List DefP := (fn.drop 24).take 12
def fn_36 : List DefP := (fn.drop 36).take 12
def fn_48 : List DefP := (fn.drop 48).take 12
open PySem PySem.W PySem.Calls PyProof.Rows HandSHeadRun in
theorem run1 (w : World) (os : OsState) : (HandSHeadRun.endF (HandSHeadRun.stepQ (HandSHeadRun.denQ HandSHeadRun.tabQ) RR.prog w) 20000 RR.prog w os).map (fun s => (looksF RR.prog (boot_heap w.params) s.abs, HandSHeadRun.seenQ (PySem.W.view RR.prog [81, 82]) loose (importedModules RR.prog.main.body) (fun s => xlAt (PySem.W.view RR.prog [81, 82]) [] s && recOk RR.toRowW.records s) s.abs)) = some (true, openGood (PySem.W.view RR.prog [81, 82]) loose) := by
  kernel_rfl
open PySem PySem.W PySem.Calls PyProof.Rows HandSHeadRun in
theorem runp0 (w : World) (os : OsState) : (HandSHeadRun.endF (HandSHeadRun.stepQ (HandSHeadRun.denQ HandSHeadRun.tabQ) RR.prog w) 20000 RR.prog w os).map (fun s => obsPG 5 fa_0 [] (HandSHeadRun.getT s)) = some (valP []) := by
  kernel_rfl
open PySem PySem.W PySem.Calls PyProof.Rows HandSHeadRun in
theorem runp1 (w : World) (os : OsState) : (HandSHeadRun.endF (HandSHeadRun.stepQ (HandSHeadRun.denQ HandSHeadRun.tabQ) RR.prog w) 20000 RR.prog w os).map (fun s => obsPG 5 fa_24 [] (HandSHeadRun.getT s)) = some (valP []) := by
  kernel_rfl
open PySem PySem.W PySem.Calls PyProof.Rows HandSHeadRun in
theorem runp2 (w : World) (os : OsState) : (HandSHeadRun.endF (HandSHeadRun.stepQ (HandSHeadRun.denQ HandSHeadRun.tabQ) RR.prog w) 20000 RR.prog w os).map (fun s => obsPG 5 fa_48 [] (HandSHeadRun.getT s)) = some (valP []) := by
  kernel_rfl
open PySem PySem.W PySem.Calls PyProof.Rows HandSHeadRun in
theorem runp3 (w : World) (os : OsState) : (HandSHeadRun.endF (HandSHeadRun.stepQ (HandSHeadRun.denQ HandSHeadRun.tabQ) RR.prog w) 20000 RR.prog w os).map (fun s => obsPG 5 fa_72 [] (HandSHeadRun.getT s)) = some (valP []) := by
  kernel_rfl
open PySem PySem.W PySem.Calls PyProof.Rows HandSHeadRun in
theorem runp4 (w : World) (os : OsState) : (HandSHeadRun.endF (HandSHeadRun.stepQ (HandSHeadRun.denQ HandSHeadRun.tabQ) RR.prog w) 20000 RR.prog w os).map (fun s => obsPG 5 fa_77 [] (HandSHeadRun.getT s)) = some (valP []) := by
  kernel_rfl
open PySem PySem.W PySem.Calls PyProof.Rows HandSHeadRun in
theorem runp5 (w : World) (os : OsState) : (HandSHeadRun.endF (HandSHeadRun.stepQ (HandSHeadRun.denQ HandSHeadRun.tabQ) RR.prog w) 20000 RR.prog w os).map (fun s => obsPG 5 fa_78 [] (HandSHeadRun.getT s)) = some (valP []) := by
  kernel_rfl
open PySem PySem.W PySem.Calls PyProof.Rows HandSHeadRun in
theorem runp6 (w : World) (os : OsState) : (HandSHeadRun.endF (HandSHeadRun.stepQ (HandSHeadRun.denQ HandSHeadRun.tabQ) RR.prog w) 20000 RR.prog w os).map (fun s => obsPG 5 fa_79 [] (HandSHeadRun.getT s)) = some (valP []) := by
  kernel_rfl
open PySem PySem.W PySem.Calls PyProof.Rows HandSHeadRun in
theorem runp7 (w : World) (os : OsState) : (HandSHeadRun.endF (HandSHeadRun.stepQ (HandSHeadRun.denQ HandSHeadRun.tabQ) RR.prog w) 20000 RR.prog w os).map (fun s => obsPG 5 fa_94 [] (HandSHeadRun.getT s)) = some (valP []) := by
  kernel_rfl
open PySem PySem.W PySem.Calls PyProof.Rows HandSHeadRun in
theorem runp8 (w : World) (os : OsState) : (HandSHeadRun.endF (HandSHeadRun.stepQ (HandSHeadRun.denQ HandSHeadRun.tabQ) RR.prog w) 20000 RR.prog w os).map (fun s => obsPG 5 [] fn_0 (HandSHeadRun.getT s)) = some (valP fn_0) := by
  kernel_rfl
open PySem PySem.W PySem.Calls PyProof.Rows HandSHeadRun in
theorem runp9 (w : World) (os : OsState) : (HandSHeadRun.endF (HandSHeadRun.stepQ (HandSHeadRun.denQ HandSHeadRun.tabQ) RR.prog w) 20000 RR.prog w os).map (fun s => obsPG 5 [] fn_12 (HandSHeadRun.getT s)) = some (valP fn_12) := by
  kernel_rfl
open PySem PySem.W PySem.Calls PyProof.Rows HandSHeadRun in
theorem runp10 (w : World) (os : OsState) : (HandSHeadRun.endF (HandSHeadRun.stepQ (HandSHeadRun.denQ HandSHeadRun.tabQ) RR.prog w) 20000 RR.prog w os).map (fun s => obsPG 5 [] fn_24 (HandSHeadRun.getT s)) = some (valP fn_24) := by
  kernel_rfl
open PySem PySem.W PySem.Calls PyProof.Rows HandSHeadRun in
theorem runp11 (w : World) (os : OsState) : (HandSHeadRun.endF (HandSHeadRun.stepQ (HandSHeadRun.denQ HandSHeadRun.tabQ) RR.prog w) 20000 RR.prog w os).map (fun s => obsPG 5 [] fn_36 (HandSHeadRun.getT s)) = some (valP fn_36) := by
  kernel_rfl
open PySem PySem.W PySem.Calls PyProof.Rows HandSHeadRun in
theorem runp12 (w : World) (os : OsState) : (HandSHeadRun.endF (HandSHeadRun.stepQ (HandSHeadRun.denQ HandSHeadRun.tabQ) RR.prog w) 20000 RR.prog w os).map (fun s => obsPG 5 [] fn_48 (HandSHeadRun.getT s)) = some (valP fn_48) := by
  kernel_rfl
theorem obs_app {fa1 fa2 : List Ft} {fn1 fn2 : List DefP} {g : Addr → Option Obj} (h1 : obsPG 5 fa1 fn1 g = valP fn1) (h2 : obsPG 5 fa2 fn2 g = valP fn2) : obsPG 5 (fa1 ++ fa2) (fn1 ++ fn2) g = valP (fn1 ++ fn2) := by
  unfold obsPG obsP valP at *
  generalize frG g (asM g 5) = K at *
  have a1 := congrArg Prod.fst h1
  have a2 := congrArg Prod.fst h2
  have c1 : (fn1.map fun d => fnP K (d.at_.ad K)) = fn1.map DefP.val := congrArg Prod.snd h1
  have c2 : (fn2.map fun d => fnP K (d.at_.ad K)) = fn2.map DefP.val := congrArg Prod.snd h2
  simp only [Bool.and_eq_true] at a1 a2
  rw [List.all_append, List.all_append, List.map_append, List.map_append, a1.1, a1.2, a2.1, a2.2, c1, c2]
  rfl
theorem obs_two {x : Option PySem.W.SharedT} {fa1 fa2 : List Ft} {fn1 fn2 : List DefP} (h1 : x.map (fun s => obsPG 5 fa1 fn1 (HandSHeadRun.getT s)) = some (valP fn1)) (h2 : x.map (fun s => obsPG 5 fa2 fn2 (HandSHeadRun.getT s)) = some (valP fn2)) : x.map (fun s => obsPG 5 (fa1 ++ fa2) (fn1 ++ fn2) (HandSHeadRun.getT s)) = some (valP (fn1 ++ fn2)) := by
  cases x with
  | none => cases h1
  | some s => exact congrArg some (obs_app (Option.some.inj h1) (Option.some.inj h2))
theorem map3 {α β γ δ : Type} {x : Option α} {f : α → β} {g : α → γ} {h : α → δ} {a : β} {b : γ} {c : δ} (e1 : x.map (fun s => (f s, g s)) = some (a, b)) (e3 : x.map h = some c) : x.map (fun s => (f s, g s, h s)) = some (a, b, c) := by
  cases x with
  | none => cases e1
  | some s =>
    cases e3
    have e := Option.some.inj e1
    have e4 : f s = a := congrArg Prod.fst e
    have e5 : g s = b := congrArg Prod.snd e
    subst e4
    subst e5
    rfl
theorem efa : (fa_0 ++ (fa_24 ++ (fa_48 ++ (fa_72 ++ (fa_77 ++ (fa_78 ++ (fa_79 ++ (fa_94 ++ ([] ++ ([] ++ ([] ++ ([] ++ [])))))))))))) = fa := rfl
theorem efn : ([] ++ ([] ++ ([] ++ ([] ++ ([] ++ ([] ++ ([] ++ ([] ++ (fn_0 ++ (fn_12 ++ (fn_24 ++ (fn_36 ++ fn_48)))))))))))) = fn := rfl
theorem runob (w : World) (os : OsState) : (HandSHeadRun.endF (HandSHeadRun.stepQ (HandSHeadRun.denQ HandSHeadRun.tabQ) RR.prog w) 20000 RR.prog w os).map (fun s => ob s) = some (valP fn) := by
  have h := (obs_two (runp0 w os) (obs_two (runp1 w os) (obs_two (runp2 w os) (obs_two (runp3 w os) (obs_two (runp4 w os) (obs_two (runp5 w os) (obs_two (runp6 w os) (obs_two (runp7 w os) (obs_two (runp8 w os) (obs_two (runp9 w os) (obs_two (runp10 w os) (obs_two (runp11 w os) (runp12 w os)))))))))))))
  rw [efa, efn] at h
  exact h
theorem run (w : World) : HandSHeadRun.RunEq RR (PySem.W.view RR.prog [81, 82]) hk ob 20000 loose w := fun os => map3 (run1 w os) (runob w os)
end G57

end
set_option maxHeartbeats 4000000
set_option Elab.async false
set_option linter.all false
set_option maxRecDepth 100000
set_option maxHeartbeats 2000000
/-! Mi0: a mirror of Python code as plain functions on data, over the hand layer. Data D, how data lie in the abstract heap (Rep), steps of the heap (Stp, Gd), slots (Env, Sta), readings of mirrors (rdE, rdT, rdA, rdS, rdI, rdG, spM). -/
namespace Mi
open PySem PySem.Spec PyProof.Rows L2

/-- data -/
inductive D where
  | non | bl (b : Bool) | int (i : Int) | str (x : Str)
  | tup (ds : List D) | lst (ds : List D)
  | obj (c : Str) (ks : List Str) (ds : List D)
  | pur | ty (n : String) | cls (c : Str) | scr (ns : List Int)
  /-- an error that was caught; a dict with texts as keys -/
  | exc (c : Str) (ks : List Str) (ds : List D) | dct (ks : List Str) (ds : List D) | ecl (c : Str)
  /-- a dict whose keys are nested tuples of numbers -/
  | ndc (ks : List D) (ds : List D)
/-- the tables of code objects that lambdas are written into -/
class Tabl where
  T : List (Addr × Str)
  loose : Bool
variable [TB : Tabl]

/-- the one list that changes through calls (a purse of drawn numbers); idle: none is in use -/
inductive PuS where
  | real (l : List Int) | idle (o : HO)
def PuS.ho : PuS → HO
  | .real l => .lst (l.map V.int)
  | .idle o => o

/-- what is fixed: the written part, the classes by name -/
structure Wo where
  K : PySem.W.Frag
  cl : Str → Addr
  cs : List Str

/-- the object at a is just this one -/
def dxO (a : Addr) (o : Obj) : HO := .ext fun h => h.get? a = some o
/-- a dict's object: keys, where they stand, values -/
def DxO (a : Addr) (o : Obj) (xs : List (NestedKey × Addr × Value)) : Prop := (a == sysModules) = false ∧ o.ExactDict ∧ xs.length ≤ sizeLine ∧ (xs.map (·.1)).Nodup ∧
  ∃ es ep, o.data = .dict es ep ∧ ∀ (P : Program) (w : World), es.toList = xs.map (entryOfKey (nestedKind P w))
mutual
/-- data as a key -/
def keyN : D → Option NestedKey
  | .int i => some (.num i)
  | .tup ds => (keyNs ds).map .tup
  | _ => none
def keyNs : List D → Option (List NestedKey)
  | [] => some []
  | d :: r => match keyN d, keyNs r with
    | some k, some ks => some (k :: ks)
    | _, _ => none
end
inductive Rep (W : Wo) (p : Addr) (F : Hp) : V → D → Prop
  | non : Rep W p F .non .non
  | bl (b : Bool) : Rep W p F (.bl b) (.bl b)
  | int (i : Int) : Rep W p F (.int i) (.int i)
  | str (x : Str) : Rep W p F (.str x) (.str x)
  | ty (n : String) : Rep W p F (.ty n) (.ty n)
  | cls (c : Str) (hc : c ∈ W.cs) : Rep W p F (.ref (W.cl c)) (.cls c)
  | pur : Rep W p F (.ref p) .pur
  | scr {a : Addr} {ns : List Int} (h : SqL W.K F a (ns.map V.int)) : Rep W p F (.ref a) (.scr ns)
  | tup {a : Addr} {vs : List V} {ds : List D} (h : SqT W.K F a vs) (l : vs.length = ds.length) (r : ∀ (i : Nat) (v : V) (d : D), vs[i]? = some v → ds[i]? = some d → Rep W p F v d) : Rep W p F (.ref a) (.tup ds)
  | lst {a : Addr} {vs : List V} {ds : List D} (h : F a = some (.lst vs)) (l : vs.length = ds.length) (r : ∀ (i : Nat) (v : V) (d : D), vs[i]? = some v → ds[i]? = some d → Rep W p F v d) : Rep W p F (.ref a) (.lst ds)
  | obj {a dx : Addr} {c : Str} {ks : List Str} {vs : List V} {ds : List D} (hc : c ∈ W.cs) (h : F a = some (.ins (W.cl c) dx (ks.zip vs))) (lk : ks.length = vs.length) (l : vs.length = ds.length)
      (r : ∀ (i : Nat) (v : V) (d : D), vs[i]? = some v → ds[i]? = some d → Rep W p F v d) : Rep W p F (.ref a) (.obj c ks ds)
  | exc {a dx : Addr} {oe : Obj} {u : HO} {fs : Array Value} {c : Str} {ks : List Str} {vs : List V} {ds : List D} (hc : c ∈ errs) (h : F a = some (.frz oe u)) (hk : oe.cls = .ref (W.cl c)) (hf : oe.data = .fields fs) (h2 : fs[2]? = some .none)
      (hx : (oe.dict = some dx ∧ F dx = some (.xd (ks.zip vs))) ∨ (oe.dict = none ∧ ks = [])) (lk : ks.length = vs.length) (l : vs.length = ds.length) (r : ∀ (i : Nat) (v : V) (d : D), vs[i]? = some v → ds[i]? = some d → Rep W p F v d) : Rep W p F (.ref a) (.exc c ks ds)
  | ecl (c : Str) (hc : c ∈ errs) : Rep W p F (.ref (W.cl c)) (.ecl c)
  | dct {a : Addr} {ks : List Str} {vs : List V} {ds : List D} (h : F a = some (.dK ((ks.map Sum.inr).zip vs))) (lk : ks.length = vs.length) (l : vs.length = ds.length)
      (r : ∀ (i : Nat) (v : V) (d : D), vs[i]? = some v → ds[i]? = some d → Rep W p F v d) : Rep W p F (.ref a) (.dct ks ds)
  | ndc {a : Addr} {o : Obj} {xs : List (NestedKey × Addr × Value)} {vs : List V} {ks ds : List D} (h : F a = some (dxO a o)) (hx : DxO a o xs) (lk : xs.length = ks.length) (lv : xs.length = vs.length) (l : vs.length = ds.length)
      (hk : ∀ (i : Nat) (x : NestedKey × Addr × Value) (d : D), xs[i]? = some x → ks[i]? = some d → keyN d = some x.1 ∧ x.1.depth ≤ 8)
      (rv : ∀ (i : Nat) (x : NestedKey × Addr × Value) (v : V), xs[i]? = some x → vs[i]? = some v → RelV v x.2.2)
      (rk : ∀ (i : Nat) (x : NestedKey × Addr × Value) (d : D), xs[i]? = some x → ks[i]? = some d → Rep W p F (.ref x.2.1) d)
      (r : ∀ (i : Nat) (v : V) (d : D), vs[i]? = some v → ds[i]? = some d → Rep W p F v d) : Rep W p F (.ref a) (.ndc ks ds)

/-- keys and values of a dict -/
structure DctR (W : Wo) (p : Addr) (F : Hp) (xs : List (NestedKey × Addr × Value)) (vs : List V) (ks ds : List D) : Prop where
  lk : xs.length = ks.length
  lv : xs.length = vs.length
  l : vs.length = ds.length
  hk : ∀ (i : Nat) (x : NestedKey × Addr × Value) (d : D), xs[i]? = some x → ks[i]? = some d → keyN d = some x.1 ∧ x.1.depth ≤ 8
  rv : ∀ (i : Nat) (x : NestedKey × Addr × Value) (v : V), xs[i]? = some x → vs[i]? = some v → RelV v x.2.2
  rk : ∀ (i : Nat) (x : NestedKey × Addr × Value) (d : D), xs[i]? = some x → ks[i]? = some d → Rep W p F (.ref x.2.1) d
  r : ∀ (i : Nat) (v : V) (d : D), vs[i]? = some v → ds[i]? = some d → Rep W p F v d
def Reps (W : Wo) (p : Addr) (F : Hp) (vs : List V) (ds : List D) : Prop := vs.length = ds.length ∧ ∀ (i : Nat) (v : V) (d : D), vs[i]? = some v → ds[i]? = some d → Rep W p F v d

theorem sq_t {K : PySem.W.Frag} {H H' : Hp} {a : Addr} {xs : List V} (e : Same H H') (h : SqT K H a xs) : SqT K H' a xs := by
  rcases h with (h | ⟨o, h⟩) | h
  · exact .inl (.inl (e _ _ h))
  · exact .inl (.inr ⟨o, e _ _ h⟩)
  · exact .inr h

theorem sq_l {K : PySem.W.Frag} {H H' : Hp} {a : Addr} {xs : List V} (e : Same H H') (h : SqL K H a xs) : SqL K H' a xs := by
  rcases h with (h | ⟨o, h⟩) | h
  · exact .inl (.inl (e _ _ h))
  · exact .inl (.inr ⟨o, e _ _ h⟩)
  · exact .inr h

section
variable {W : Wo} {p : Addr} {F F' H H' F1 H1 F2 H2 : Hp} {u u1 u2 : PuS}
theorem Rep.mono {v : V} {d : D} (e : Same F F') (h : Rep W p F v d) : Rep W p F' v d := by
  induction h with
  | non => exact .non
  | bl b => exact .bl b
  | int i => exact .int i
  | str x => exact .str x
  | ty n => exact .ty n
  | cls c hc => exact .cls c hc
  | pur => exact .pur
  | scr h => exact .scr (sq_l e h)
  | tup h l r ih => exact .tup (sq_t e h) l ih
  | lst h l r ih => exact .lst (e _ _ h) l ih
  | obj hc h lk l r ih => exact .obj hc (e _ _ h) lk l ih
  | exc hc h hk hf h2 hx lk l r ih => exact .exc hc (e _ _ h) hk hf h2 (hx.imp (fun z => ⟨z.1, e _ _ z.2⟩) id) lk l ih
  | dct h lk l r ih => exact .dct (e _ _ h) lk l ih
  | ecl c hc => exact .ecl c hc
  | ndc h hx lk lv l hk rv rk r ihk ih => exact .ndc (e _ _ h) hx lk lv l hk rv ihk ih
theorem Reps.mono {vs : List V} {ds : List D} (e : Same F F') (h : Reps W p F vs ds) : Reps W p F' vs ds := ⟨h.1, fun i v d a b => (h.2 i v d a b).mono e⟩
theorem DctR.mono {xs : List (NestedKey × Addr × Value)} {vs : List V} {ks ds : List D} (e : Same F F') (h : DctR W p F xs vs ks ds) : DctR W p F' xs vs ks ds := ⟨h.lk, h.lv, h.l, h.hk, h.rv, fun i x d a b => (h.rk i x d a b).mono e, fun i v d a b => (h.r i v d a b).mono e⟩
theorem Reps.nil : Reps W p F [] [] := ⟨rfl, fun i v d a _ => by simp at a⟩
theorem Reps.cons {v : V} {d : D} {vs : List V} {ds : List D} (h : Rep W p F v d) (r : Reps W p F vs ds) : Reps W p F (v :: vs) (d :: ds) := by
  refine ⟨by simp [r.1], fun i x y a b => ?_⟩
  cases i with
  | zero =>
    simp at a b
    subst a; subst b
    exact h
  | succ i =>
    simp at a b
    exact r.2 i x y a b
theorem Reps.uncons {vs : List V} {d : D} {ds : List D} (r : Reps W p F vs (d :: ds)) : ∃ v vr, vs = v :: vr ∧ Rep W p F v d ∧ Reps W p F vr ds := by
  obtain ⟨l, r⟩ := r
  cases vs with
  | nil => simp at l
  | cons v vr => exact ⟨v, vr, rfl, r 0 v d rfl rfl, by simpa using l, fun i x y a b => r (i + 1) x y (by simpa using a) (by simpa using b)⟩
theorem Reps.none {vs : List V} (r : Reps W p F vs []) : vs = [] := by
  cases vs with
  | nil => rfl
  | cons v vr => have := r.1; simp at this
theorem Reps.append {vs ws : List V} {ds es : List D} (a : Reps W p F vs ds) (b : Reps W p F ws es) : Reps W p F (vs ++ ws) (ds ++ es) := by
  refine ⟨by simp [a.1, b.1], fun i v d h1 h2 => ?_⟩
  by_cases hi : i < vs.length
  · rw [List.getElem?_append_left hi] at h1
    rw [List.getElem?_append_left (by rw [← a.1]; exact hi)] at h2
    exact a.2 i v d h1 h2
  · rw [List.getElem?_append_right (by omega)] at h1
    rw [List.getElem?_append_right (by rw [← a.1]; omega)] at h2
    rw [a.1] at h1
    exact b.2 _ v d h1 h2
theorem Reps.get {vs : List V} {ds : List D} {i : Nat} {d : D} (a : Reps W p F vs ds) (h : ds[i]? = some d) : ∃ v, vs[i]? = some v ∧ Rep W p F v d := by
  have hi : i < vs.length := by
    have := (List.getElem?_eq_some_iff.mp h).1
    rw [a.1]; exact this
  exact ⟨vs[i], List.getElem?_eq_getElem hi, a.2 i _ d (List.getElem?_eq_getElem hi) h⟩

/-! ### steps of the heap -/
structure Stp (p : Addr) (F H F' H' : Hp) : Prop where
  ef : Same F F'
  eh : ∀ a o, a ≠ p → H a = some o → (TB.loose = false ∨ ∀ ps, o ≠ .tbl ps) → H' a = some o
  et : ∀ a ps, a ≠ p → H a = some (.tbl ps) → ∃ qs, H' a = some (.tbl qs)
  nw : ∀ a o, F' a = some o → F a = some o ∨ H a = none
structure Gd (p : Addr) (u : PuS) (F H : Hp) : Prop where
  ex : Same F H
  pu : H p = some u.ho
  off : ∀ l, u = .real l → F p = none
  nt : ∀ a ps, F a ≠ some (.tbl ps)
  tb : LamX.Tabs TB.T H
  hp : ∀ ps, u.ho ≠ .tbl ps
theorem tbl_or (o : HO) : (∃ ps, o = .tbl ps) ∨ ∀ ps, o ≠ .tbl ps := by
  cases o with
  | tbl ps => exact .inl ⟨ps, rfl⟩
  | _ => exact .inr fun ps z => by cases z
theorem Stp.kept (s : Stp p F H F1 H1) {a : Addr} (ha : a ≠ p) (h : H a ≠ none) : H1 a ≠ none := by
  cases q : H a with
  | none => exact absurd q h
  | some o =>
    rcases tbl_or o with ⟨ps, rfl⟩ | n
    · obtain ⟨qs, e⟩ := s.et a ps ha q
      rw [e]; simp
    · rw [s.eh a o ha q (.inr n)]; simp
theorem Stp.refl : Stp p F H F H := ⟨fun _ _ h => h, fun _ _ _ h _ => h, fun _ ps _ h => ⟨ps, h⟩, fun _ _ h => .inl h⟩
theorem Stp.trans (s : Stp p F H F1 H1) (g : H1 p ≠ none) (t : Stp p F1 H1 F2 H2) : Stp p F H F2 H2 := by
  refine ⟨s.ef.trans t.ef, fun a o h e n => t.eh a o h (s.eh a o h e n) n, fun a ps h e => ?_, fun a o e => ?_⟩
  · obtain ⟨qs, e1⟩ := s.et a ps h e
    exact t.et a qs h e1
  rcases t.nw a o e with h | h
  · exact s.nw a o h
  · right
    cases q : H a with
    | none => rfl
    | some x =>
      by_cases ha : a = p
      · subst ha; exact absurd h g
      · exact absurd h (s.kept ha (by rw [q]; simp))
theorem Gd.ne (g : Gd p u F H) : H p ≠ none := by rw [g.pu]; simp
theorem grow {q : Addr} {o : HO} (h : H q = none) : ∀ b x, H b = some x → upd H q o b = some x := fun b x e => by rw [upd_ne (ne_of_none e h)]; exact e
/-- what is written over an object that is neither a table nor a code object leaves the tables -/
theorem tabs_over {T : List (Addr × Str)} {q : Addr} {o : HO} {xs : List V} (hq : H q = some (.lst xs)) (t : LamX.Tabs T H) : LamX.Tabs T (upd H q o) := fun P hP => by
  obtain ⟨ps, h1, h2, h3⟩ := t P hP
  refine ⟨ps, by rw [upd_ne (fun z => by rw [z, hq] at h1; cases h1)]; exact h1, h2, fun ps2 cv e => ?_⟩
  obtain ⟨c, e1, e2⟩ := h3 ps2 cv e
  exact ⟨c, e1, by rw [upd_ne (fun z => by rw [z, hq] at e2; have := Option.some.inj e2; unfold LamX.CodeO at this; cases this)]; exact e2⟩
theorem tabs_overI {T : List (Addr × Str)} {q : Addr} {o : HO} {C dx : Addr} {fs : List (Str × V)} (hq : H q = some (.ins C dx fs)) (t : LamX.Tabs T H) : LamX.Tabs T (upd H q o) := fun P hP => by
  obtain ⟨ps, h1, h2, h3⟩ := t P hP
  refine ⟨ps, by rw [upd_ne (fun z => by rw [z, hq] at h1; cases h1)]; exact h1, h2, fun ps2 cv e => ?_⟩
  obtain ⟨c, e1, e2⟩ := h3 ps2 cv e
  exact ⟨c, e1, by rw [upd_ne (fun z => by rw [z, hq] at e2; have := Option.some.inj e2; unfold LamX.CodeO at this; cases this)]; exact e2⟩
theorem nt_upd {q : Addr} {o : HO} (g : ∀ a ps, F a ≠ some (.tbl ps)) (no : ∀ ps, o ≠ .tbl ps) : ∀ a ps, upd F q o a ≠ some (.tbl ps) := fun a ps z => by
  by_cases ha : a = q
  · subst ha; rw [upd_same] at z; exact no ps (Option.some.inj z)
  · rw [upd_ne ha] at z; exact g a ps z
theorem Gd.new {q : Addr} {o : HO} (g : Gd p u F H) (h : H q = none) (no : ∀ ps, o ≠ .tbl ps := by intro _ z; cases z) : Gd p u (upd F q o) (upd H q o) := by
  have hq : p ≠ q := fun e => g.ne (e ▸ h)
  refine ⟨fun a x e => ?_, by rw [upd_ne hq]; exact g.pu, fun l e => by rw [upd_ne hq]; exact g.off l e, nt_upd g.nt no, g.tb.ext (grow h), g.hp⟩
  by_cases ha : a = q
  · subst ha; rw [upd_same] at e ⊢; exact e
  · rw [upd_ne ha] at e ⊢; exact g.ex a x e
theorem Stp.new {q : Addr} {o : HO} (g : Gd p u F H) (h : H q = none) : Stp p F H (upd F q o) (upd H q o) := by
  refine ⟨fun a x e => ?_, fun a x _ e _ => ?_, fun a ps _ e => ⟨ps, grow h a _ e⟩, fun a x e => ?_⟩
  · rw [upd_ne (ne_of_none (g.ex a x e) h)]; exact e
  · rw [upd_ne (ne_of_none e h)]; exact e
  · by_cases ha : a = q
    · subst ha; exact .inr h
    · rw [upd_ne ha] at e; exact .inl e
/-- a new object that is not frozen -/
theorem Gd.own {q : Addr} {o : HO} (g : Gd p u F H) (h : H q = none) : Gd p u F (upd H q o) := by
  have hq : p ≠ q := fun e => g.ne (e ▸ h)
  exact ⟨fun a x e => by rw [upd_ne (ne_of_none (g.ex a x e) h)]; exact g.ex a x e, by rw [upd_ne hq]; exact g.pu, g.off, g.nt, g.tb.ext (grow h), g.hp⟩
theorem Stp.own {q : Addr} {o : HO} (h : H q = none) : Stp p F H F (upd H q o) :=
  ⟨fun _ _ e => e, fun a x _ e _ => by rw [upd_ne (ne_of_none e h)]; exact e, fun a ps _ e => ⟨ps, grow h a _ e⟩, fun _ _ e => .inl e⟩
theorem Gd.fresh {q : Addr} (g : Gd p u F H) (h : H q = none) : F q = none := by
  cases e : F q with
  | none => rfl
  | some o => rw [g.ex q o e] at h; cases h
theorem Stp.off {q : Addr} (s : Stp p F H F' H') (h : F q = none) (h' : H q ≠ none) : F' q = none := by
  cases e : F' q with
  | none => rfl
  | some o =>
    rcases s.nw q o e with z | z
    · rw [h] at z; cases z
    · exact absurd z h'
end

/-! ### slots -/
inductive Sd where
  | un | sh (d : D) | ow (ds : List D) | oi (c : Str) (ks : List Str) (ds : List D) | od (ks ds : List D)
abbrev Env := List Sd
def Sd.own : Sd → Bool
  | .ow _ => true
  | .oi _ _ _ => true
  | .od _ _ => true
  | _ => false
/-- where a body runs: entered at F0, H0; sf: the object that is being made -/
structure Cf where
  W : Wo
  p : Addr
  F0 : Hp
  H0 : Hp
  sf : Addr
  xw : WX
def SdOk (c : Cf) (F H : Hp) (x : Option (Option V)) : Sd → Prop
  | .un => True
  | .sh d => ∃ v, x = some (some v) ∧ Rep c.W c.p F v d
  | .ow ds => ∃ q vs, x = some (some (.ref q)) ∧ H q = some (.lst vs) ∧ F q = none ∧ q ≠ c.p ∧ c.H0 q = none ∧ Reps c.W c.p F vs ds
  | .oi k ks ds => ∃ dx vs, x = some (some (.ref c.sf)) ∧ H c.sf = some (.ins (c.W.cl k) dx (ks.zip vs)) ∧ F c.sf = none ∧ c.sf ≠ c.p ∧ c.H0 c.sf = none ∧ ks.length = vs.length ∧ Reps c.W c.p F vs ds
  | .od ks ds => ∃ q o xs vs, x = some (some (.ref q)) ∧ H q = some (dxO q o) ∧ F q = none ∧ q ≠ c.p ∧ c.H0 q = none ∧ DxO q o xs ∧ DctR c.W c.p F xs vs ks ds
structure EnvOk (c : Cf) (F H : Hp) (σ : L2.St) (ρ : Env) : Prop where
  len : σ.length = ρ.length
  at_ : ∀ (i : Nat) (s : Sd), ρ[i]? = some s → SdOk c F H σ[i]? s
  ne : ∀ (i j : Nat) (s t : Sd), i ≠ j → ρ[i]? = some s → ρ[j]? = some t → s.own = true → t.own = true → σ[i]? ≠ σ[j]?
structure Sta (c : Cf) (u : PuS) (F H : Hp) (σ : L2.St) (ρ : Env) : Prop where
  ent : Stp c.p c.F0 c.H0 F H
  gd : Gd c.p u F H
  env : EnvOk c F H σ ρ
section
variable {c : Cf} {u u' : PuS} {F H F' H' : Hp} {σ : L2.St} {ρ : Env}
theorem SdOk.step {x : Option (Option V)} {s : Sd} (h : SdOk c F H x s) (t : Stp c.p F H F' H') : SdOk c F' H' x s := by
  cases s with
  | un => trivial
  | sh d => obtain ⟨v, e, r⟩ := h; exact ⟨v, e, r.mono t.ef⟩
  | ow ds => obtain ⟨q, vs, e, hq, hf, hp, h0, r⟩ := h; exact ⟨q, vs, e, t.eh q _ hp hq (.inr (by intro _ z; cases z)), t.off hf (by rw [hq]; simp), hp, h0, r.mono t.ef⟩
  | oi k ks ds => obtain ⟨dx, vs, e, hq, hf, hp, h0, hl, r⟩ := h; exact ⟨dx, vs, e, t.eh _ _ hp hq (.inr (by intro _ z; cases z)), t.off hf (by rw [hq]; simp), hp, h0, hl, r.mono t.ef⟩
  | od ks ds => obtain ⟨q, o, xs, vs, e, hq, hf, hp, h0, hx, r⟩ := h; exact ⟨q, o, xs, vs, e, t.eh _ _ hp hq (.inr (by intro _ z; cases z)), t.off hf (by rw [hq]; simp), hp, h0, hx, r.mono t.ef⟩
theorem Sta.step (s : Sta c u F H σ ρ) (t : Stp c.p F H F' H') (g : Gd c.p u' F' H') : Sta c u' F' H' σ ρ :=
  ⟨s.ent.trans s.gd.ne t, g, s.env.len, fun i x e => (s.env.at_ i x e).step t, s.env.ne⟩
end

/-! ### mirrors -/
abbrev M (α : Type) := PuS → Option (α × PuS)
def M.pure {α : Type} (a : α) : M α := fun u => some (a, u)
def M.bind {α β : Type} (m : M α) (f : α → M β) : M β := fun u => match m u with
  | some (a, u') => f a u'
  | none => none
def lft {α : Type} (o : Option α) : M α := fun u => o.map fun a => (a, u)
instance : Monad M where
  pure := M.pure
  bind := M.bind
/-- what is wanted behind a mirror's step -/
def After {α : Type} (p : Addr) (F H : Hp) (r : Option (α × PuS)) (Φ : α → PuS → Hp → Hp → Prop) : Prop := match r with
  | some (a, u') => ∀ F' H', Stp p F H F' H' → Gd p u' F' H' → Φ a u' F' H'
  | none => False
section
variable {α β : Type} {p : Addr} {F H : Hp} {u : PuS}
theorem After.imp {r : Option (α × PuS)} {Φ Ψ : α → PuS → Hp → Hp → Prop} (h : After p F H r Φ) (k : ∀ a u' F' H', r = some (a, u') → Stp p F H F' H' → Gd p u' F' H' → Φ a u' F' H' → Ψ a u' F' H') : After p F H r Ψ := by
  cases r with
  | none => exact h
  | some x => obtain ⟨a, u'⟩ := x; exact fun F' H' s g => k a u' F' H' rfl s g (h F' H' s g)
theorem After.split {m : M α} {f : α → M β} {Φ : β → PuS → Hp → Hp → Prop} (h : After p F H (M.bind m f u) Φ) : After p F H (m u) fun a u1 F1 H1 => After p F1 H1 (f a u1) Φ := by
  unfold M.bind at h
  cases e : m u with
  | none => rw [e] at h; exact h
  | some x =>
    obtain ⟨a, u1⟩ := x
    rw [e] at h
    intro F1 H1 s g
    show After p F1 H1 (f a u1) Φ
    have h2 : After p F H (f a u1) Φ := h
    cases e2 : f a u1 with
    | none => rw [e2] at h2; exact h2
    | some y =>
      obtain ⟨b, u2⟩ := y
      rw [e2] at h2
      exact fun F2 H2 s2 g2 => h2 F2 H2 (s.trans g.ne s2) g2
theorem After.now {a : α} {Φ : α → PuS → Hp → Hp → Prop} (g : Gd p u F H) (h : After p F H (some (a, u)) Φ) : Φ a u F H := h F H Stp.refl g
end

abbrev ME := Env → M D
abbrev MT := Env → M Bool
abbrev MA := Env → M (List D)
inductive Fl where
  | nx (ρ : Env) | rt (d : D) | bk (ρ : Env) | ct (ρ : Env) | rl (ds : List D)
  | ex (ρ : Env) (c : Str) (ks : List Str) (ds : List D)
abbrev MS := Env → M Fl
abbrev MG := D → Env → Option Env

def rdE (c : Cf) (m : ME) : TE := fun σ H Q => ∃ F u ρ, Sta c u F H σ ρ ∧ After c.p F H (m ρ u) fun d _ F' H' => ∀ v, Rep c.W c.p F' v d → Q v H'
def rdT (c : Cf) (m : MT) : TT := fun σ H Q => ∃ F u ρ, Sta c u F H σ ρ ∧ After c.p F H (m ρ u) fun b _ _ H' => Q b H'
def rdA (c : Cf) (m : MA) : TA := fun σ H Q => ∃ F u ρ, Sta c u F H σ ρ ∧ After c.p F H (m ρ u) fun ds _ F' H' => ∀ vs, Reps c.W c.p F' vs ds → Q vs H'
/-- a fresh list, not frozen -/
def rdL (c : Cf) (m : MA) : TE := fun σ H Q => ∃ F u ρ, Sta c u F H σ ρ ∧ After c.p F H (m ρ u) fun ds _ F' H' => ∀ q vs, F' q = none → H q = none → H' q = some (.lst vs) → Reps c.W c.p F' vs ds → Q (.ref q) H'
/-- what is known of an error in flight: its class, its dict -/
def ExRep (W : Wo) (p : Addr) (F : Hp) (k : Str) (ks : List Str) (ds : List D) (cls : Value) (od : Option Addr) : Prop :=
  cls = .ref (W.cl k) ∧ k ∈ errs ∧ ∃ vs, ks.length = vs.length ∧ Reps W p F vs ds ∧ ((∃ dx, od = some dx ∧ F dx = some (.xd (ks.zip vs))) ∨ (od = none ∧ ks = []))
/-- no error is let out -/
abbrev noX : WX := fun _ _ _ _ => False
def flow (c : Cf) (F : Hp) (Dn : Ends) : Fl → PuS → Prop := fun f u' => match f with
  | .nx ρ' => ∀ σ' F' H', Same F F' → Sta c u' F' H' σ' ρ' → Dn.nx σ' H'
  | .bk ρ' => ∀ σ' F' H', Same F F' → Sta c u' F' H' σ' ρ' → Dn.bk σ' H'
  | .ct ρ' => ∀ σ' F' H', Same F F' → Sta c u' F' H' σ' ρ' → Dn.ct σ' H'
  | .rt d => ∀ v F' H', Stp c.p c.F0 c.H0 F' H' → Gd c.p u' F' H' → Rep c.W c.p F' v d → Dn.rt v H'
  | .rl ds => ∀ q vs F' H', Stp c.p c.F0 c.H0 F' H' → Gd c.p u' F' H' → F' q = none → c.H0 q = none → H' q = some (.lst vs) → Reps c.W c.p F' vs ds → Dn.rt (.ref q) H'
  | .ex ρ' k ks ds => ∀ σ' F' H' cls od, Same F F' → Sta c u' F' H' σ' ρ' → ExRep c.W c.p F' k ks ds cls od → c.xw cls od σ' H'
def flowO (c : Cf) (F : Hp) (Dn : Ends) : Option (Fl × PuS) → Prop
  | some (f, u') => flow c F Dn f u'
  | none => False
def rdS (c : Cf) (m : MS) : TS := fun Dn σ H => ∃ F u ρ, Sta c u F H σ ρ ∧ flowO c F Dn (m ρ u)
/-- two slot lists that differ at most at these places -/
def Agr (is : List Nat) (σ σ' : L2.St) : Prop := σ'.length = σ.length ∧ ∀ j, j ∉ is → σ'[j]? = σ[j]?
def rdG (c : Cf) (is : List Nat) (m : MG) : TG := fun v σ H Q => ∃ F u ρ d, Sta c u F H σ ρ ∧ Rep c.W c.p F v d ∧ match m d ρ with
  | some ρ' => ∀ σ', Sta c u F H σ' ρ' → Agr is σ σ' → Q σ' H
  | none => False
def rdGs (c : Cf) (is : List Nat) (m : List D → Env → Option Env) : TGs := fun vs σ H Q => ∃ F u ρ ds, Sta c u F H σ ρ ∧ Reps c.W c.p F vs ds ∧ match m ds ρ with
  | some ρ' => ∀ σ', Sta c u F H σ' ρ' → Agr is σ σ' → Q σ' H
  | none => False
/-- what a walk over data gives -/
def WalkD (W : Wo) (p : Addr) (J : It) (F : Hp) (ds : List D) : Prop := ∃ (G : Hp → Prop) (Y : Nat → Hp → V → Hp → Prop), Walk J ds.length G Y ∧ (∀ H, Same F H → G H) ∧
  ∀ (i : Nat) (H : Hp) (x : V) (H' F2 : Hp) (u : PuS) (d : D), ds[i]? = some d → Same F F2 → Gd p u F2 H → Y i H x H' → ∃ F3, Stp p F2 H F3 H' ∧ Gd p u F3 H' ∧ Rep W p F3 x d
def rdI (c : Cf) (m : MA) : TI := fun σ H R => ∃ F u ρ, Sta c u F H σ ρ ∧ After c.p F H (m ρ u) fun ds _ F' H' => ∀ J, WalkD c.W c.p J F' ds → R J H'
/-- a def's promise by its mirror -/
def spM (W : Wo) (n : Nat) (mf : List D → M D) : Sp := fun vs H Q _ => vs.length = n ∧ ∃ p F u ds, Gd p u F H ∧ Reps W p F vs ds ∧ After p F H (mf ds u) fun d _ F' H' => ∀ v, Rep W p F' v d → Q v H'

/-! ### the judgements -/
theorem _root_.L2.PE.imp {X : Cx} {e : Expr} {t t' : TE} (h : PE X e t) (k : ∀ σ H Q, t' σ H Q → t σ H Q) : PE X e t' := ⟨fun pins s σ H Q I q => h.run pins s σ H Q I (k σ H Q q)⟩
theorem _root_.L2.PT.imp {X : Cx} {e : Expr} {t t' : TT} (h : PT X e t) (k : ∀ σ H Q, t' σ H Q → t σ H Q) : PT X e t' := ⟨fun pins s σ H Q I q => h.run pins s σ H Q I (k σ H Q q)⟩
theorem _root_.L2.PW.imp {X : Cx} {e : Expr} {t t' : TT} (h : PW X e t) (k : ∀ σ H Q, t' σ H Q → t σ H Q) : PW X e t' := ⟨fun wh pins s σ H Q I q => h.run wh pins s σ H Q I (k σ H Q q)⟩
theorem _root_.L2.PA.imp {X : Cx} {e : List Expr} {t t' : TA} (h : PA X e t) (k : ∀ σ H Q, t' σ H Q → t σ H Q) : PA X e t' := ⟨fun pos pins s σ H Q I q => h.run pos pins s σ H Q I (k σ H Q q)⟩
theorem _root_.L2.PS.imp {X : Cx} {e : Stmt} {t t' : TS} (h : PS X e t) (k : ∀ Dn σ H, t' Dn σ H → t Dn σ H) : PS X e t' := ⟨fun pins s σ H Dn I q => h.run pins s σ H Dn I (k Dn σ H q)⟩
theorem _root_.L2.PSs.imp {X : Cx} {e : List Stmt} {t t' : TS} (h : PSs X e t) (k : ∀ Dn σ H, t' Dn σ H → t Dn σ H) : PSs X e t' := ⟨fun pins s σ H Dn I q => h.run pins s σ H Dn I (k Dn σ H q)⟩
theorem _root_.L2.PG.imp {X : Cx} {e : Expr} {t t' : TG} (h : PG X e t) (k : ∀ v σ H Q, t' v σ H Q → t v σ H Q) : PG X e t' := ⟨fun pins s σ H v u Q I r q => h.run pins s σ H v u Q I r (k v σ H Q q)⟩
theorem _root_.L2.PGs.imp {X : Cx} {e : List Expr} {t t' : TGs} (h : PGs X e t) (k : ∀ v σ H Q, t' v σ H Q → t v σ H Q) : PGs X e t' := ⟨fun pins s σ H v u Q I r q => h.run pins s σ H v u Q I r (k v σ H Q q)⟩
theorem _root_.L2.PI.imp {X : Cx} {tg e : Expr} {t t' : TI} (h : PI X tg e t) (k : ∀ σ H R, t' σ H R → t σ H R) : PI X tg e t' := ⟨fun pins s σ H R I q => h.run pins s σ H R I (k σ H R q)⟩
theorem _root_.L2.PTs.imp {X : Cx} {e : List Expr} {t t' : TT} (h : PTs X e t) (k : ∀ σ H Q, t' σ H Q → t σ H Q) : PTs X e t' := ⟨fun pins s σ H Q I q => h.run pins s σ H Q I (k σ H Q q)⟩

abbrev DE (X : Cx) (c : Cf) (e : Expr) (m : ME) : Prop := PE X e (rdE c m)
abbrev DT (X : Cx) (c : Cf) (e : Expr) (m : MT) : Prop := PT X e (rdT c m)
abbrev DA (X : Cx) (c : Cf) (e : List Expr) (m : MA) : Prop := PA X e (rdA c m)
abbrev DL (X : Cx) (c : Cf) (e : Expr) (m : MA) : Prop := PE X e (rdL c m)
abbrev DS (X : Cx) (c : Cf) (e : Stmt) (m : MS) : Prop := PS X e (rdS c m)
abbrev DB (X : Cx) (c : Cf) (e : List Stmt) (m : MS) : Prop := PSs X e (rdS c m)
end Mi

set_option Elab.async false
set_option linter.all false
set_option maxRecDepth 100000
set_option maxHeartbeats 2000000
/-! Mi1: expressions. -/
namespace Mi
open PySem PySem.Spec PyProof.Rows L2
variable [TB : Tabl]

section
variable {W : Wo} {p : Addr} {F H : Hp}
theorem Rep.int_ {v : V} {i : Int} (h : Rep W p F v (.int i)) : v = .int i := by cases h; rfl
theorem Rep.bl_ {v : V} {i : Bool} (h : Rep W p F v (.bl i)) : v = .bl i := by cases h; rfl
theorem Rep.str_ {v : V} {i : Str} (h : Rep W p F v (.str i)) : v = .str i := by cases h; rfl
theorem Rep.non_ {v : V} (h : Rep W p F v .non) : v = .non := by cases h; rfl
theorem Rep.ty_ {v : V} {n : String} (h : Rep W p F v (.ty n)) : v = .ty n := by cases h; rfl
theorem Rep.tup_ {v : V} {ds : List D} (h : Rep W p F v (.tup ds)) : ∃ a vs, v = .ref a ∧ SqT W.K F a vs ∧ Reps W p F vs ds := by
  cases h with
  | tup h l r => exact ⟨_, _, rfl, h, l, r⟩
theorem Rep.lst_ {v : V} {ds : List D} (h : Rep W p F v (.lst ds)) : ∃ a vs, v = .ref a ∧ F a = some (.lst vs) ∧ Reps W p F vs ds := by
  cases h with
  | lst h l r => exact ⟨_, _, rfl, h, l, r⟩
theorem Rep.obj_ {v : V} {c : Str} {ks : List Str} {ds : List D} (h : Rep W p F v (.obj c ks ds)) : ∃ a dx vs, v = .ref a ∧ F a = some (.ins (W.cl c) dx (ks.zip vs)) ∧ ks.length = vs.length ∧ Reps W p F vs ds := by
  cases h with
  | obj hc h lk l r => exact ⟨_, _, _, rfl, h, lk, l, r⟩
theorem Rep.objc {v : V} {c : Str} {ks : List Str} {ds : List D} (h : Rep W p F v (.obj c ks ds)) : c ∈ W.cs := by
  cases h with
  | obj hc h lk l r => exact hc
theorem Rep.cls_ {v : V} {c : Str} (h : Rep W p F v (.cls c)) : v = .ref (W.cl c) ∧ c ∈ W.cs := by
  cases h with
  | cls _ hc => exact ⟨rfl, hc⟩
theorem Rep.scr_ {v : V} {ns : List Int} (h : Rep W p F v (.scr ns)) : ∃ a, v = .ref a ∧ SqL W.K F a (ns.map V.int) := by
  cases h with
  | scr h => exact ⟨_, rfl, h⟩
theorem Rep.mkT {a : Addr} {vs : List V} {ds : List D} (h : F a = some (.tup vs)) (r : Reps W p F vs ds) : Rep W p F (.ref a) (.tup ds) := .tup (SqT.of h) r.1 r.2
theorem Rep.mkL {a : Addr} {vs : List V} {ds : List D} (h : F a = some (.lst vs)) (r : Reps W p F vs ds) : Rep W p F (.ref a) (.lst ds) := .lst h r.1 r.2
end

/-! ### names, constants -/
def vSh (ρ : Env) (i : Nat) : Option D := match ρ[i]? with
  | some (.sh d) => some d
  | _ => none
def mVar (i : Nat) : ME := fun ρ => lft (vSh ρ i)
def mC (d : D) : ME := fun _ => M.pure d
section
variable {X : Cx} {c : Cf} {pos : Pos}
theorem lft_some {α : Type} {o : Option α} {u : PuS} {p : Addr} {F H : Hp} {Φ : α → PuS → Hp → Hp → Prop} (h : After p F H (lft o u) Φ) : ∃ a, o = some a ∧ After p F H (some (a, u)) Φ := by
  cases o with
  | none => exact absurd h (by intro z; exact z)
  | some a => exact ⟨a, rfl, h⟩
theorem Sta.var {u : PuS} {F H : Hp} {σ : L2.St} {ρ : Env} {i : Nat} {d : D} (S : Sta c u F H σ ρ) (e : vSh ρ i = some d) : ∃ v, σ[i]? = some (some v) ∧ Rep c.W c.p F v d := by
  unfold vSh at e
  cases q : ρ[i]? with
  | none => rw [q] at e; cases e
  | some s =>
    rw [q] at e
    cases s with
    | sh d' => cases e; exact S.env.at_ i _ q
    | _ => cases e
theorem dVar (i : Nat) {x : Str} (hN : X.N[i]? = some x := by rfl) (hv : Vis X.env.scope x := by first | exact Or.inl rfl | exact Or.inr (Or.inl rfl) | exact Or.inr (Or.inr rfl)) (hd : (x == ("__debug__" : Str)) = false := by decide)
    (hcd : (x == ("__classdict__" : Str)) = false := by decide) : DE X c (.Name x pos) (mVar i) :=
  (pe_var hN hv hd hcd).imp fun σ H Q ⟨F, u, ρ, S, h⟩ => by
    obtain ⟨d, e, h⟩ := lft_some h
    obtain ⟨v, e1, r⟩ := S.var e
    exact ⟨v, e1, After.now S.gd h v r⟩
theorem dC_of {e : Expr} {v : V} {d : D} (h : PE X e (tC v)) (r : ∀ F, Rep c.W c.p F v d) : DE X c e (mC d) := h.imp fun σ H Q ⟨F, u, ρ, S, q⟩ => After.now S.gd q v (r F)
theorem dInt {i : Int} {j} : DE X c (.Constant (.int i) j pos) (mC (.int i)) := dC_of pe_int fun _ => .int i
theorem dBl {b : Bool} {j} : DE X c (.Constant (.bool b) j pos) (mC (.bl b)) := dC_of pe_bl fun _ => .bl b
theorem dNon {j} : DE X c (.Constant .none j pos) (mC .non) := dC_of pe_non fun _ => .non
theorem dStr {x : Str} {j} : DE X c (.Constant (.str x) j pos) (mC (.str x)) := dC_of pe_str fun _ => .str x
/-- a module's constant -/
theorem dGI {x : Str} {i : Int} {t : Tok} (hg : Gl X x) (hm : X.mg x = some (.int i t)) (hd : (x == ("__debug__" : Str)) = false := by decide) : DE X c (.Name x pos) (mC (.int i)) := dC_of (pe_glob (v := .int i) hg hm ⟨t, rfl⟩ hd) fun _ => .int i
theorem dGC {x k : Str} (hc : k ∈ c.W.cs) (hg : Gl X x) (hm : X.mg x = some (.ref (c.W.cl k))) (hd : (x == ("__debug__" : Str)) = false := by decide) : DE X c (.Name x pos) (mC (.cls k)) := dC_of (pe_glob (v := .ref (c.W.cl k)) hg hm rfl hd) fun _ => .cls k hc
theorem dTy {x : Str} {n : String} (hg : Gl X x) (hm : X.mg x = none) (hv : bootBuiltins x = some (.type n)) (hn : x ≠ "__name__" := by decide) (hd : (x == ("__debug__" : Str)) = false := by decide) : DE X c (.Name x pos) (mC (.ty n)) :=
  dC_of (pe_bltn (v := .ty n) hg hm hv rfl hn hd) fun _ => .ty n
end

/-! ### operators -/
/-- a mirror of an operator on values -/
def OpM (W : Wo) (r : R2) (f : D → D → Option D) : Prop := ∀ (p : Addr) (F H : Hp) (u : PuS) (x y : V) (a b : D) (Q : VK), Gd p u F H → Rep W p F x a → Rep W p F y b →
  After p F H (lft (f a b) u) (fun d _ F' H' => ∀ v, Rep W p F' v d → Q v H') → r x y H Q
def UnM (W : Wo) (r : V → Hp → VK → Prop) (f : D → Option D) : Prop := ∀ (p : Addr) (F H : Hp) (u : PuS) (x : V) (a : D) (Q : VK), Gd p u F H → Rep W p F x a →
  After p F H (lft (f a) u) (fun d _ F' H' => ∀ v, Rep W p F' v d → Q v H') → r x H Q
def CallM (W : Wo) (r : List V → Hp → VK → Prop) (f : List D → Option D) : Prop := ∀ (p : Addr) (F H : Hp) (u : PuS) (xs : List V) (as : List D) (Q : VK), Gd p u F H → Reps W p F xs as →
  After p F H (lft (f as) u) (fun d _ F' H' => ∀ v, Rep W p F' v d → Q v H') → r xs H Q
def mBin (f : D → D → Option D) (ma mb : ME) : ME := fun ρ => M.bind (ma ρ) fun x => M.bind (mb ρ) fun y => lft (f x y)
def mUn (f : D → Option D) (ma : ME) : ME := fun ρ => M.bind (ma ρ) fun x => lft (f x)
def mCB (f : List D → Option D) (ms : MA) : ME := fun ρ => M.bind (ms ρ) fun xs => lft (f xs)
def mNil : MA := fun _ => M.pure []
def mCons (m : ME) (ms : MA) : MA := fun ρ => M.bind (m ρ) fun x => M.bind (ms ρ) fun xs => M.pure (x :: xs)
section
variable {X : Cx} {c : Cf} {pos : Pos} {a b e : Expr} {es : List Expr} {ma mb m : ME} {ms : MA} {r : R2}
theorem rd2 {f : D → D → Option D} (hm : OpM c.W r f) : ∀ σ H Q, rdE c (mBin f ma mb) σ H Q → tOp r (rdE c ma) (rdE c mb) σ H Q := fun σ H Q ⟨F, u, ρ, S, h⟩ =>
  ⟨F, u, ρ, S, (After.split h).imp fun x u1 F1 H1 _ s1 g1 h1 v rv => ⟨F1, u1, ρ, S.step s1 g1, (After.split h1).imp fun y u2 F2 H2 _ s2 g2 h2 w rw => hm c.p F2 H2 u2 v w x y Q g2 (rv.mono s2.ef) rw h2⟩⟩
theorem dBin {op : Operator} {f : D → D → Option D} (ho : OpR X (binaryOp op) r) (hm : OpM c.W r f) (ha : DE X c a ma) (hb : DE X c b mb) : DE X c (.BinOp a op b pos) (mBin f ma mb) := (pe_op ho ha hb).imp (rd2 hm)
theorem dCmp {op : CmpOp} {f : D → D → Option D} (ho : OpR X (compareOp op) r) (hm : OpM c.W r f) (ha : DE X c a ma) (hb : DE X c b mb) (hk : behindInMarks op b = false) : DE X c (.Compare a [op] [b] pos) (mBin f ma mb) := (pe_cmpR ho ha hb hk).imp (rd2 hm)
theorem dIx {f : D → D → Option D} (ho : IxR X r) (hm : OpM c.W r f) (ha : DE X c a ma) (hb : DE X c b mb) (hs : PlainIx b := by exact fun _ _ => rfl) : DE X c (.Subscript a b pos) (mBin f ma mb) := (pe_ix ho ha hb hs).imp (rd2 hm)
theorem dUn {op : UnaryOp} {ru : V → Hp → VK → Prop} {f : D → Option D} (ho : UnR X (unaryOp op) ru) (hm : UnM c.W ru f) (ha : DE X c a ma) : DE X c (.UnaryOp op a pos) (mUn f ma) :=
  (pe_un ho ha).imp fun σ H Q ⟨F, u, ρ, S, h⟩ => ⟨F, u, ρ, S, (After.split h).imp fun x u1 F1 H1 _ s1 g1 h1 v rv => hm c.p F1 H1 u1 v x Q g1 rv h1⟩
theorem dNil : DA X c [] mNil := pa_nil.imp fun σ H Q ⟨F, u, ρ, S, h⟩ => After.now S.gd h [] Reps.nil
theorem dCons (ha : DE X c e m) (hr : DA X c es ms) (hs : starEach (e :: es) X.env = (false, eval e X.env) :: starEach es X.env := by rfl) : DA X c (e :: es) (mCons m ms) :=
  (pa_cons ha hr hs).imp fun σ H Q ⟨F, u, ρ, S, h⟩ => ⟨F, u, ρ, S, (After.split h).imp fun x u1 F1 H1 _ s1 g1 h1 v rv => ⟨F1, u1, ρ, S.step s1 g1, (After.split h1).imp fun xs u2 F2 H2 _ s2 g2 h2 vs rvs =>
    After.now g2 h2 (v :: vs) (Reps.cons (rv.mono s2.ef) rvs)⟩⟩
theorem rdCB {rc : List V → Hp → VK → Prop} {f : List D → Option D} (hm : CallM c.W rc f) : ∀ σ H Q, rdE c (mCB f ms) σ H Q → tCB rc (rdA c ms) σ H Q := fun σ H Q ⟨F, u, ρ, S, h⟩ =>
  ⟨F, u, ρ, S, (After.split h).imp fun xs u1 F1 H1 _ s1 g1 h1 vs rvs => hm c.p F1 H1 u1 vs xs Q g1 rvs h1⟩
theorem dCallB {rc : List V → Hp → VK → Prop} {f : List D → Option D} {id : String} {x : Str} {p : Pos} (hm : CallM c.W rc f) (hc : CallR X (.builtin id) rc) (hg : Gl X x) (hmg : X.mg x = none) (hv : bootBuiltins x = some (.builtin id)) (ha : DA X c (e :: es) ms)
    (hn : x ≠ "__name__" := by decide) (hdb : (x == ("__debug__" : Str)) = false := by decide)
    (he : starEach (e :: es) X.env = (false, eval e X.env) :: starEach es X.env := by rfl) (hpl : (backTo pos (starEach es X.env)).any (·.1) = false := by rfl) : DE X c (.Call (.Name x p) (e :: es) [] pos) (mCB f ms) :=
  (pe_callB hc hg hmg hv ha hn hdb he hpl).imp (rdCB hm)
theorem dCallT {rc : List V → Hp → VK → Prop} {f : List D → Option D} {id : String} {x : Str} {p : Pos} (hm : CallM c.W rc f) (hc : CallR X (.type id) rc) (hg : Gl X x) (hmg : X.mg x = none) (hv : bootBuiltins x = some (.type id)) (ha : DA X c (e :: es) ms)
    (hn : x ≠ "__name__" := by decide) (hdb : (x == ("__debug__" : Str)) = false := by decide)
    (he : starEach (e :: es) X.env = (false, eval e X.env) :: starEach es X.env := by rfl) (hpl : (backTo pos (starEach es X.env)).any (·.1) = false := by rfl) : DE X c (.Call (.Name x p) (e :: es) [] pos) (mCB f ms) :=
  (pe_callTy hc hg hmg hv ha hn hdb he hpl).imp (rdCB hm)
end

/-! ### displays -/
def mTup (ms : MA) : ME := fun ρ => M.bind (ms ρ) fun xs => lft (if xs.length ≤ 100000 then some (.tup xs) else none)
def mLstO (ms : MA) : MA := fun ρ => M.bind (ms ρ) fun xs => lft (if xs.length ≤ 100000 then some xs else none)
theorem sz5 {n : Nat} (h : n ≤ 100000) : n ≤ sizeLine := Nat.le_trans h (by decide)
theorem sz5l {n : Nat} (h : n ≤ 100000) : n < sizeLine := Nat.lt_of_le_of_lt h (by decide)
theorem lft_if {α : Type} {b : Prop} [Decidable b] {a : α} {u : PuS} {p : Addr} {F H : Hp} {Φ : α → PuS → Hp → Hp → Prop} (h : After p F H (lft (if b then some a else none) u) Φ) : b ∧ After p F H (some (a, u)) Φ := by
  obtain ⟨a', e, h⟩ := lft_some h
  by_cases hb : b
  · rw [if_pos hb] at e; cases e; exact ⟨hb, h⟩
  · rw [if_neg hb] at e; cases e
section
variable {X : Cx} {c : Cf} {pos : Pos} {es : List Expr} {ms : MA}
theorem dTup {x1} (h : DA X c es ms) : DE X c (.Tuple es x1 pos) (mTup ms) :=
  (pe_tup h).imp fun σ H Q ⟨F, u, ρ, S, h⟩ => ⟨F, u, ρ, S, (After.split h).imp fun xs u1 F1 H1 _ s1 g1 h1 vs rvs => by
    obtain ⟨hl, h2⟩ := lft_if h1
    refine ⟨sz5 (by rw [rvs.1]; exact hl), fun q hq => ?_⟩
    exact h2 _ _ (Stp.new g1 hq) (g1.new hq) _ (Rep.mkT upd_same (rvs.mono (Stp.new g1 hq).ef))⟩
theorem Stp.back {p q : Addr} {F H F' H' : Hp} (s : Stp p F H F' H') (hp : H' p ≠ none) (h : H' q = none) : H q = none := by
  cases e : H q with
  | none => rfl
  | some o =>
    by_cases hq : q = p
    · subst hq; exact absurd h hp
    · exact absurd h (s.kept hq (by rw [e]; simp))
theorem dLstO (h : DA X c es ms) : DL X c (.List es pos) (mLstO ms) :=
  (pe_lst h).imp fun σ H Q ⟨F, u, ρ, S, h⟩ => ⟨F, u, ρ, S, (After.split h).imp fun xs u1 F1 H1 _ s1 g1 h1 vs rvs => by
    obtain ⟨hl, h2⟩ := lft_if h1
    refine ⟨sz5 (by rw [rvs.1]; exact hl), fun q hq => ?_⟩
    exact h2 _ _ (Stp.own hq) (g1.own hq) q vs (g1.fresh hq) (s1.back g1.ne hq) upd_same rvs⟩
end

/-! ### tests -/
def mB (m : ME) : MT := fun ρ => M.bind (m ρ) fun d => match d with
  | .bl b => M.pure b
  | _ => lft none
def mAnd (t v : MT) : MT := fun ρ => M.bind (t ρ) fun b => if b = true then v ρ else M.pure false
def mOr (t v : MT) : MT := fun ρ => M.bind (t ρ) fun b => if b = true then M.pure true else v ρ
def mNot (t : MT) : MT := fun ρ => M.bind (t ρ) fun b => M.pure (!b)
def mIf (t : MT) (ma mb : ME) : ME := fun ρ => M.bind (t ρ) fun b => if b = true then ma ρ else mb ρ
def mAndV (ma mb : ME) : ME := fun ρ => M.bind (ma ρ) fun d => match d with
  | .bl b => if b = true then mb ρ else M.pure (.bl false)
  | _ => lft none
def mNotV (ma : ME) : ME := fun ρ => M.bind (ma ρ) fun d => match d with
  | .bl b => M.pure (.bl (!b))
  | _ => lft none
section
variable {X : Cx} {c : Cf} {pos : Pos} {a b e : Expr} {rest : List Expr} {ma mb m : ME} {t v : MT} {r : R2}
theorem rdB : ∀ σ H Q, rdT c (mB m) σ H Q → tB (rdE c m) σ H Q := fun σ H Q ⟨F, u, ρ, S, h⟩ =>
  ⟨F, u, ρ, S, (After.split h).imp fun d u1 F1 H1 _ s1 g1 h1 w rw => by
    cases d with
    | bl k =>
      have h2 : After c.p F1 H1 (some (k, u1)) (fun b _ _ H' => Q b H') := h1
      exact ⟨k, rw.bl_, After.now g1 h2⟩
    | _ => exact False.elim h1⟩
theorem dTst (h : DE X c e m) (he : ∀ whole, isTrue e X.env whole = (do let v ← whole; standAt e.pos; holding [v] (truthy v)) := by intro _; rfl) : DT X c e (mB m) := (pt_val h he).imp rdB
theorem dTcmp {op : CmpOp} {f : D → D → Option D} (ho : OpR X (compareOp op) r) (hm : OpM c.W r f) (ha : DE X c a ma) (hb : DE X c b mb) (hk : behindInMarks op b = false) : DT X c (.Compare a [op] [b] pos) (mB (mBin f ma mb)) :=
  (pt_cmpR ho ha hb hk).imp fun σ H Q h => by
    obtain ⟨F, u, ρ, S, h⟩ := h
    refine rd2 hm σ H _ ⟨F, u, ρ, S, (After.split h).imp fun d u1 F1 H1 _ s1 g1 h1 w rw => ?_⟩
    cases d with
    | bl k =>
      have h2 : After c.p F1 H1 (some (k, u1)) (fun b _ _ H' => Q b H') := h1
      exact ⟨k, rw.bl_, After.now g1 h2⟩
    | _ => exact False.elim h1
theorem dNotT (h : DT X c e t) : DT X c (.UnaryOp .Not e pos) (mNot t) :=
  (pt_not h).imp fun σ H Q ⟨F, u, ρ, S, h⟩ => ⟨F, u, ρ, S, (After.split h).imp fun b u1 F1 H1 _ s1 g1 h1 => After.now g1 h1⟩
theorem dAnd1 (h : DT X c e t) : PW X (.BoolOp .And [e] pos) (rdT c t) := pw_and1 h
theorem dOr1 (h : DT X c e t) : PW X (.BoolOp .Or [e] pos) (rdT c t) := pw_or1 h
theorem dAndT (h : DT X c a t) (hb : PW X (.BoolOp .And (b :: rest) pos) (rdT c v)) : PW X (.BoolOp .And (a :: b :: rest) pos) (rdT c (mAnd t v)) :=
  (pw_and h hb).imp fun σ H Q ⟨F, u, ρ, S, h⟩ => ⟨F, u, ρ, S, (After.split h).imp fun b u1 F1 H1 _ s1 g1 h1 => by
    cases b with
    | true => exact ⟨F1, u1, ρ, S.step s1 g1, h1⟩
    | false =>
      have h2 : After c.p F1 H1 (some (false, u1)) (fun b _ _ H' => Q b H') := h1
      exact After.now g1 h2⟩
theorem dOrT (h : DT X c a t) (hb : PW X (.BoolOp .Or (b :: rest) pos) (rdT c v)) : PW X (.BoolOp .Or (a :: b :: rest) pos) (rdT c (mOr t v)) :=
  (pw_or h hb).imp fun σ H Q ⟨F, u, ρ, S, h⟩ => ⟨F, u, ρ, S, (After.split h).imp fun b u1 F1 H1 _ s1 g1 h1 => by
    cases b with
    | false => exact ⟨F1, u1, ρ, S.step s1 g1, h1⟩
    | true =>
      have h2 : After c.p F1 H1 (some (true, u1)) (fun b _ _ H' => Q b H') := h1
      exact After.now g1 h2⟩
theorem dIf {k : Expr} (hk : DT X c k t) (ha : DE X c a ma) (hb : DE X c b mb) : DE X c (.IfExp k a b pos) (mIf t ma mb) :=
  (pe_ifExp hk ha hb).imp fun σ H Q ⟨F, u, ρ, S, h⟩ => ⟨F, u, ρ, S, (After.split h).imp fun b u1 F1 H1 _ s1 g1 h1 => by
    cases b with
    | true => exact ⟨F1, u1, ρ, S.step s1 g1, h1⟩
    | false => exact ⟨F1, u1, ρ, S.step s1 g1, h1⟩⟩
theorem dOneV {op} (h : DE X c e m) : DE X c (.BoolOp op [e] pos) m := pe_one h
theorem dAndV (ha : DE X c a ma) (hb : DE X c (.BoolOp .And (b :: rest) pos) mb) : DE X c (.BoolOp .And (a :: b :: rest) pos) (mAndV ma mb) :=
  (pe_and ha hb).imp fun σ H Q ⟨F, u, ρ, S, h⟩ => ⟨F, u, ρ, S, (After.split h).imp fun d u1 F1 H1 _ s1 g1 h1 w rw => by
    cases d with
    | bl k =>
      refine ⟨k, rw.bl_, ?_⟩
      cases k with
      | true => exact ⟨F1, u1, ρ, S.step s1 g1, h1⟩
      | false =>
        have h2 : After c.p F1 H1 (some (D.bl false, u1)) (fun d _ F' H' => ∀ v, Rep c.W c.p F' v d → Q v H') := h1
        exact After.now g1 h2 _ (.bl false)
    | _ => exact False.elim h1⟩
theorem dNotV (ha : DE X c a ma) : DE X c (.UnaryOp .Not a pos) (mNotV ma) :=
  (pe_not ha).imp fun σ H Q ⟨F, u, ρ, S, h⟩ => ⟨F, u, ρ, S, (After.split h).imp fun d u1 F1 H1 _ s1 g1 h1 w rw => by
    cases d with
    | bl k =>
      have h2 : After c.p F1 H1 (some (D.bl (!k), u1)) (fun d _ F' H' => ∀ v, Rep c.W c.p F' v d → Q v H') := h1
      exact ⟨k, rw.bl_, After.now g1 h2 _ (.bl (!k))⟩
    | _ => exact False.elim h1⟩
end
end Mi

set_option Elab.async false
set_option linter.all false
set_option maxRecDepth 100000
set_option maxHeartbeats 2000000
/-! Mi2: statements, loops, comprehensions. -/
namespace Mi
open PySem PySem.Spec PyProof.Rows L2
variable [TB : Tabl]

/-! ### slots are set -/
section
variable {c : Cf} {u : PuS} {F H : Hp} {σ : L2.St} {ρ : Env}
theorem set_get {α : Type} {l : List α} {i j : Nat} {a b : α} (h : (l.set i a)[j]? = some b) : (i = j ∧ b = a ∧ i < l.length) ∨ (i ≠ j ∧ l[j]? = some b) := by
  by_cases e : i = j
  · subst e
    rw [List.getElem?_set] at h
    simp only [if_true] at h
    split at h
    · rename_i hl
      cases h
      exact .inl ⟨rfl, rfl, hl⟩
    · cases h
  · rw [List.getElem?_set_ne e] at h
    exact .inr ⟨e, h⟩
theorem Sta.set {i : Nat} {v : V} {d : D} (S : Sta c u F H σ ρ) (r : Rep c.W c.p F v d) : Sta c u F H (σ.set i (some v)) (ρ.set i (.sh d)) := by
  refine ⟨S.ent, S.gd, by simpa using S.env.len, fun j s e => ?_, fun j k s t h e1 e2 o1 o2 => ?_⟩
  · rcases set_get e with ⟨rfl, rfl, hl⟩ | ⟨ne, e⟩
    · exact ⟨v, List.getElem?_set_self (by rw [S.env.len]; exact hl), r⟩
    · rw [List.getElem?_set_ne ne]; exact S.env.at_ j s e
  · rcases set_get e1 with ⟨rfl, rfl, _⟩ | ⟨n1, e1⟩
    · cases o1
    · rcases set_get e2 with ⟨rfl, rfl, _⟩ | ⟨n2, e2⟩
      · cases o2
      · rw [List.getElem?_set_ne n1, List.getElem?_set_ne n2]; exact S.env.ne j k s t h e1 e2 o1 o2
theorem SdOk.ref {x : Option (Option V)} {s : Sd} (h : SdOk c F H x s) (o : s.own = true) : ∃ q, x = some (some (.ref q)) ∧ H q ≠ none ∧ F q = none := by
  cases s with
  | un => cases o
  | sh d => cases o
  | ow ds => obtain ⟨q, vs, e, hq, hf, _⟩ := h; exact ⟨q, e, by rw [hq]; simp, hf⟩
  | oi k ks ds => obtain ⟨dx, vs, e, hq, hf, _⟩ := h; exact ⟨_, e, by rw [hq]; simp, hf⟩
  | od ks ds => obtain ⟨q, o, xs, vs, e, hq, hf, _⟩ := h; exact ⟨_, e, by rw [hq]; simp, hf⟩
/-- a fresh list at q is owned by the slot i -/
theorem Sta.setO {H1 : Hp} {i : Nat} {q : Addr} {vs : List V} {ds : List D} {u1 : PuS} {F1 : Hp} (S : Sta c u F H σ ρ) (s : Stp c.p F H F1 H1) (g : Gd c.p u1 F1 H1) (hF : F1 q = none) (hn : H q = none) (h1 : H1 q = some (.lst vs)) (r : Reps c.W c.p F1 vs ds) :
    Sta c u1 F1 H1 (σ.set i (some (.ref q))) (ρ.set i (.ow ds)) := by
  have S1 := S.step s g
  have hp : q ≠ c.p := fun e => S.gd.ne (e ▸ hn)
  have h0 : c.H0 q = none := S.ent.back S.gd.ne hn
  have nq : ∀ {j : Nat} {t : Sd}, ρ[j]? = some t → t.own = true → σ[j]? ≠ some (some (.ref q)) := fun {j t} e o z => by
    obtain ⟨q', e', hq', _⟩ := (S.env.at_ j t e).ref o
    rw [z] at e'
    injection e' with e'
    injection e' with e'
    injection e' with e'
    subst e'
    exact hq' hn
  refine ⟨S1.ent, S1.gd, by simpa using S.env.len, fun j t e => ?_, fun j k t t' h e1 e2 o1 o2 => ?_⟩
  · rcases set_get e with ⟨rfl, rfl, hl⟩ | ⟨ne, e⟩
    · exact ⟨q, vs, List.getElem?_set_self (by rw [S.env.len]; exact hl), h1, hF, hp, h0, r⟩
    · rw [List.getElem?_set_ne ne]; exact S1.env.at_ j t e
  · rcases set_get e1 with ⟨rfl, rfl, hl⟩ | ⟨n1, e1⟩
    · rcases set_get e2 with ⟨e, _, _⟩ | ⟨n2, e2⟩
      · exact absurd e h
      · rw [List.getElem?_set_self (by rw [S.env.len]; exact hl), List.getElem?_set_ne n2]; exact fun z => nq e2 o2 z.symm
    · rcases set_get e2 with ⟨rfl, rfl, hl⟩ | ⟨n2, e2⟩
      · rw [List.getElem?_set_self (by rw [S.env.len]; exact hl), List.getElem?_set_ne n1]; exact nq e1 o1
      · rw [List.getElem?_set_ne n1, List.getElem?_set_ne n2]; exact S.env.ne j k t t' h e1 e2 o1 o2
/-- the owned list of the slot i is changed -/
theorem Sta.put {i : Nat} {q : Addr} {vs : List V} {ds es : List D} (S : Sta c u F H σ ρ) (e : ρ[i]? = some (.ow ds)) (hq : σ[i]? = some (some (.ref q))) (r : Reps c.W c.p F vs es) :
    Sta c u F (upd H q (.lst vs)) σ (ρ.set i (.ow es)) := by
  obtain ⟨q', ws, e1, h1, hf, hp, h0, _⟩ := S.env.at_ i _ e
  rw [hq] at e1
  injection e1 with e1; injection e1 with e1; injection e1 with e1
  subst e1
  have qs : ∀ {j : Nat} {t : Sd} {a : Addr}, i ≠ j → ρ[j]? = some t → t.own = true → σ[j]? = some (some (.ref a)) → a ≠ q := fun {j t a} ne e2 o z h => by
    subst h
    exact S.env.ne i j _ t ne e e2 rfl o (hq.trans z.symm)
  refine ⟨⟨S.ent.ef, fun a o ha e n => ?_, fun a ps ha e => by
    obtain ⟨qs, e1⟩ := S.ent.et a ps ha e
    exact ⟨qs, by rw [upd_ne (fun z => by rw [z, h1] at e1; cases e1)]; exact e1⟩, S.ent.nw⟩, ⟨fun a o e => ?_, by rw [upd_ne (Ne.symm hp)]; exact S.gd.pu, S.gd.off, S.gd.nt, tabs_over h1 S.gd.tb, S.gd.hp⟩, by simpa using S.env.len, fun j t e2 => ?_, fun j k t t' h e1 e2 o1 o2 => ?_⟩
  · rw [upd_ne (fun z => by rw [z, h0] at e; cases e)]; exact S.ent.eh a o ha e n
  · rw [upd_ne (fun z => by rw [z, hf] at e; cases e)]; exact S.gd.ex a o e
  · rcases set_get e2 with ⟨rfl, rfl, hl⟩ | ⟨ne, e2⟩
    · exact ⟨q, vs, hq, upd_same, hf, hp, h0, r⟩
    · have k := S.env.at_ j t e2
      cases t with
      | un => trivial
      | sh d => exact k
      | ow ds' => obtain ⟨a, xs, z, ha, rest⟩ := k; exact ⟨a, xs, z, by rw [upd_ne (qs ne e2 rfl z)]; exact ha, rest⟩
      | oi kk ks ds' => obtain ⟨dx, xs, z, ha, rest⟩ := k; exact ⟨dx, xs, z, by rw [upd_ne (qs ne e2 rfl z)]; exact ha, rest⟩
      | od ks ds' => obtain ⟨a, ob, xs, ws, z, ha, rest⟩ := k; exact ⟨a, ob, xs, ws, z, by rw [upd_ne (qs ne e2 rfl z)]; exact ha, rest⟩
  · have back : ∀ {m : Nat} {y : Sd}, (ρ.set i (.ow es))[m]? = some y → y.own = true → ∃ y', ρ[m]? = some y' ∧ y'.own = true := fun {m y} z o => by
      rcases set_get z with ⟨rfl, rfl, _⟩ | ⟨_, z⟩
      · exact ⟨_, e, rfl⟩
      · exact ⟨y, z, o⟩
    obtain ⟨y1, z1, p1⟩ := back e1 o1
    obtain ⟨y2, z2, p2⟩ := back e2 o2
    exact S.env.ne j k y1 y2 h z1 z2 p1 p2
end

/-! ### blocks and small statements -/
def mNext : MS := fun ρ => M.pure (.nx ρ)
def mSeq (m n : MS) : MS := fun ρ => M.bind (m ρ) fun f => match f with
  | .nx ρ' => n ρ'
  | .rt d => M.pure (.rt d)
  | .rl d => M.pure (.rl d)
  | .bk ρ' => M.pure (.bk ρ')
  | .ct ρ' => M.pure (.ct ρ')
  | .ex ρ' k ks ds => M.pure (.ex ρ' k ks ds)
def mDrop (m : ME) : MS := fun ρ => M.bind (m ρ) fun _ => M.pure (.nx ρ)
def mRet (m : ME) : MS := fun ρ => M.bind (m ρ) fun d => M.pure (.rt d)
def mIfS (t : MT) (m n : MS) : MS := fun ρ => M.bind (t ρ) fun b => if b = true then m ρ else n ρ
def mBrk : MS := fun ρ => M.pure (.bk ρ)
def mSet (i : Nat) (m : ME) : MS := fun ρ => M.bind (m ρ) fun d => M.pure (.nx (ρ.set i (.sh d)))
def mSetO (i : Nat) (m : MA) : MS := fun ρ => M.bind (m ρ) fun ds => M.pure (.nx (ρ.set i (.ow ds)))
def mStuck : MS := fun _ => lft none
section
variable {X : Cx} {c : Cf} {pos : Pos} {st : Stmt} {rest : List Stmt} {e : Expr} {m n : MS} {me : ME} {ml : MA} {t : MT}
theorem flowO.split {F : Hp} {Dn : Ends} {u : PuS} {ρ : Env} (h : flowO c F Dn (mSeq m n ρ u)) : flowO c F { Dn with nx := rdS c n Dn } (m ρ u) := by
  unfold mSeq M.bind at h
  cases e : m ρ u with
  | none => rw [e] at h; exact h
  | some x =>
    obtain ⟨f, u1⟩ := x
    rw [e] at h
    cases f with
    | nx ρ1 =>
      intro σ' F' H' sm S'
      have h2 : flowO c F Dn (n ρ1 u1) := h
      refine ⟨F', u1, ρ1, S', ?_⟩
      cases e2 : n ρ1 u1 with
      | none => rw [e2] at h2; exact h2
      | some y =>
        obtain ⟨f2, u2⟩ := y
        rw [e2] at h2
        cases f2 with
        | nx ρ2 => exact fun σ2 F2 H2 s2 => h2 σ2 F2 H2 (sm.trans s2)
        | bk ρ2 => exact fun σ2 F2 H2 s2 => h2 σ2 F2 H2 (sm.trans s2)
        | ct ρ2 => exact fun σ2 F2 H2 s2 => h2 σ2 F2 H2 (sm.trans s2)
        | ex ρ2 k ks ds => exact fun σ2 F2 H2 cls od s2 => h2 σ2 F2 H2 cls od (sm.trans s2)
        | rt d => exact h2
        | rl d => exact h2
    | rt d => exact h
    | rl d => exact h
    | bk ρ1 => exact h
    | ct ρ1 => exact h
    | ex ρ1 k ks ds => exact h
theorem dBnil : DB X c [] mNext := pss_nil.imp fun Dn σ H ⟨F, u, ρ, S, h⟩ => h σ F H (Same.refl F) S
theorem dBcons (h1 : DS X c st m) (h2 : DB X c rest n) : DB X c (st :: rest) (mSeq m n) := (pss_cons h1 h2).imp fun Dn σ H ⟨F, u, ρ, S, h⟩ => ⟨F, u, ρ, S, h.split⟩
theorem dBone (h1 : DS X c st m) : DB X c [st] m := pss_one h1
theorem dBrk : DS X c (.Break pos) mBrk := ps_break.imp fun Dn σ H ⟨F, u, ρ, S, h⟩ => h σ F H (Same.refl F) S
theorem dNever : DS X c st mStuck := ps_never.imp fun Dn σ H ⟨F, u, ρ, S, h⟩ => h
/-- an expression's end, from a statement's -/
theorem flowO.after {α : Type} {F H : Hp} {Dn : Ends} {u : PuS} {ρ : Env} {σ : L2.St} {k : M α} {f : α → M Fl} (S : Sta c u F H σ ρ) (h : flowO c F Dn (M.bind k f u)) :
    After c.p F H (k u) fun a u1 F1 H1 => Sta c u1 F1 H1 σ ρ ∧ flowO c F1 Dn (f a u1) := by
  unfold M.bind at h
  cases e : k u with
  | none => rw [e] at h; exact h
  | some x =>
    obtain ⟨a, u1⟩ := x
    rw [e] at h
    intro F1 H1 s g
    refine ⟨S.step s g, ?_⟩
    have h2 : flowO c F Dn (f a u1) := h
    cases e2 : f a u1 with
    | none => rw [e2] at h2; exact h2
    | some y =>
      obtain ⟨f2, u2⟩ := y
      rw [e2] at h2
      cases f2 with
      | nx ρ2 => exact fun σ2 F2 H2 s2 => h2 σ2 F2 H2 (s.ef.trans s2)
      | bk ρ2 => exact fun σ2 F2 H2 s2 => h2 σ2 F2 H2 (s.ef.trans s2)
      | ct ρ2 => exact fun σ2 F2 H2 s2 => h2 σ2 F2 H2 (s.ef.trans s2)
      | ex ρ2 k ks ds => exact fun σ2 F2 H2 cls od s2 => h2 σ2 F2 H2 cls od (s.ef.trans s2)
      | rt d => exact h2
      | rl d => exact h2
theorem dExpr (he : DE X c e me) (hs : swapsWith e none pos.line X.env = pure false := by rfl) : DS X c (.Expr e pos) (mDrop me) :=
  (ps_expr he hs).imp fun Dn σ H ⟨F, u, ρ, S, h⟩ => ⟨F, u, ρ, S, (flowO.after S h).imp fun d u1 F1 H1 _ s1 g1 h1 v rv => h1.2 σ F1 H1 (Same.refl _) h1.1⟩
theorem dRet (he : DE X c e me) : DS X c (.Return (some e) pos) (mRet me) :=
  (ps_ret he).imp fun Dn σ H ⟨F, u, ρ, S, h⟩ => ⟨F, u, ρ, S, (flowO.after S h).imp fun d u1 F1 H1 _ s1 g1 h1 v rv => h1.2 v F1 H1 h1.1.ent g1 rv⟩
theorem dIfS {k : Expr} {a b : List Stmt} (hk : DT X c k t) (ha : DB X c a m) (hb : DB X c b n) : DS X c (.If k a b pos) (mIfS t m n) :=
  (ps_if hk ha hb).imp fun Dn σ H ⟨F, u, ρ, S, h⟩ => ⟨F, u, ρ, S, (flowO.after S h).imp fun b u1 F1 H1 _ s1 g1 h1 => by
    cases b with
    | true => exact ⟨F1, u1, ρ, h1.1, h1.2⟩
    | false => exact ⟨F1, u1, ρ, h1.1, h1.2⟩⟩
theorem dSet {i : Nat} {x : Str} {pos' : Pos} (hN : X.N.Nodup) (hi : X.N[i]? = some x) (hx : Loc X.env.scope x) (he : DE X c e me) (hs : swapsWith e (some (.Name x pos')) pos.line X.env = pure false := by rfl)
    (hf : X.fn x = true ∨ X.env.scope.names.lookup x = some .local := by first | exact .inl rfl | exact .inr rfl | assumption) : DS X c (.Assign [.Name x pos'] e pos) (mSet i me) :=
  (ps_set hN hi hx he hs hf).imp fun Dn σ H ⟨F, u, ρ, S, h⟩ => ⟨F, u, ρ, S, (flowO.after S h).imp fun d u1 F1 H1 _ s1 g1 h1 v rv => h1.2 _ F1 H1 (Same.refl _) (h1.1.set rv)⟩
theorem dSetO {i : Nat} {x : Str} {pos' : Pos} (hN : X.N.Nodup) (hi : X.N[i]? = some x) (hx : Loc X.env.scope x) (he : DL X c e ml) (hs : swapsWith e (some (.Name x pos')) pos.line X.env = pure false := by rfl)
    (hf : X.fn x = true ∨ X.env.scope.names.lookup x = some .local := by first | exact .inl rfl | exact .inr rfl | assumption) : DS X c (.Assign [.Name x pos'] e pos) (mSetO i ml) :=
  (ps_set hN hi hx he hs hf).imp fun Dn σ H ⟨F, u, ρ, S, h⟩ => ⟨F, u, ρ, S, (flowO.after S h).imp fun d u1 F1 H1 _ s1 g1 h1 q vs hF hn h3 r => h1.2 _ F1 H1 (Same.refl _) (S.setO s1 g1 hF hn h3 r)⟩
end

/-! ### targets -/
def mGn (i : Nat) : MG := fun d ρ => some (ρ.set i (.sh d))
def mGnil : List D → Env → Option Env := fun ds ρ => match ds with
  | [] => some ρ
  | _ => none
def mGcons (g : MG) (gs : List D → Env → Option Env) : List D → Env → Option Env := fun ds ρ => match ds with
  | d :: r => (g d ρ).bind fun ρ' => gs r ρ'
  | [] => none
def mGt (n : Nat) (gs : List D → Env → Option Env) : MG := fun d ρ => match d with
  | .tup ds => if ds.length = n then gs ds ρ else none
  | _ => none
def mAsg (m : ME) (g : MG) : MS := fun ρ => M.bind (m ρ) fun d => lft ((g d ρ).map Fl.nx)
abbrev DG (X : Cx) (c : Cf) (e : Expr) (is : List Nat) (g : MG) : Prop := PG X e (rdG c is g)
abbrev DGs (X : Cx) (c : Cf) (e : List Expr) (is : List Nat) (g : List D → Env → Option Env) : Prop := PGs X e (rdGs c is g)
section
variable {X : Cx} {c : Cf} {pos : Pos} {e : Expr} {es : List Expr} {g : MG} {gs : List D → Env → Option Env} {is js : List Nat}
theorem Agr.refl {σ : L2.St} : Agr is σ σ := ⟨rfl, fun _ _ => rfl⟩
theorem Agr.trans {σ σ1 σ2 : L2.St} (a : Agr is σ σ1) (b : Agr js σ1 σ2) : Agr (is ++ js) σ σ2 :=
  ⟨b.1.trans a.1, fun j hj => (b.2 j fun z => hj (List.mem_append_right _ z)).trans (a.2 j fun z => hj (List.mem_append_left _ z))⟩
theorem Agr.set {σ : L2.St} {i : Nat} {x : Option V} : Agr [i] σ (σ.set i x) := ⟨by simp, fun j hj => List.getElem?_set_ne (fun z => hj (by simp [z]))⟩
theorem dGn {i : Nat} {x : Str} (hN : X.N.Nodup) (hi : X.N[i]? = some x) (hx : Loc X.env.scope x) (hf : X.fn x = true ∨ X.env.scope.names.lookup x = some .local := by first | exact .inl rfl | exact .inr rfl | assumption) : DG X c (.Name x pos) [i] (mGn i) :=
  (pg_name hN hi hx hf).imp fun v σ H Q ⟨F, u, ρ, d, S, r, h⟩ => h _ (S.set r) Agr.set
theorem dGnil : DGs X c [] [] mGnil := pgs_nil.imp fun vs σ H Q ⟨F, u, ρ, ds, S, r, h⟩ => by
  cases ds with
  | nil => exact ⟨r.none, h σ S Agr.refl⟩
  | cons d ds => exact False.elim h
theorem dGcons (h1 : DG X c e is g) (h2 : DGs X c es js gs) (hs : (assignEach (e :: es) X.env).map (·.2) = assign e X.env :: (assignEach es X.env).map (·.2) := by rfl) : DGs X c (e :: es) (is ++ js) (mGcons g gs) :=
  (pgs_cons h1 h2 hs).imp fun vs σ H Q ⟨F, u, ρ, ds, S, r, h⟩ => by
    cases ds with
    | nil => exact False.elim h
    | cons d ds =>
      obtain ⟨v, vr, rfl, r1, r2⟩ := r.uncons
      refine ⟨v, vr, rfl, F, u, ρ, d, S, r1, ?_⟩
      have h' : match (g d ρ).bind fun ρ' => gs ds ρ' with
        | some ρ' => ∀ σ', Sta c u F H σ' ρ' → Agr (is ++ js) σ σ' → Q σ' H
        | none => False := h
      cases e1 : g d ρ with
      | none => rw [e1] at h'; exact h'
      | some ρ1 =>
        rw [e1] at h'
        intro σ1 S1 a1
        refine ⟨F, u, ρ1, ds, S1, r2, ?_⟩
        have h3 : match gs ds ρ1 with
          | some ρ' => ∀ σ', Sta c u F H σ' ρ' → Agr (is ++ js) σ σ' → Q σ' H
          | none => False := h'
        cases e2 : gs ds ρ1 with
        | none => rw [e2] at h3; exact h3
        | some ρ2 =>
          rw [e2] at h3
          exact fun σ2 S2 a2 => h3 σ2 S2 (a1.trans a2)
theorem dGt {k n : Nat} (hc : X.calm = true) (h : DGs X c es is gs) (hn : (assignEach es X.env).length = n := by rfl) (hst : (assignEach es X.env).findIdx? (·.1) = none := by rfl) (hK : X.K = c.W.K := by rfl) : DG X c (.Tuple es k pos) is (mGt n gs) :=
  (pg_tup hc h hn hst).imp fun v σ H Q ⟨F, u, ρ, d, S, r, h⟩ => by
    cases d with
    | tup ds =>
      obtain ⟨a, vs, rfl, ht, rs⟩ := r.tup_
      have h' : match (if ds.length = n then gs ds ρ else none) with
        | some ρ' => ∀ σ', Sta c u F H σ' ρ' → Agr is σ σ' → Q σ' H
        | none => False := h
      by_cases hl : ds.length = n
      · rw [if_pos hl] at h'
        exact ⟨a, vs, rfl, by rw [hK]; exact sq_t S.gd.ex ht, rs.1.trans hl, F, u, ρ, ds, S, rs, h'⟩
      · rw [if_neg hl] at h'; exact False.elim h'
    | _ => exact False.elim h
theorem dAsg {tg : Expr} {me : ME} (he : DE X c e me) (hg : DG X c tg is g) (hs : swapsWithSole [tg] e pos.line X.env = pure false := by rfl) (hw : swappedStores [tg] e X.env = pure none := by rfl)
    (h1 : (assignEach [tg] X.env).map (·.2) = [assign tg X.env] := by rfl) : DS X c (.Assign [tg] e pos) (mAsg me g) :=
  (ps_asg he hg hs hw h1).imp fun Dn σ H ⟨F, u, ρ, S, h⟩ => ⟨F, u, ρ, S, (flowO.after S h).imp fun d u1 F1 H1 _ s1 g1 h1 v rv => by
    refine ⟨F1, u1, ρ, d, h1.1, rv, ?_⟩
    have h2 := h1.2
    cases e1 : g d ρ with
    | none => rw [e1] at h2; exact h2
    | some ρ1 =>
      rw [e1] at h2
      exact fun σ' S' _ => h2 σ' F1 H1 (Same.refl _) S'⟩
end

/-! ### augmented assignment to a name -/
def IpM (W : Wo) (r : TIp) (f : D → D → Option D) : Prop := OpM W r f
def mAug (i : Nat) (f : D → D → Option D) (m : ME) : MS := fun ρ => M.bind (lft (vSh ρ i)) fun x => M.bind (m ρ) fun y => M.bind (lft (f x y)) fun z => M.pure (.nx (ρ.set i (.sh z)))
section
variable {X : Cx} {c : Cf} {pos : Pos} {e : Expr} {me : ME}
theorem flowO.lft {α : Type} {F H : Hp} {Dn : Ends} {u : PuS} {ρ : Env} {σ : L2.St} {o : Option α} {f : α → M Fl} (S : Sta c u F H σ ρ) (h : flowO c F Dn (M.bind (Mi.lft o) f u)) : ∃ a, o = some a ∧ flowO c F Dn (f a u) := by
  cases o with
  | none => exact False.elim h
  | some a => exact ⟨a, rfl, h⟩
theorem dAug {i : Nat} {x : Str} {op : Operator} {ti : TIp} {f : D → D → Option D} {pos' : Pos} (hm : IpM c.W ti f) (ho : PIp X op ti) (hN : X.N.Nodup) (hi : X.N[i]? = some x) (hx : Loc X.env.scope x) (he : DE X c e me)
    (hf : X.fn x = true ∨ X.env.scope.names.lookup x = some .local := by first | exact .inl rfl | exact .inr rfl | assumption) : DS X c (.AugAssign (.Name x pos') op e pos) (mAug i f me) :=
  (ps_aug hN hi hx he ho hf).imp fun Dn σ H ⟨F, u, ρ, S, h⟩ => by
    obtain ⟨x0, e0, h⟩ := flowO.lft S h
    obtain ⟨v0, e1, r0⟩ := S.var e0
    refine ⟨v0, e1, F, u, ρ, S, (flowO.after S h).imp fun y u1 F1 H1 _ s1 g1 h1 w rw => ?_⟩
    refine hm c.p F1 H1 u1 v0 w x0 y _ g1 (r0.mono s1.ef) rw ((flowO.after h1.1 h1.2).imp fun z u2 F2 H2 _ s2 g2 h2 v rv => ?_)
    exact h2.2 _ F2 H2 (Same.refl _) (h2.1.set rv)
end

/-! ### loops -/
def loopD (g : MG) (mb : MS) : List D → Env → M Fl
  | [], ρ => M.pure (.nx ρ)
  | d :: ds, ρ => M.bind (lft (g d ρ)) fun ρ1 => M.bind (mb ρ1) fun f => match f with
    | .nx ρ2 => loopD g mb ds ρ2
    | .ct ρ2 => loopD g mb ds ρ2
    | .bk ρ2 => M.pure (.nx ρ2)
    | .rt d => M.pure (.rt d)
    | .rl d => M.pure (.rl d)
    | .ex ρ2 k ks ds => M.pure (.ex ρ2 k ks ds)
def mFor (mi : MA) (g : MG) (mb : MS) : MS := fun ρ => M.bind (mi ρ) fun ds => loopD g mb ds ρ
def loopW (t : MT) (mb : MS) : Nat → Env → M Fl
  | 0, _ => lft none
  | n + 1, ρ => M.bind (t ρ) fun b => if b = true then M.bind (mb ρ) fun f => match f with
    | .nx ρ2 => loopW t mb n ρ2
    | .ct ρ2 => loopW t mb n ρ2
    | .bk ρ2 => M.pure (.nx ρ2)
    | .rt d => M.pure (.rt d)
    | .rl d => M.pure (.rl d)
    | .ex ρ2 k ks ds => M.pure (.ex ρ2 k ks ds)
    else M.pure (.nx ρ)
def mWhile (n : Nat) (t : MT) (mb : MS) : MS := fun ρ => loopW t mb n ρ
abbrev DI (X : Cx) (c : Cf) (tg e : Expr) (m : MA) : Prop := PI X tg e (rdI c m)
section
variable {X : Cx} {c : Cf} {pos : Pos} {tg iter : Expr} {body : List Stmt} {mi : MA} {g : MG} {mb : MS} {is : List Nat}
theorem flowO.mono {F F' : Hp} {Dn : Ends} {r : Option (Fl × PuS)} (e : Same F F') (h : flowO c F Dn r) : flowO c F' Dn r := by
  cases r with
  | none => exact h
  | some x =>
    obtain ⟨f, u⟩ := x
    cases f with
    | nx ρ2 => exact fun σ2 F2 H2 s2 => h σ2 F2 H2 (e.trans s2)
    | bk ρ2 => exact fun σ2 F2 H2 s2 => h σ2 F2 H2 (e.trans s2)
    | ct ρ2 => exact fun σ2 F2 H2 s2 => h σ2 F2 H2 (e.trans s2)
    | ex ρ2 k ks ds => exact fun σ2 F2 H2 cls od s2 => h σ2 F2 H2 cls od (e.trans s2)
    | rt d => exact h
    | rl d => exact h
theorem dFor (hp : PassesOwn (model X.prog X.w) X.A X.env X.xe) (hc : X.calm = true) (hi : DI X c tg iter mi) (hg : DG X c tg is g) (hb : DB X c body mb) (hs : ∀ x, foldedSetIterable iter X.env x = pure x := by intro _; rfl) : DS X c (.For tg iter body [] pos) (mFor mi g mb) :=
  (ps_for hp hc hi hg hb hs).imp fun Dn σ H ⟨F, u, ρ, S, h⟩ => ⟨F, u, ρ, S, (flowO.after S h).imp fun ds u1 F1 H1 _ s1 g1 h1 J hJ => by
    obtain ⟨G, Y, w, hG, hY⟩ := hJ
    refine for_it w (fun i σ H => ∃ F' u' ρ', Same F1 F' ∧ Sta c u' F' H σ ρ' ∧ flowO c F' Dn (loopD g mb (ds.drop i) ρ' u')) ⟨F1, u1, ρ, Same.refl _, h1.1, by simpa using h1.2⟩
      (fun i σ H _ ⟨F', u', ρ', e, S', _⟩ => hG H (e.trans S'.gd.ex)) (fun i x σ H H' hi ⟨F', u', ρ', e, S', hf⟩ hy => ?_) (fun σ H ⟨F', u', ρ', e, S', hf⟩ => ?_)
    · have hd : ds[i]? = some ds[i] := List.getElem?_eq_getElem hi
      obtain ⟨F3, s3, g3, r3⟩ := hY i H x H' F' u' _ hd e S'.gd hy
      rw [List.drop_eq_getElem_cons hi] at hf
      unfold loopD at hf
      obtain ⟨ρ1, e1, hf⟩ := flowO.lft S' hf
      have S3 := S'.step s3 g3
      refine ⟨F3, u', ρ', ds[i], S3, r3, ?_⟩
      rw [e1]
      intro σ1 S1 _
      refine ⟨F3, u', ρ1, S1, ?_⟩
      have hf3 := hf.mono s3.ef
      unfold M.bind at hf3
      cases e2 : mb ρ1 u' with
      | none => rw [e2] at hf3; exact hf3
      | some y =>
        obtain ⟨f2, u2⟩ := y
        rw [e2] at hf3
        cases f2 with
        | nx ρ2 => exact fun σ2 F2 H2 sm S2 => ⟨F2, u2, ρ2, (e.trans s3.ef).trans sm, S2, flowO.mono sm hf3⟩
        | ct ρ2 => exact fun σ2 F2 H2 sm S2 => ⟨F2, u2, ρ2, (e.trans s3.ef).trans sm, S2, flowO.mono sm hf3⟩
        | bk ρ2 => exact fun σ2 F2 H2 sm S2 => hf3 σ2 F2 H2 sm S2
        | ex ρ2 k ks ds => exact fun σ2 F2 H2 cls od sm S2 => hf3 σ2 F2 H2 cls od sm S2
        | rt d => exact hf3
        | rl d => exact hf3
    · rw [List.drop_eq_nil_of_le (Nat.le_refl _)] at hf
      exact hf σ F' H (Same.refl _) S'⟩
end
end Mi

set_option Elab.async false
set_option linter.all false
set_option maxRecDepth 100000
set_option maxHeartbeats 2000000
/-! Mi3: what is walked, comprehensions, owned lists, calls, classes, a def's promise. -/
namespace Mi
open PySem PySem.Spec PyProof.Rows L2
variable [TB : Tabl]

/-! ### what is walked -/
section
variable {W : Wo} {p : Addr} {F : Hp}
theorem walkD_at {J : It} {G : Hp → Prop} {vs : List V} {ds : List D} (w : Walk J vs.length G (YAt vs)) (hG : ∀ H, Same F H → G H) (r : Reps W p F vs ds) : WalkD W p J F ds := by
  refine ⟨G, YAt vs, by rw [← r.1]; exact w, hG, fun i H x H' F2 u d hd e g hy => ?_⟩
  obtain ⟨rfl, hx⟩ := hy
  exact ⟨F2, Stp.refl, g, (r.2 i x d hx hd).mono e⟩
theorem walkD_list {a : Addr} {vs : List V} {ds : List D} (h : F a = some (.lst vs)) (r : Reps W p F vs ds) : WalkD W p (Itl W.K a) F ds := walkD_at walk_list (fun H e => SqL.of (e _ _ h)) r
theorem walkD_tup {a : Addr} {vs : List V} {ds : List D} (h : SqT W.K F a vs) (r : Reps W p F vs ds) : WalkD W p (Itt W.K a) F ds := walkD_at walk_tup (fun H e => sq_t e h) r
def rngD (lo : Int) (n : Nat) : List D := (List.range n).map fun i => .int (lo + (i : Nat))
theorem rngD_len (lo : Int) (n : Nat) : (rngD lo n).length = n := by simp [rngD]
theorem rngD_at {lo : Int} {n i : Nat} {d : D} (h : (rngD lo n)[i]? = some d) : d = .int (lo + (i : Nat)) := by
  unfold rngD at h
  rw [List.getElem?_map] at h
  by_cases hi : i < n
  · rw [List.getElem?_range hi] at h
    exact (Option.some.inj h).symm
  · rw [List.getElem?_eq_none (by simpa using hi)] at h; cases h
theorem walkD_range {lo : Int} {n : Nat} : WalkD W p (Itr lo n) F (rngD lo n) := by
  refine ⟨_, _, by rw [rngD_len]; exact walk_range, fun _ _ => trivial, fun i H x H' F2 u d hd e g hy => ?_⟩
  obtain ⟨rfl, rfl⟩ := hy
  exact ⟨F2, Stp.refl, g, by rw [rngD_at hd]; exact .int _⟩
/-- pairs of the items of two walks -/
theorem walkD_pair {J : It} {n : Nat} {G : Hp → Prop} {xs ys : Nat → Option V} {ds : List D} (hn : ds.length = n) (w : Walk J n G (YPair xs ys)) (hG : ∀ H, Same F H → G H)
    (r : ∀ i x y d, xs i = some x → ys i = some y → ds[i]? = some d → ∃ a b, d = .tup [a, b] ∧ Rep W p F x a ∧ Rep W p F y b) : WalkD W p J F ds := by
  refine ⟨G, _, by rw [hn]; exact w, hG, fun i H x H' F2 u d hd e g hy => ?_⟩
  obtain ⟨T, x1, y1, rfl, hT, rfl, hx, hy⟩ := hy
  obtain ⟨a, b, rfl, ra, rb⟩ := r i x1 y1 d hx hy hd
  have e2 := e.trans (Stp.new (o := .tup [x1, y1]) g hT).ef
  exact ⟨_, Stp.new g hT, g.new hT, Rep.mkT upd_same (Reps.cons (ra.mono e2) (Reps.cons (rb.mono e2) Reps.nil))⟩
end
def mIseq (m : ME) : MA := fun ρ => M.bind (m ρ) fun d => lft (match d with
  | .lst ds => some ds
  | _ => none)
def mItup (m : ME) : MA := fun ρ => M.bind (m ρ) fun d => lft (match d with
  | .tup ds => some ds
  | _ => none)
def rng1 : List D → Option (List D) := fun ds => match ds with
  | [.int j] => if -100000 ≤ j ∧ j ≤ 100000 then some (rngD 0 j.toNat) else none
  | _ => none
def rng2 : List D → Option (List D) := fun ds => match ds with
  | [.int i, .int j] => if (-100000 ≤ i ∧ i ≤ 100000) ∧ -100000 ≤ j ∧ j ≤ 100000 then some (rngD i (j - i).toNat) else none
  | _ => none
def mIof (f : List D → Option (List D)) (ms : MA) : MA := fun ρ => M.bind (ms ρ) fun ds => lft (f ds)
def enumD (xs : List D) : List D := xs.mapIdx fun i d => .tup [.int (i : Nat), d]
def enum1 : List D → Option (List D) := fun ds => match ds with
  | [.lst xs] => some (enumD xs)
  | _ => none
theorem enumD_at {xs : List D} {i : Nat} {d : D} (h : (enumD xs)[i]? = some d) : ∃ x, xs[i]? = some x ∧ d = .tup [.int (i : Nat), x] := by
  unfold enumD at h
  rw [List.getElem?_mapIdx] at h
  cases e : xs[i]? with
  | none => rw [e] at h; cases h
  | some q =>
    rw [e] at h
    exact ⟨q, rfl, (Option.some.inj h).symm⟩
theorem enumD_len (xs : List D) : (enumD xs).length = xs.length := by simp [enumD]
section
variable {X : Cx} {c : Cf} {tg e a b : Expr} {m : ME} {ms : MA} {pos q : Pos}
theorem dIlist (h : DE X c e m) (hK : X.K = c.W.K := by rfl) : DI X c tg e (mIseq m) :=
  (pi_list h).imp fun σ H R ⟨F, u, ρ, S, h⟩ => ⟨F, u, ρ, S, (After.split h).imp fun d u1 F1 H1 _ s1 g1 h1 v rv => by
    obtain ⟨ds, e1, h2⟩ := lft_some h1
    cases d with
    | lst es =>
      cases e1
      obtain ⟨a, vs, rfl, ha, rs⟩ := rv.lst_
      exact ⟨a, rfl, ⟨vs, SqL.of (g1.ex _ _ ha)⟩, by rw [hK]; exact After.now g1 h2 _ (walkD_list ha rs)⟩
    | _ => cases e1⟩
theorem dItup (h : DE X c e m) (hK : X.K = c.W.K := by rfl) : DI X c tg e (mItup m) :=
  (pi_tup h).imp fun σ H R ⟨F, u, ρ, S, h⟩ => ⟨F, u, ρ, S, (After.split h).imp fun d u1 F1 H1 _ s1 g1 h1 v rv => by
    obtain ⟨ds, e1, h2⟩ := lft_some h1
    cases d with
    | tup es =>
      cases e1
      obtain ⟨a, vs, rfl, ha, rs⟩ := rv.tup_
      exact ⟨a, rfl, ⟨vs, by rw [hK]; exact sq_t g1.ex ha⟩, by rw [hK]; exact After.now g1 h2 _ (walkD_tup ha rs)⟩
    | _ => cases e1⟩
theorem dIrng1 (hg : Gl X "range") (hm : X.mg "range" = none) (ha : DA X c [a] ms) (hs : starEach [a] X.env = [(false, eval a X.env)] := by rfl) : DI X c tg (.Call (.Name "range" q) [a] [] pos) (mIof rng1 ms) :=
  (pi_range1 hg hm ha hs).imp fun σ H R ⟨F, u, ρ, S, h⟩ => ⟨F, u, ρ, S, (After.split h).imp fun ds u1 F1 H1 _ s1 g1 h1 vs rv => by
    obtain ⟨es, e1, h2⟩ := lft_some h1
    unfold rng1 at e1
    split at e1
    · rename_i j _h
      split at e1
      · rename_i hj
        cases e1
        obtain ⟨v, vr, rfl, r1, r2⟩ := rv.uncons
        rw [r2.none, r1.int_]
        exact ⟨j, rfl, by omega, by omega, After.now g1 h2 _ walkD_range⟩
      · cases e1
    · cases e1⟩
theorem dIrng2 (hg : Gl X "range") (hm : X.mg "range" = none) (ha : DA X c [a, b] ms) (hs : starEach [a, b] X.env = [(false, eval a X.env), (false, eval b X.env)] := by rfl) (hs2 : starEach [b] X.env = [(false, eval b X.env)] := by rfl) :
    DI X c tg (.Call (.Name "range" q) [a, b] [] pos) (mIof rng2 ms) :=
  (pi_range2 hg hm ha hs hs2).imp fun σ H R ⟨F, u, ρ, S, h⟩ => ⟨F, u, ρ, S, (After.split h).imp fun ds u1 F1 H1 _ s1 g1 h1 vs rv => by
    obtain ⟨es, e1, h2⟩ := lft_some h1
    unfold rng2 at e1
    split at e1
    · rename_i i j _h
      split at e1
      · rename_i hj
        cases e1
        obtain ⟨v, vr, rfl, r1, r2⟩ := rv.uncons
        obtain ⟨w, wr, rfl, r3, r4⟩ := r2.uncons
        rw [r4.none, r1.int_, r3.int_]
        exact ⟨i, j, rfl, ⟨by omega, by omega, by omega, by omega⟩, After.now g1 h2 _ walkD_range⟩
      · cases e1
    · cases e1⟩
theorem dIenum {elts : List Expr} {kk : Nat} {tpos : Pos} (hg : Gl X "enumerate") (hm : X.mg "enumerate" = none) (ha : DA X c [a] ms) (hs : starEach [a] X.env = [(false, eval a X.env)] := by rfl) (hK : X.K = c.W.K := by rfl) :
    DI X c (.Tuple elts kk tpos) (.Call (.Name "enumerate" q) [a] [] pos) (mIof enum1 ms) :=
  (pi_enum hg hm ha hs).imp fun σ H R ⟨F, u, ρ, S, h⟩ => ⟨F, u, ρ, S, (After.split h).imp fun ds u1 F1 H1 _ s1 g1 h1 vs rv => by
    obtain ⟨es, e1, h2⟩ := lft_some h1
    unfold enum1 at e1
    split at e1
    · rename_i xs _h
      cases e1
      obtain ⟨v, vr, rfl, r1, r2⟩ := rv.uncons
      rw [r2.none]
      obtain ⟨p1, v1, rfl, f1, q1⟩ := r1.lst_
      refine ⟨p1, v1, rfl, SqL.of (g1.ex _ _ f1), After.now g1 h2 _ ?_⟩
      rw [hK]
      refine walkD_pair (n := v1.length) (by rw [enumD_len, q1.1]) walk_enum (fun H e => SqL.of (e _ _ f1)) fun i x y d hx hy hd => ?_
      obtain ⟨y', e2, rfl⟩ := enumD_at hd
      cases hx
      exact ⟨_, y', rfl, .int _, q1.2 i y y' hy e2⟩
    · cases e1⟩
end

/-! ### comprehensions -/
def wipeE (ρ : Env) : List Nat → Env
  | [] => ρ
  | v :: vs => (wipeE ρ vs).set v .un
theorem wipe_get {σ : L2.St} {j : Nat} : ∀ {vs : List Nat}, j ∉ vs → (wipe σ vs)[j]? = σ[j]?
  | [], _ => rfl
  | v :: vs, h => by
    show ((wipe σ vs).set v none)[j]? = _
    rw [List.getElem?_set_ne (fun z => h (by simp [z])), wipe_get (fun z => h (List.mem_cons_of_mem _ z))]
theorem wipeE_len (ρ : Env) : ∀ vs : List Nat, (wipeE ρ vs).length = ρ.length
  | [] => rfl
  | v :: vs => by show ((wipeE ρ vs).set v .un).length = _; rw [List.length_set, wipeE_len ρ vs]
theorem wipeE_get {ρ : Env} {j : Nat} {s : Sd} : ∀ {vs : List Nat}, (wipeE ρ vs)[j]? = some s → s = .un ∨ (j ∉ vs ∧ ρ[j]? = some s)
  | [], h => .inr ⟨by simp, h⟩
  | v :: vs, h => by
    have h' : ((wipeE ρ vs).set v .un)[j]? = some s := h
    rcases set_get h' with ⟨_, e, _⟩ | ⟨ne, h2⟩
    · exact .inl e
    · rcases wipeE_get h2 with e | ⟨a, b⟩
      · exact .inl e
      · exact .inr ⟨fun z => (List.mem_cons.mp z).elim (fun q => ne q.symm) a, b⟩
theorem Sta.wipe {c : Cf} {u : PuS} {F H : Hp} {σ : L2.St} {ρ : Env} (S : Sta c u F H σ ρ) (vs : List Nat) : Sta c u F H (wipe σ vs) (wipeE ρ vs) := by
  refine ⟨S.ent, S.gd, by rw [wipe_length, wipeE_len]; exact S.env.len, fun i s e => ?_, fun i j s t h e1 e2 o1 o2 => ?_⟩
  · rcases wipeE_get e with rfl | ⟨hn, e⟩
    · trivial
    · rw [wipe_get hn]; exact S.env.at_ i s e
  · rcases wipeE_get e1 with rfl | ⟨n1, e1⟩
    · cases o1
    · rcases wipeE_get e2 with rfl | ⟨n2, e2⟩
      · cases o2
      · rw [wipe_get n1, wipe_get n2]; exact S.env.ne i j s t h e1 e2 o1 o2
theorem wipe_in {σ : L2.St} {j : Nat} : ∀ {vs : List Nat}, j ∈ vs → (wipe σ vs)[j]? = if j < σ.length then some none else none
  | [], h => by cases h
  | v :: vs, h => by
    show ((wipe σ vs).set v none)[j]? = _
    by_cases e : v = j
    · subst e
      rw [List.getElem?_set]
      simp [wipe_length]
    · rw [List.getElem?_set_ne e]
      exact wipe_in ((List.mem_cons.mp h).resolve_left fun z => e z.symm)
theorem wipe_agr {σ σ' : L2.St} {is vs : List Nat} (h : ∀ i ∈ is, i ∈ vs) (a : Agr is (wipe σ vs) σ') : wipe σ' vs = wipe σ vs := by
  apply List.ext_getElem?
  intro j
  have hl : σ'.length = σ.length := by rw [a.1, wipe_length]
  by_cases hj : j ∈ vs
  · rw [wipe_in hj, wipe_in hj, hl]
  · rw [wipe_get hj, a.2 j (fun z => hj (h j z))]
theorem bind_some {α β : Type} {m : M α} {f : α → M β} {u : PuS} {r : β × PuS} (h : M.bind m f u = some r) : ∃ a u1, m u = some (a, u1) ∧ f a u1 = some r := by
  unfold M.bind at h
  cases e : m u with
  | none => rw [e] at h; cases h
  | some x =>
    obtain ⟨a, u1⟩ := x
    rw [e] at h
    exact ⟨a, u1, rfl, h⟩
def lcD (g : MG) (mt : MT) (me : ME) (ρ : Env) : List D → M (List D)
  | [] => M.pure []
  | d :: ds => M.bind (lft (g d ρ)) fun ρ1 => M.bind (mt ρ1) fun b =>
    if b = true then M.bind (me ρ1) fun y => M.bind (lcD g mt me ρ ds) fun ys => M.pure (y :: ys) else lcD g mt me ρ ds
def mLcO (vs : List Nat) (mi : MA) (g : MG) (mt : MT) (me : ME) : MA := fun ρ => M.bind (mi ρ) fun ds => if ds.length ≤ 100000 then lcD g mt me (wipeE ρ vs) ds else lft none
/-- a fresh list, frozen -/
def mFz (m : MA) : ME := fun ρ => M.bind (m ρ) fun ds => M.pure (.lst ds)
theorem dFz {X : Cx} {c : Cf} {e : Expr} {m : MA} (h : DL X c e m) : DE X c e (mFz m) := h.imp fun σ H Q ⟨F, u, ρ, S, h⟩ => by
  refine ⟨F, u, ρ, S, ?_⟩
  have h' : After c.p F H (M.bind (m ρ) (fun ds => M.pure (.lst ds)) u) fun d _ F' H' => ∀ v, Rep c.W c.p F' v d → Q v H' := h
  unfold M.bind at h'
  cases e1 : m ρ u with
  | none => rw [e1] at h'; exact h'
  | some x =>
    obtain ⟨ds, u1⟩ := x
    rw [e1] at h'
    intro F1 H1 s1 g1 q ws hF hn hq r
    have h2 : After c.p F H (some (D.lst ds, u1)) (fun d _ F' H' => ∀ v, Rep c.W c.p F' v d → Q v H') := h'
    have hsm : Same F1 (upd F1 q (.lst ws)) := fun a o e => by rw [upd_ne (fun z => by rw [z, hF] at e; cases e)]; exact e
    have hpq : c.p ≠ q := fun z => S.gd.ne (z ▸ hn)
    refine h2 (upd F1 q (.lst ws)) H1 ⟨s1.ef.trans hsm, s1.eh, s1.et, fun a o e => ?_⟩ ⟨fun a o e => ?_, g1.pu, fun l e => by rw [upd_ne hpq]; exact g1.off l e, nt_upd g1.nt (by intro _ z; cases z), g1.tb, g1.hp⟩ (.ref q) (Rep.mkL upd_same (r.mono hsm))
    · by_cases ha : a = q
      · subst ha; exact .inr hn
      · rw [upd_ne ha] at e; exact s1.nw a o e
    · by_cases ha : a = q
      · subst ha; rw [upd_same] at e; cases e; exact hq
      · rw [upd_ne ha] at e; exact g1.ex a o e
def mYes : MT := fun _ => M.pure true
section
variable {c : Cf} {is vs : List Nat} {mi : MA} {g : MG} {mt : MT} {me : ME}
/-- the reading of a comprehension, from its mirror: the new list is handed over, not frozen -/
theorem rdLc (his : ∀ i ∈ is, i ∈ vs) (σ : L2.St) (H : Hp) (Q : VK) (F : Hp) (u : PuS) (ρ : Env) (S : Sta c u F H σ ρ)
    (h : After c.p F H (mLcO vs mi g mt me ρ u) fun ds _ F' H' => ∀ q ws, F' q = none → H q = none → H' q = some (.lst ws) → Reps c.W c.p F' ws ds → Q (.ref q) H') : tLc (rdI c mi) (rdG c is g) (rdT c mt) (rdE c me) vs σ H Q := by
  refine ⟨F, u, ρ, S, (After.split h).imp fun ds u1 F1 H1 _ s1 g1 h1 J hJ Dl hD => ?_⟩
  have S1 := S.step s1 g1
  by_cases hlen : ds.length ≤ 100000
  case neg => rw [if_neg hlen] at h1; exact False.elim h1
  rw [if_pos hlen] at h1
  obtain ⟨G, Y, w, hG, hY⟩ := hJ
  -- what is wanted at the end
  cases hr : lcD g mt me (wipeE ρ vs) ds u1 with
  | none => rw [hr] at h1; exact False.elim h1
  | some out =>
    obtain ⟨out, uf⟩ := out
    rw [hr] at h1
    refine lc_it w (fun i H' => ∃ F' u' done acc rest, Stp c.p F1 H1 F' H' ∧ Gd c.p u' F' H' ∧ F' Dl = none ∧ H' Dl = some (.lst acc) ∧ Reps c.W c.p F' acc done ∧ done.length ≤ i ∧
      lcD g mt me (wipeE ρ vs) (ds.drop i) u' = some (rest, uf) ∧ done ++ rest = out) ?_ ?_ ?_ ?_
    · exact ⟨F1, u1, [], [], out, Stp.own hD, g1.own hD, g1.fresh hD, upd_same, Reps.nil, Nat.le_refl _, by simpa using hr, rfl⟩
    · rintro i H' _ ⟨F', u', done, acc, rest, s', g', _⟩
      exact hG H' (s'.ef.trans g'.ex)
    · rintro i x H2 H3 hi ⟨F', u', done, acc, rest, s', g', hf, ha, ra, hl, hd, ho⟩ hy
      have hdi : ds[i]? = some ds[i] := List.getElem?_eq_getElem hi
      obtain ⟨F3, s3, g3, r3⟩ := hY i H2 x H3 F' u' _ hdi s'.ef g' hy
      rw [List.drop_eq_getElem_cons hi] at hd
      unfold lcD at hd
      have S3 : Sta c u' F3 H3 (wipe σ vs) (wipeE ρ vs) := ((S1.step s' g').step s3 g3).wipe vs
      refine ⟨F3, u', wipeE ρ vs, ds[i], S3, r3, ?_⟩
      cases eg : g ds[i] (wipeE ρ vs) with
      | none => rw [eg] at hd; cases hd
      | some ρ1 =>
        rw [eg] at hd
        intro σ2 S2 a2
        refine ⟨wipe_agr his a2, F3, u', ρ1, S2, ?_⟩
        have hd2 : M.bind (mt ρ1) (fun b => if b = true then M.bind (me ρ1) fun y => M.bind (lcD g mt me (wipeE ρ vs) (ds.drop (i + 1))) fun ys => M.pure (y :: ys) else lcD g mt me (wipeE ρ vs) (ds.drop (i + 1))) u' = some (rest, uf) := hd
        unfold M.bind at hd2
        have s13 := s'.trans g'.ne s3
        cases et : mt ρ1 u' with
        | none => rw [et] at hd2; cases hd2
        | some bt =>
          obtain ⟨bt, u2⟩ := bt
          rw [et] at hd2
          intro F4 H4 s4 g4
          have s14 := s13.trans g3.ne s4
          have hf4 : F4 Dl = none := s4.off (s3.off hf (by rw [ha]; simp)) (by rw [s3.eh Dl _ (fun z => g1.ne (z ▸ hD)) ha (.inr (by intro _ z; cases z))]; simp)
          have ha4 : H4 Dl = some (.lst acc) := s4.eh Dl _ (fun z => g1.ne (z ▸ hD)) (s3.eh Dl _ (fun z => g1.ne (z ▸ hD)) ha (.inr (by intro _ z; cases z))) (.inr (by intro _ z; cases z))
          have hpd : Dl ≠ c.p := fun z => g1.ne (z ▸ hD)
          cases bt with
          | false =>
            show ∃ F' u' done acc rest, _
            exact ⟨F4, u2, done, acc, rest, s14, g4, hf4, ha4, ra.mono (s3.ef.trans s4.ef), by omega, hd2, ho⟩
          | true =>
            show rdE c me σ2 H4 _
            refine ⟨F4, u2, ρ1, S2.step s4 g4, ?_⟩
            have hd3 : M.bind (me ρ1) (fun y => M.bind (lcD g mt me (wipeE ρ vs) (ds.drop (i + 1))) fun ys => M.pure (y :: ys)) u2 = some (rest, uf) := hd2
            unfold M.bind at hd3
            cases ee : me ρ1 u2 with
            | none => rw [ee] at hd3; cases hd3
            | some y =>
              obtain ⟨y, u3⟩ := y
              rw [ee] at hd3
              intro F5 H5 s5 g5 v rv
              have ha5 := s5.eh Dl _ hpd ha4 (.inr (by intro _ z; cases z))
              have hf5 : F5 Dl = none := s5.off hf4 (by rw [ha4]; simp)
              refine ⟨acc, ha5, sz5l (by have := ra.1; omega), ?_⟩
              obtain ⟨ys, u4, el, e5⟩ := bind_some (m := lcD g mt me (wipeE ρ vs) (ds.drop (i + 1))) (f := fun ys => M.pure (y :: ys)) (u := u3) (r := (rest, uf)) hd3
              have e5 : some (y :: ys, u4) = some (rest, uf) := e5
              injection e5 with e5
              injection e5 with e6 e7
              subst e6 e7
              have s15 := s14.trans g4.ne s5
              refine ⟨F5, u3, done ++ [y], acc ++ [v], ys, ⟨s15.ef, fun a o hap e n => ?_, fun a ps ha e => by
                obtain ⟨qs, e1⟩ := s15.et a ps ha e
                exact ⟨qs, by rw [upd_ne (ne_of_none e hD)]; exact e1⟩, s15.nw⟩, ⟨fun a o e => ?_, ?_, g5.off, g5.nt, tabs_over ha5 g5.tb, g5.hp⟩, hf5, upd_same, ?_, by simp; omega, el, by simpa using ho⟩
              · rw [upd_ne (ne_of_none e hD)]; exact s15.eh a o hap e n
              · rw [upd_ne (fun z => by rw [z, hf5] at e; cases e)]; exact g5.ex a o e
              · rw [upd_ne (Ne.symm hpd)]; exact g5.pu
              · exact (ra.mono ((s3.ef.trans s4.ef).trans s5.ef)).append (Reps.cons rv Reps.nil)
    · rintro H' ⟨F', u', done, acc, rest, s', g', hf, ha, ra, hl, hd, ho⟩
      rw [List.drop_eq_nil_of_le (Nat.le_refl _)] at hd
      have hd' : some (([] : List D), u') = some (rest, uf) := hd
      injection hd' with hd'
      injection hd' with e1 e2
      subst e1 e2
      rw [List.append_nil] at ho
      subst ho
      exact h1 F' H' s' g' Dl acc hf (s1.back g1.ne hD) ha ra
end
section
variable {X : Cx} {c : Cf} {elt tg iter : Expr} {ifs : List Expr} {scope : Scope} {own : List (Str × Nat)} {pos : Pos} {is : List Nat} {mi : MA} {g : MG} {mt : MT} {me : ME}
theorem dYes : PTs X [] (rdT c mYes) := pts_nil.imp fun σ H Q ⟨F, u, ρ, S, h⟩ => After.now S.gd h
theorem dLcO (hc : X.calm = true) (hN : X.N.Nodup) (hi : DI X c tg iter mi) (ok : BlkOk X.N X.env.scope scope own) (hg : ∀ (s : Shared) (H : Hp) (C : Addr) (cl : List (Str × Addr)) (fp : List Addr), DG (X.blk s H scope (compEnvC scope cl C X.env) fp) c tg is g)
    (ht : ∀ (s : Shared) (H : Hp) (C : Addr) (cl : List (Str × Addr)) (fp : List Addr), PTs (X.blk s H scope (compEnvC scope cl C X.env) fp) ifs (rdT c mt)) (he : ∀ (s : Shared) (H : Hp) (C : Addr) (cl : List (Str × Addr)) (fp : List Addr), DE (X.blk s H scope (compEnvC scope cl C X.env) fp) c elt me)
    (his : ∀ i ∈ is, i ∈ own.map (·.2) := by decide) (hs : ∀ x, foldedSetIterable iter X.env x = pure x := by intro _; rfl) : DL X c (.ListComp elt [⟨tg, iter, ifs, 0⟩] scope pos) (mLcO (own.map (·.2)) mi g mt me) :=
  (pe_lc hc hN hi ok hg ht he hs).imp fun σ H Q ⟨F, u, ρ, S, h⟩ => rdLc his σ H Q F u ρ S h
end
end Mi

set_option Elab.async false
set_option linter.all false
set_option maxRecDepth 100000
set_option maxHeartbeats 2000000
/-! Mi4: owned lists, calls, classes, a def's promise. -/
namespace Mi
open PySem PySem.Spec PyProof.Rows L2
variable [TB : Tabl]

/-! ### owned lists -/
def vOw (ρ : Env) (i : Nat) : Option (List D) := match ρ[i]? with
  | some (.ow ds) => some ds
  | _ => none
def mApp (i : Nat) (m : ME) : MS := fun ρ => M.bind (m ρ) fun d => M.bind (lft (vOw ρ i)) fun ds => M.bind (lft (if ds.length < 100000 then some () else none)) fun _ => M.pure (.nx (ρ.set i (.ow (ds ++ [d]))))
def mPut (i : Nat) (m mi : ME) : MS := fun ρ => M.bind (m ρ) fun d => M.bind (mi ρ) fun k => M.bind (lft (vOw ρ i)) fun ds => M.bind (lft (match k with
  | .int j => ixN ds.length j
  | _ => none)) fun n => M.pure (.nx (ρ.set i (.ow (ds.set n d))))
def mIxO (i : Nat) (mi : ME) : ME := fun ρ => M.bind (mi ρ) fun k => M.bind (lft (vOw ρ i)) fun ds => lft (match k with
  | .int j => atI ds j
  | _ => none)
def mLenO (i : Nat) : ME := fun ρ => M.bind (lft (vOw ρ i)) fun ds => M.pure (.int ds.length)
def frz (i : Nat) (ρ : Env) : Env := match vOw ρ i with
  | some ds => ρ.set i (.sh (.lst ds))
  | none => ρ
def mFrz (i : Nat) (m : MS) : MS := fun ρ => m (frz i ρ)
section
variable {X : Cx} {c : Cf} {pos : Pos} {e ie : Expr} {m mi : ME} {i : Nat} {x : Str}
theorem vOw_at {ρ : Env} {ds : List D} (h : vOw ρ i = some ds) : ρ[i]? = some (.ow ds) := by
  unfold vOw at h
  split at h
  · rename_i z; cases h; exact z
  · cases h
theorem Sta.ow {u : PuS} {F H : Hp} {σ : L2.St} {ρ : Env} {ds : List D} (S : Sta c u F H σ ρ) (h : vOw ρ i = some ds) :
    ∃ q vs, σ[i]? = some (some (.ref q)) ∧ H q = some (.lst vs) ∧ F q = none ∧ q ≠ c.p ∧ c.H0 q = none ∧ Reps c.W c.p F vs ds := S.env.at_ i _ (vOw_at h)
theorem lft_some' {α β : Type} {o : Option α} {f : α → M β} {u : PuS} {p : Addr} {F H : Hp} {Φ : β → PuS → Hp → Hp → Prop} (h : After p F H (M.bind (lft o) f u) Φ) : ∃ a, o = some a ∧ After p F H (f a u) Φ := by
  cases o with
  | none => exact False.elim h
  | some a => exact ⟨a, rfl, h⟩
theorem dApp (i : Nat) {x : Str} {p0 apos cpos : Pos} (he : DE X c e m) (hN : X.N[i]? = some x := by rfl) (hv : Vis X.env.scope x := by first | exact Or.inl rfl | exact Or.inr (Or.inl rfl) | exact Or.inr (Or.inr rfl)) (hd : (x == ("__debug__" : Str)) = false := by decide)
    (hcd : (x == ("__classdict__" : Str)) = false := by decide) (hbase : attributeBase (.Name x p0) "append" X.env (eval (.Name x p0) X.env) = eval (.Name x p0) X.env := by rfl)
    (hfew : ((backTo cpos (starEach [e] X.env)).all (fun x => !x.1) && (backToKw cpos (keywordEach [] X.env)).all (fun x => x.1.isSome)
      && decide (([e] : List Expr).length + ([] : List Keyword).length + (if ([] : List Keyword).isEmpty then 0 else 1) < 30)) = true := by rfl)
    (hline : (apos.endLine == cpos.line) = true := by rfl) (hst : starEach [e] X.env = (false, eval e X.env) :: starEach [] X.env := by rfl) (hplain : (backTo cpos (starEach [] X.env)).any (·.1) = false := by rfl)
    (hs : swapsWith (.Call (.Attribute (.Name x p0) "append" apos) [e] [] cpos) none pos.line X.env = pure false := by rfl) :
    DS X c (.Expr (.Call (.Attribute (.Name x p0) "append" apos) [e] [] cpos) pos) (mApp i m) :=
  (ps_expr (pe_bm PySem.F.plainAttrs_list PySem.F.slot_list_append PySem.F.type_list_append mt_append (pe_var (i := i) hN hv hd hcd) (pa_cons he pa_nil hst) hbase hfew hline hst hplain) hs).imp fun Dn σ H ⟨F, u, ρ, S, h⟩ => by
    unfold mApp at h
    have key : ∀ ds, vOw ρ i = some ds → tDrop (tBM X.K "list" rAppend (tVar i) (tCons (rdE c m) tNil)) Dn σ H := fun ds hds => by
      obtain ⟨q, vs, e1, hq, _⟩ := S.ow hds
      refine ⟨.ref q, e1, .inl ⟨rfl, vs, SqL.of hq⟩, F, u, ρ, S, (flowO.after S h).imp fun d u1 F1 H1 _ s1 g1 h1 v rv => ?_⟩
      obtain ⟨ds', e2, h2⟩ := flowO.lft h1.1 h1.2
      rw [hds] at e2
      cases e2
      obtain ⟨_, e3, h3⟩ := flowO.lft h1.1 h2
      obtain ⟨q', vs', e1', hq', _, _, _, r'⟩ := h1.1.ow hds
      rw [e1] at e1'
      cases e1'
      split at e3
      · rename_i hl
        refine ⟨q, vs', v, rfl, rfl, hq', sz5l (by rw [r'.1]; omega), h3 σ F1 _ (Same.refl _) ?_⟩
        exact h1.1.put (vOw_at hds) e1 (r'.append (Reps.cons rv Reps.nil))
      · cases e3
    cases ho : vOw ρ i with
    | some ds => exact key ds ho
    | none =>
      exfalso
      cases e1 : m ρ u with
      | none =>
        unfold M.bind at h
        rw [e1] at h
        exact h
      | some y =>
        unfold M.bind at h
        rw [e1, ho] at h
        exact h
theorem dPut (i : Nat) {x : Str} {p0 tp : Pos} (he : DE X c e m) (hk : DE X c ie mi) (hN : X.N[i]? = some x := by rfl) (hv : Vis X.env.scope x := by first | exact Or.inl rfl | exact Or.inr (Or.inl rfl) | exact Or.inr (Or.inr rfl)) (hd : (x == ("__debug__" : Str)) = false := by decide)
    (hcd : (x == ("__classdict__" : Str)) = false := by decide)
    (ha : ∀ v, assign (.Subscript (.Name x p0) ie tp) X.env v = (do
      let ov ← holding [v] (eval (.Name x p0) X.env)
      let iv ← holding [v, ov] (eval ie X.env)
      standAt tp
      holding [v, ov, iv] (setItem ov iv v)
      release [v, ov, iv] []) := by intro _; rfl)
    (hs : swapsWithSole [.Subscript (.Name x p0) ie tp] e pos.line X.env = pure false := by rfl) (hw : swappedStores [.Subscript (.Name x p0) ie tp] e X.env = pure none := by rfl)
    (h1 : (assignEach [.Subscript (.Name x p0) ie tp] X.env).map (·.2) = [assign (.Subscript (.Name x p0) ie tp) X.env] := by rfl) : DS X c (.Assign [.Subscript (.Name x p0) ie tp] e pos) (mPut i m mi) :=
  (ps_asg he (pg_sub (pe_var (i := i) hN hv hd hcd) hk set_list ha) hs hw h1).imp fun Dn σ H ⟨F, u, ρ, S, h⟩ => ⟨F, u, ρ, S, (flowO.after S h).imp fun d u1 F1 H1 _ s1 g1 h1 v rv => by
    have key : ∀ ds, vOw ρ i = some ds → ∃ w, σ[i]? = some (some w) ∧ rdE c mi σ H1 fun i' H3 => rSetL w i' v H3 fun H4 => Dn.nx σ H4 := fun ds hds => by
      obtain ⟨q, vs, e1, _⟩ := h1.1.ow hds
      refine ⟨.ref q, e1, F1, u1, ρ, h1.1, (flowO.after h1.1 h1.2).imp fun k u2 F2 H2 _ s2 g2 h2 w rw => ?_⟩
      obtain ⟨ds', e2, h3⟩ := flowO.lft h2.1 h2.2
      rw [hds] at e2
      cases e2
      obtain ⟨n, e3, h4⟩ := flowO.lft h2.1 h3
      obtain ⟨q', vs', e1', hq', _, _, _, r'⟩ := h2.1.ow hds
      rw [e1] at e1'
      cases e1'
      cases k with
      | int j =>
        refine ⟨q, vs', j, n, rfl, rw.int_, hq', by rw [r'.1]; exact e3, h4 σ F2 _ (Same.refl _) (h2.1.put (vOw_at hds) e1 ⟨by simp [r'.1], fun a v' d' ea eb => ?_⟩)⟩
        rcases set_get eb with ⟨rfl, rfl, _⟩ | ⟨ne, eb⟩
        · rcases set_get ea with ⟨_, rfl, _⟩ | ⟨ne, _⟩
          · exact rv.mono s2.ef
          · exact absurd rfl ne
        · rw [List.getElem?_set_ne ne] at ea
          exact r'.2 a v' d' ea eb
      | _ => cases e3
    cases ho : vOw ρ i with
    | some ds => exact key ds ho
    | none =>
      exfalso
      have h2 := h1.2
      unfold M.bind at h2
      cases e1 : mi ρ u1 with
      | none => rw [e1] at h2; exact h2
      | some y => rw [e1, ho] at h2; exact h2⟩
theorem dIxO (i : Nat) {x : Str} {p0 : Pos} (hk : DE X c ie mi) (hN : X.N[i]? = some x := by rfl) (hv : Vis X.env.scope x := by first | exact Or.inl rfl | exact Or.inr (Or.inl rfl) | exact Or.inr (Or.inr rfl)) (hd : (x == ("__debug__" : Str)) = false := by decide)
    (hcd : (x == ("__classdict__" : Str)) = false := by decide) (hs : PlainIx ie := by exact fun _ _ => rfl) : DE X c (.Subscript (.Name x p0) ie pos) (mIxO i mi) :=
  (pe_ix ix_list (pe_var (i := i) hN hv hd hcd) hk hs).imp fun σ H Q ⟨F, u, ρ, S, h⟩ => by
    have key : ∀ ds, vOw ρ i = some ds → ∃ w, σ[i]? = some (some w) ∧ rdE c mi σ H fun y H2 => rIxL X.K w y H2 Q := fun ds hds => by
      obtain ⟨q, vs, e1, _⟩ := S.ow hds
      refine ⟨.ref q, e1, F, u, ρ, S, (After.split h).imp fun k u2 F2 H2 _ s2 g2 h2 w rw => ?_⟩
      obtain ⟨ds', e2, h3⟩ := lft_some' h2
      rw [hds] at e2
      cases e2
      obtain ⟨d, e3, h4⟩ := lft_some h3
      obtain ⟨q', vs', e1', hq', _, _, _, r'⟩ := (S.step s2 g2).ow hds
      rw [e1] at e1'
      cases e1'
      cases k with
      | int j =>
        have e4 : atI ds j = some d := e3
        unfold atI at e4
        cases hj : ixN ds.length j with
        | none => rw [hj] at e4; cases e4
        | some n =>
          rw [hj] at e4
          obtain ⟨v, ev, rv⟩ := r'.get e4
          refine ⟨q, vs', j, v, rfl, rw.int_, SqL.of hq', by unfold atI; rw [r'.1, hj]; exact ev, After.now g2 h4 v rv⟩
      | _ => cases e3
    cases ho : vOw ρ i with
    | some ds => exact key ds ho
    | none =>
      exfalso
      unfold mIxO M.bind at h
      cases e1 : mi ρ u with
      | none => rw [e1] at h; exact h
      | some y => rw [e1, ho] at h; exact h
theorem dLenO (i : Nat) {x : Str} {p0 q0 : Pos} (hg : Gl X "len") (hm : X.mg "len" = none) (hN : X.N[i]? = some x := by rfl) (hv : Vis X.env.scope x := by first | exact Or.inl rfl | exact Or.inr (Or.inl rfl) | exact Or.inr (Or.inr rfl)) (hd : (x == ("__debug__" : Str)) = false := by decide)
    (hcd : (x == ("__classdict__" : Str)) = false := by decide) : DE X c (.Call (.Name "len" q0) [.Name x p0] [] pos) (mLenO i) :=
  (pe_callB call_len_seq hg hm PySem.boot_len (pa_cons (pe_var (i := i) hN hv hd hcd) pa_nil)).imp fun σ H Q ⟨F, u, ρ, S, h⟩ => by
    obtain ⟨ds, e1, h2⟩ := lft_some' h
    obtain ⟨q, vs, e2, hq, _, _, _, r⟩ := S.ow e1
    have h3 : After c.p F H (some (D.int ds.length, u)) (fun d _ F' H' => ∀ v, Rep c.W c.p F' v d → Q v H') := h2
    refine ⟨.ref q, e2, q, vs, rfl, .inl (SqL.of hq), After.now S.gd h3 _ ?_⟩
    rw [r.1]
    exact .int _
theorem Sta.frz {u : PuS} {F H : Hp} {σ : L2.St} {ρ : Env} (S : Sta c u F H σ ρ) (i : Nat) : ∃ F', Same F F' ∧ Sta c u F' H σ (frz i ρ) := by
  unfold Mi.frz
  cases ho : vOw ρ i with
  | none => exact ⟨F, Same.refl F, S⟩
  | some ds =>
    obtain ⟨q, vs, e1, hq, hf, hp, h0, r⟩ := S.ow ho
    have hsm : Same F (upd F q (.lst vs)) := fun a o e => by rw [upd_ne (fun z => by rw [z, hf] at e; cases e)]; exact e
    have qs : ∀ {j : Nat} {t : Sd} {a : Addr}, i ≠ j → ρ[j]? = some t → t.own = true → σ[j]? = some (some (.ref a)) → a ≠ q := fun {j t a} ne e2 o z h => by
      subst h
      exact S.env.ne i j _ t ne (vOw_at ho) e2 rfl o (e1.trans z.symm)
    refine ⟨upd F q (.lst vs), hsm, ⟨S.ent.ef.trans hsm, S.ent.eh, S.ent.et, fun a o e => ?_⟩, ⟨fun a o e => ?_, S.gd.pu, fun l e => by rw [upd_ne (Ne.symm hp)]; exact S.gd.off l e, nt_upd S.gd.nt (by intro _ z; cases z), S.gd.tb, S.gd.hp⟩, by simpa using S.env.len, fun j t e => ?_, fun j k t t' h ea eb o1 o2 => ?_⟩
    · by_cases ha : a = q
      · subst ha; exact .inr h0
      · rw [upd_ne ha] at e; exact S.ent.nw a o e
    · by_cases ha : a = q
      · subst ha; rw [upd_same] at e; cases e; exact hq
      · rw [upd_ne ha] at e; exact S.gd.ex a o e
    · rcases set_get e with ⟨rfl, rfl, _⟩ | ⟨ne, e⟩
      · exact ⟨.ref q, e1, Rep.mkL upd_same (r.mono hsm)⟩
      · have k := S.env.at_ j t e
        cases t with
        | un => trivial
        | sh d => obtain ⟨v, z, r'⟩ := k; exact ⟨v, z, r'.mono hsm⟩
        | ow es => obtain ⟨a, xs, z, ha, hfa, w1, w2, r'⟩ := k; exact ⟨a, xs, z, ha, by rw [upd_ne (qs ne e rfl z)]; exact hfa, w1, w2, r'.mono hsm⟩
        | oi kk ks es => obtain ⟨dx, xs, z, ha, hfa, w1, w2, w3, r'⟩ := k; exact ⟨dx, xs, z, ha, by rw [upd_ne (qs ne e rfl z)]; exact hfa, w1, w2, w3, r'.mono hsm⟩
        | od ks es => obtain ⟨a, ob, xs, ws, z, ha, hfa, w1, w2, w3, r'⟩ := k; exact ⟨a, ob, xs, ws, z, ha, by rw [upd_ne (qs ne e rfl z)]; exact hfa, w1, w2, w3, r'.mono hsm⟩
    · rcases set_get ea with ⟨rfl, rfl, _⟩ | ⟨n1, ea⟩
      · cases o1
      · rcases set_get eb with ⟨rfl, rfl, _⟩ | ⟨n2, eb⟩
        · cases o2
        · exact S.env.ne j k t t' h ea eb o1 o2
theorem dFrzS (i : Nat) {st : Stmt} {ms : MS} (h : DS X c st ms) : DS X c st (mFrz i ms) := h.imp fun Dn σ H ⟨F, u, ρ, S, h⟩ => by
  obtain ⟨F', sm, S'⟩ := S.frz i
  exact ⟨F', u, _, S', flowO.mono sm h⟩
end

/-! ### a def's promise -/
def startE (n : Nat) (ds : List D) : Env := ds.map Sd.sh ++ List.replicate (n - ds.length) Sd.un
def mFn (n : Nat) (mb : MS) : List D → M D := fun ds u => match mb (startE n ds) u with
  | some (.rt d, u') => some (d, u')
  | some (.nx _, u') => some (.non, u')
  | _ => none
theorem env_start {c : Cf} {F H : Hp} {N : List Str} {vs : List V} {ds : List D} (r : Reps c.W c.p F vs ds) : EnvOk c F H (L2.start N vs) (startE N.length ds) := by
  have hl := r.1
  have nown : ∀ {i : Nat} {s : Sd}, (startE N.length ds)[i]? = some s → s.own = false := fun {i s} e => by
    unfold startE at e
    by_cases hi : i < (ds.map Sd.sh).length
    · rw [List.getElem?_append_left hi, List.getElem?_map] at e
      cases q : ds[i]? with
      | none => rw [q] at e; cases e
      | some d => rw [q] at e; cases e; rfl
    · rw [List.getElem?_append_right (by omega), List.getElem?_replicate] at e
      split at e
      · cases e; rfl
      · cases e
  refine ⟨?_, fun i s e => ?_, fun i j s t _ e1 _ o1 _ => by rw [nown e1] at o1; cases o1⟩
  · unfold L2.start startE
    simp [hl]
  · unfold startE at e
    by_cases hi : i < (ds.map Sd.sh).length
    · rw [List.getElem?_append_left hi, List.getElem?_map] at e
      cases q : ds[i]? with
      | none => rw [q] at e; cases e
      | some d =>
        rw [q] at e
        cases e
        obtain ⟨v, ev, rv⟩ := r.get q
        refine ⟨v, ?_, rv⟩
        unfold L2.start
        rw [List.getElem?_append_left (by simpa [hl] using hi), List.getElem?_map, ev]
        rfl
    · rw [List.getElem?_append_right (by omega), List.getElem?_replicate] at e
      split at e
      · cases e; trivial
      · cases e
section
variable {P : Program} {w : World} {K : PySem.W.Frag} {mg : Str → Option Value} {base : Heap} {x qual : Str} {params : Arguments} {body : List Stmt} {scope : Scope} {dvs : List V} {kws : List (Str × V)} {f : Addr} {fd : FuncData} {W : Wo} {N ps : List Str} {k : Nat} {mb : MS}
/-- a def by its body's mirror -/
theorem fn_mir (F : FunD K x qual params body scope dvs kws f fd) (S : FnScope N ps scope)
    (hb : ∀ (cdv : Value) (A : Around) (outer : List PySem.Env) (s : Shared) (H : Hp) (E : XK) (p : Addr) (F0 : Hp), Room k (A.deeper (envOfC qual scope s.heap.objs.size f cdv)) → DB (cxOf CX0 P w K mg base N qual scope f cdv A outer s H E).nox ⟨W, p, F0, H, 0, noX⟩ body mb) :
    FnOk P w K mg base CX0 (k + 1) f fd ps (spM W ps.length (mFn N.length mb)) := by
  refine F.ok S (fun vs H Q E h => h.1) (fun cdv A outer s H vs Q E hr h => ?_)
  obtain ⟨hl, p, F0, u, ds, g, r, h⟩ := h
  refine ⟨_, PSs.nox (hb cdv A outer s H E p F0 hr), F0, u, startE N.length ds, ⟨Stp.refl, g, env_start r⟩, ?_⟩
  unfold mFn at h
  cases e : mb (startE N.length ds) u with
  | none => rw [e] at h; exact h
  | some y =>
    obtain ⟨fl, u1⟩ := y
    rw [e] at h
    cases fl with
    | rt d =>
      intro v F' H' s' g' rv
      have h2 : After p F0 H (some (d, u1)) (fun d _ F' H' => ∀ v, Rep W p F' v d → Q v H') := h
      exact h2 F' H' s' g' v rv
    | rl ds' => exact False.elim h
    | nx ρ' =>
      intro σ' F' H' _ S'
      have h2 : After p F0 H (some (D.non, u1)) (fun d _ F' H' => ∀ v, Rep W p F' v d → Q v H') := h
      exact h2 F' H' S'.ent S'.gd .non .non
    | bk ρ' => exact False.elim h
    | ct ρ' => exact False.elim h
    | ex ρ' k' ks' ds' => exact False.elim h
end

/-! ### calls -/
def mCall (n : Nat) (mf : List D → M D) (ms : MA) : ME := fun ρ => M.bind (ms ρ) fun ds => if ds.length = n then mf ds else lft none
section
variable {X : Cx} {c : Cf} {CX : CXT} {k n : Nat} {f : Addr} {fd : FuncData} {ps : List Str} {x m : Str} {p pos apos : Pos} {e o : Expr} {es : List Expr} {ms : MA} {mo : ME} {mf : List D → M D}
theorem call_ok {p : Addr} {F H : Hp} {u : PuS} {vs : List V} {ds : List D} {W : Wo} {Q : VK} {E : XK} (g : Gd p u F H) (r : Reps W p F vs ds) (h : After p F H ((if ds.length = n then mf ds else lft none) u) fun d _ F' H' => ∀ v, Rep W p F' v d → Q v H') : spM W n mf vs H Q E := by
  by_cases hl : ds.length = n
  · rw [if_pos hl] at h
    exact ⟨r.1.trans hl, p, F, u, ds, g, r, h⟩
  · rw [if_neg hl] at h; exact False.elim h
theorem dCall (G : FnOk X.prog X.w X.K X.mg X.base CX0 k f fd ps (spM c.W n mf)) (hr : Room k X.A) (hg : Gl X x) (hm : X.mg x = some (.ref f)) (hk : PySem.W.keepIn X.K (.ref f) = true) (hb : Binds X.K fd ps [])
    (ha : DA X c (e :: es) ms) (hdb : (x == ("__debug__" : Str)) = false := by decide) (he : starEach (e :: es) X.env = (false, eval e X.env) :: starEach es X.env := by rfl) (hpl : (backTo pos (starEach es X.env)).any (·.1) = false := by rfl) :
    DE X c (.Call (.Name x p) (e :: es) [] pos) (mCall n mf ms) :=
  (pe_call G hr hg hm hk hb .nil pass0 ha hdb he hpl).imp fun σ H Q ⟨F, u, ρ, S, h⟩ => ⟨F, u, ρ, S, (After.split h).imp fun ds u1 F1 H1 _ s1 g1 h1 vs rvs => by
    show spM c.W n mf (vs ++ []) H1 Q E0
    rw [List.append_nil]
    exact call_ok g1 rvs h1⟩
/-! ### fields, properties, methods -/
/-- the field number i of an object of the class k with the fields ks -/
def fldD (k : Str) (ks : List Str) (i : Nat) : D → Option D := fun d => match d with
  | .obj c ks' ds => if c = k ∧ ks' = ks then ds[i]? else none
  | _ => none
theorem zip_lookup {ks : List Str} {vs : List V} {i : Nat} {f : Str} {v : V} (nd : ks.Nodup) (hk : ks[i]? = some f) (hv : vs[i]? = some v) : (ks.zip vs).lookup f = some v := by
  induction ks generalizing vs i with
  | nil => cases hk
  | cons a ks ih =>
    cases vs with
    | nil => cases hv
    | cons b vs =>
      cases i with
      | zero =>
        simp at hk hv
        subst hk hv
        simp [List.lookup]
      | succ i =>
        simp at hk hv
        have hne : (f == a) = false := by
          rw [beq_eq_false_iff_ne]
          rintro rfl
          exact (List.nodup_cons.mp nd).1 (List.mem_of_getElem? hk)
        show (match f == a with | true => some b | false => (ks.zip vs).lookup f) = some v
        rw [hne]
        exact ih (List.nodup_cons.mp nd).2 hk hv
theorem zip_none {ks : List Str} {vs : List V} {f : Str} (h : f ∉ ks) : (ks.zip vs).lookup f = none := by
  induction ks generalizing vs with
  | nil => rfl
  | cons a ks ih =>
    cases vs with
    | nil => rfl
    | cons b vs =>
      have hne : (f == a) = false := by
        rw [beq_eq_false_iff_ne]
        rintro rfl
        exact h (List.mem_cons_self ..)
      show (match f == a with | true => some b | false => (ks.zip vs).lookup f) = none
      rw [hne]
      exact ih fun z => h (List.mem_cons_of_mem _ z)
theorem dFld {ck f : Str} {ks : List Str} (i : Nat) (hi : ks[i]? = some f) (nd : ks.Nodup) (hc : Cls X.K (c.W.cl ck)) (hn : NoAttr X.K (c.W.cl ck) f) (he : DE X c e mo) (hb : attributeBase e f X.env (eval e X.env) = eval e X.env := by rfl) : DE X c (.Attribute e f pos) (mUn (fldD ck ks i) mo) :=
  (pe_fld he hb).imp fun σ H Q ⟨F, u, ρ, S, h⟩ => ⟨F, u, ρ, S, (After.split h).imp fun d u1 F1 H1 _ s1 g1 h1 v rv => by
    obtain ⟨y, e1, h2⟩ := lft_some h1
    unfold fldD at e1
    split at e1
    · rename_i c' ks' ds _h
      split at e1
      · rename_i hh
        obtain ⟨rfl, rfl⟩ := hh
        obtain ⟨a, dx, vs, rfl, ha, lk, r⟩ := rv.obj_
        obtain ⟨w, ew, rw⟩ := r.get e1
        exact ⟨a, _, dx, _, w, rfl, g1.ex _ _ ha, hc, hn, zip_lookup nd hi ew, After.now g1 h2 w rw⟩
      · cases e1
    · cases e1⟩
def mSelf (k : Str) (mf : List D → M D) (mo : ME) : ME := fun ρ => M.bind (mo ρ) fun d => match d with
  | .obj c ks ds => if c = k then mf [.obj c ks ds] else lft none
  | _ => lft none
theorem dProp {ck f : Str} {pr g : Addr} (he : DE X c e mo) (hc : Cls X.K (c.W.cl ck)) (hp : PropOf X.K (c.W.cl ck) f pr g) (G : FnOk X.prog X.w X.K X.mg X.base CX0 k g fd ps (spM c.W 1 mf)) (hr : Room (k + 1) X.A) (hb : Binds X.K fd ps [])
    (hab : attributeBase e f X.env (eval e X.env) = eval e X.env := by rfl) : DE X c (.Attribute e f pos) (mSelf ck mf mo) :=
  (pe_prop he hc hp G hr hb .nil pass0 hab).imp fun σ H Q ⟨F, u, ρ, S, h⟩ => ⟨F, u, ρ, S, (After.split h).imp fun d u1 F1 H1 _ s1 g1 h1 v rv => by
    split at h1
    · rename_i c' ks' ds _h
      split at h1
      · rename_i hh
        subst hh
        obtain ⟨a, dx, vs, rfl, ha, lk, r⟩ := id rv.obj_
        exact ⟨a, dx, _, rfl, g1.ex _ _ ha, rfl, c.p, F1, u1, [_], g1, Reps.cons rv Reps.nil, h1⟩
      · exact False.elim h1
    · exact False.elim h1⟩
end
end Mi

set_option Elab.async false
set_option linter.all false
set_option maxRecDepth 100000
set_option maxHeartbeats 2000000
/-! Mi5: mirrors of operators and built-ins. -/
namespace Mi
open PySem PySem.Spec PyProof.Rows L2
variable [TB : Tabl]

section
variable {W : Wo} {p : Addr} {F H : Hp} {u : PuS}
theorem OpM.ret {Q : VK} {d : D} {o : Option D} {v : V} (g : Gd p u F H) (h : After p F H (lft o u) fun d _ F' H' => ∀ v, Rep W p F' v d → Q v H') (e : o = some d) (r : Rep W p F v d) : Q v H := by
  subst e
  exact After.now g h v r
theorem OpM.new {Q : VK} {d : D} {o : Option D} {q : Addr} {ob : HO} (g : Gd p u F H) (h : After p F H (lft o u) fun d _ F' H' => ∀ v, Rep W p F' v d → Q v H') (e : o = some d) (hq : H q = none) (r : Same F (upd F q ob) → Rep W p (upd F q ob) (.ref q) d) (no : ∀ ps, ob ≠ .tbl ps := by intro _ z; cases z) : Q (.ref q) (upd H q ob) := by
  subst e
  exact h _ _ (Stp.new g hq) (g.new hq no) _ (r (Stp.new g hq).ef)
end

/-! ### ints -/
def int2 (f : Int → Int → Option D) : D → D → Option D
  | .int a, .int b => f a b
  | _, _ => none
theorem int2_some {f : Int → Int → Option D} {a b d : D} (h : int2 f a b = some d) : ∃ i j, a = .int i ∧ b = .int j ∧ f i j = some d := by
  unfold int2 at h
  split at h
  · exact ⟨_, _, rfl, rfl, h⟩
  · cases h
/-- an operator on ints with a condition C, mirrored by the decidable condition c -/
theorem opm_I {W : Wo} {C : Int → Int → Prop} {g : Int → Int → V} {c : Int → Int → Bool} {f : Int → Int → D} (hc : ∀ i j, c i j = true → C i j) (hg : ∀ p F i j, Rep W p F (g i j) (f i j)) : OpM W (rI C g) (int2 fun i j => if c i j = true then some (f i j) else none) := by
  intro p F H u x y a b Q gd rx ry h
  obtain ⟨d, e, _⟩ := lft_some h
  obtain ⟨i, j, rfl, rfl, e2⟩ := int2_some e
  split at e2
  · rename_i hcc
    cases e2
    exact ⟨i, j, rx.int_, ry.int_, hc i j hcc, OpM.ret gd h e (hg p F i j)⟩
  · cases e2
theorem opm_I0 {W : Wo} {g : Int → Int → V} {f : Int → Int → D} (hg : ∀ p F i j, Rep W p F (g i j) (f i j)) : OpM W (rI0 g) (int2 fun i j => some (f i j)) := by
  intro p F H u x y a b Q gd rx ry h
  obtain ⟨d, e, _⟩ := lft_some h
  obtain ⟨i, j, rfl, rfl, e2⟩ := int2_some e
  cases e2
  exact ⟨i, j, rx.int_, ry.int_, OpM.ret gd h e (hg p F i j)⟩
def subD : D → D → Option D := int2 fun i j => some (.int (i - j))
def ltD : D → D → Option D := int2 fun i j => some (.bl (decide (i < j)))
def leD : D → D → Option D := int2 fun i j => some (.bl (decide (i ≤ j)))
def gtD : D → D → Option D := int2 fun i j => some (.bl (decide (j < i)))
def geD : D → D → Option D := int2 fun i j => some (.bl (decide (j ≤ i)))
def fdivC (_ j : Int) : Bool := decide (0 < j ∧ j.natAbs.log2 < 9000)
def fdivD : D → D → Option D := int2 fun i j => if fdivC i j = true then some (.int (i / j)) else none
def modD : D → D → Option D := int2 fun i j => if decide (0 < j) = true then some (.int (i % j)) else none
def powC (i j : Int) : Bool := decide (0 ≤ j ∧ j ≤ 1000000 ∧ i.natAbs < 18446744073709551616)
def powD : D → D → Option D := int2 fun i j => if powC i j = true then some (.int (i ^ j.toNat)) else none
def CMulA (i j : Int) : Prop := CMul i j ∨ CMulW i j
def mulC (i j : Int) : Bool := decide ((-(2 ^ 64) < i ∧ i < 2 ^ 64) ∨ (-(2 ^ 64) < j ∧ j < 2 ^ 64)) || decide (i.natAbs.log2 + j.natAbs.log2 < 1000000)
theorem mulC_ok {i j : Int} (h : mulC i j = true) : CMulA i j := by
  unfold mulC at h
  rcases Bool.or_eq_true_iff.mp h with h | h
  · exact .inl (of_decide_eq_true (p := (-(2 ^ 64) < i ∧ i < 2 ^ 64) ∨ (-(2 ^ 64) < j ∧ j < 2 ^ 64)) h)
  · exact .inr (of_decide_eq_true (p := i.natAbs.log2 + j.natAbs.log2 < 1000000) h)
theorem CMulA.ok {i j : Int} (h : CMulA i j) : IntMulOk i j := h.elim CMul.ok CMulW.ok
theorem op_mulB {X : Cx} : OpR X (binaryOp .Mult) (rI CMulA fun i j => .int (i * j)) := opI fun _ _ _ _ _ _ _ hc q => mul_int q hc.ok
theorem m_sub {W : Wo} : OpM W (rI0 fun i j => .int (i - j)) subD := opm_I0 fun _ _ _ _ => .int _
theorem m_lt {W : Wo} : OpM W (rI0 fun i j => .bl (decide (i < j))) ltD := opm_I0 fun _ _ _ _ => .bl _
theorem m_le {W : Wo} : OpM W (rI0 fun i j => .bl (decide (i ≤ j))) leD := opm_I0 fun _ _ _ _ => .bl _
theorem m_gt {W : Wo} : OpM W (rI0 fun i j => .bl (decide (j < i))) gtD := opm_I0 fun _ _ _ _ => .bl _
theorem m_ge {W : Wo} : OpM W (rI0 fun i j => .bl (decide (j ≤ i))) geD := opm_I0 fun _ _ _ _ => .bl _
theorem m_fdiv {W : Wo} : OpM W (rI CDivW fun i j => .int (i / j)) fdivD := opm_I (fun i j h => of_decide_eq_true (p := 0 < j ∧ j.natAbs.log2 < 9000) h) fun _ _ _ _ => .int _
theorem m_mod {W : Wo} : OpM W (rI (fun _ j => 0 < j) fun i j => .int (i % j)) modD := opm_I (fun i j h => of_decide_eq_true h) fun _ _ _ _ => .int _
theorem m_pow {W : Wo} : OpM W (rI CPow fun i j => .int (i ^ j.toNat)) powD := opm_I (fun i j h => by
  have := of_decide_eq_true h
  exact ⟨this.1, this.2.1, by have e : (2 : Nat) ^ 64 = 18446744073709551616 := by decide
                              rw [e]; exact this.2.2⟩) fun _ _ _ _ => .int _
def negD : D → Option D
  | .int i => some (.int (-i))
  | _ => none
theorem m_neg {W : Wo} : UnM W (rU fun i => .int (-i)) negD := by
  intro p F H u x a Q gd rx h
  obtain ⟨d, e, _⟩ := lft_some h
  cases a with
  | int i => cases e; exact ⟨i, rx.int_, OpM.ret gd h rfl (.int _)⟩
  | _ => cases e

/-! ### + and * -/
def addD : D → D → Option D
  | .int a, .int b => some (.int (a + b))
  | .str a, .str b => if a.length + b.length ≤ 10000000 then some (.str (a ++ b)) else none
  | .lst a, .lst b => if a.length + b.length ≤ 100000 then some (.lst (a ++ b)) else none
  | .tup a, .tup b => if a.length + b.length ≤ 100000 then some (.tup (a ++ b)) else none
  | _, _ => none
def rAddA (K : PySem.W.Frag) : R2 := fun x y H Q => rI0 (fun i j => .int (i + j)) x y H Q ∨ (∃ i j, x = .str i ∧ y = .str j ∧ i.length + j.length ≤ sizeLine ∧ Q (.str (i ++ j)) H) ∨ rCat x y H Q ∨ rCatA K x y H Q
theorem op_addA {X : Cx} : OpR X (binaryOp .Add) (rAddA X.K) := op_add.or (op_add_str.or (op_cat.or op_catA))
theorem m_add {W : Wo} : OpM W (rAddA W.K) addD := by
  intro p F H u x y a b Q gd rx ry h
  obtain ⟨d, e, _⟩ := lft_some h
  unfold addD at e
  split at e
  · cases e
    exact .inl ⟨_, _, rx.int_, ry.int_, OpM.ret gd h rfl (.int _)⟩
  · rename_i i j
    split at e
    · rename_i hl
      cases e
      exact .inr (.inl ⟨i, j, rx.str_, ry.str_, Nat.le_trans hl (by decide), OpM.ret gd h (if_pos hl) (.str _)⟩)
    · cases e
  · rename_i xs ys
    split at e
    · rename_i hl
      cases e
      obtain ⟨a, vs, rfl, ha, ra⟩ := rx.lst_
      obtain ⟨b, ws, rfl, hb, rb⟩ := ry.lst_
      exact .inr (.inr (.inl ⟨a, b, vs, ws, rfl, rfl, gd.ex _ _ ha, gd.ex _ _ hb, sz5 (by rw [ra.1, rb.1]; exact hl), fun q hq => OpM.new gd h (if_pos hl) hq fun sm => Rep.mkL upd_same ((ra.mono sm).append (rb.mono sm))⟩))
    · cases e
  · rename_i xs ys
    split at e
    · rename_i hl
      cases e
      obtain ⟨a, vs, rfl, ha, ra⟩ := id rx.tup_
      obtain ⟨b, ws, rfl, hb, rb⟩ := id ry.tup_
      refine .inr (.inr (.inr ⟨a, b, vs, ws, rfl, rfl, sq_t gd.ex ha, sq_t gd.ex hb, sz5 (by rw [ra.1, rb.1]; exact hl), fun z => ?_, fun z z2 => ?_, fun z z2 q hq => OpM.new gd h (if_pos hl) hq fun sm => Rep.mkT upd_same ((ra.mono sm).append (rb.mono sm))⟩))
      · have e0 : xs = [] := List.eq_nil_of_length_eq_zero (by rw [← ra.1, z]; rfl)
        exact OpM.ret gd h (if_pos hl) (by rw [e0]; exact ry)
      · have e0 : ys = [] := List.eq_nil_of_length_eq_zero (by rw [← rb.1, z2]; rfl)
        exact OpM.ret gd h (if_pos hl) (by rw [e0, List.append_nil]; exact rx)
    · cases e
  · cases e
theorem Reps.rep {W : Wo} {p : Addr} {F : Hp} {vs : List V} {ds : List D} (r : Reps W p F vs ds) : ∀ n : Nat, Reps W p F (List.replicate n vs).flatten (List.replicate n ds).flatten
  | 0 => Reps.nil
  | n + 1 => by
    rw [List.replicate_succ, List.replicate_succ, List.flatten_cons, List.flatten_cons]
    exact r.append (Reps.rep r n)
def mulD : D → D → Option D
  | .int a, .int b => if mulC a b = true then some (.int (a * b)) else none
  | .lst a, .int k => if k ≤ 100000 ∧ -100000 ≤ k ∧ a.length * k.toNat ≤ 100000 then some (.lst (List.replicate k.toNat a).flatten) else none
  | _, _ => none
def rMulA : R2 := fun x y H Q => rI CMulA (fun i j => .int (i * j)) x y H Q ∨ rRep x y H Q
theorem op_mulA {X : Cx} : OpR X (binaryOp .Mult) rMulA := op_mulB.or op_rep
theorem m_mul {W : Wo} : OpM W rMulA mulD := by
  intro p F H u x y a b Q gd rx ry h
  obtain ⟨d, e, _⟩ := lft_some h
  unfold mulD at e
  split at e
  · split at e
    · rename_i hc
      cases e
      exact .inl ⟨_, _, rx.int_, ry.int_, mulC_ok hc, OpM.ret gd h (if_pos hc) (.int _)⟩
    · cases e
  · rename_i xs k
    split at e
    · rename_i hl
      cases e
      obtain ⟨a, vs, rfl, ha, ra⟩ := rx.lst_
      refine .inr ⟨a, k, vs, rfl, ry.int_, gd.ex _ _ ha, by omega, by omega, sz5 (by rw [ra.1]; exact hl.2.2), fun q hq => OpM.new gd h (if_pos hl) hq fun sm => Rep.mkL upd_same ((ra.mono sm).rep _)⟩
    · cases e
  · cases e

/-! ### == and != of plain data -/
mutual
def toPD : D → Option PyData
  | .non => some .none
  | .bl b => some (.bool b)
  | .int i => some (.int i)
  | .str x => some (.str x)
  | .tup ds => (toPDs ds).map .tuple
  | .lst ds => (toPDs ds).map .list
  | _ => none
def toPDs : List D → Option (List PyData)
  | [] => some []
  | d :: ds => match toPD d, toPDs ds with
    | some a, some as => some (a :: as)
    | _, _ => none
end
mutual
theorem dp_of {W : Wo} {p : Addr} {F H : Hp} (sm : Same F H) : ∀ (d : D) (v : V) (a : PyData), Rep W p F v d → toPD d = some a → Dp W.K H v a
  | .non, v, a, r, e => by cases e; cases r; exact .non
  | .bl b, v, a, r, e => by cases e; cases r; exact .bl b
  | .int i, v, a, r, e => by cases e; cases r; exact .int i
  | .str x, v, a, r, e => by cases e; cases r; exact .str x
  | .tup ds, v, a, r, e => by
    obtain ⟨q, vs, rfl, h, rs⟩ := r.tup_
    unfold toPD at e
    cases e1 : toPDs ds with
    | none => rw [e1] at e; cases e
    | some as => rw [e1] at e; cases e; exact .tup (sq_t sm h) (dps_of sm ds vs as rs e1)
  | .lst ds, v, a, r, e => by
    obtain ⟨q, vs, rfl, h, rs⟩ := r.lst_
    unfold toPD at e
    cases e1 : toPDs ds with
    | none => rw [e1] at e; cases e
    | some as => rw [e1] at e; cases e; exact .lst (SqL.of (sm _ _ h)) (dps_of sm ds vs as rs e1)
  | .obj _ _ _, v, a, r, e => by cases e
  | .pur, v, a, r, e => by cases e
  | .ty _, v, a, r, e => by cases e
  | .cls _, v, a, r, e => by cases e
theorem dps_of {W : Wo} {p : Addr} {F H : Hp} (sm : Same F H) : ∀ (ds : List D) (vs : List V) (as : List PyData), Reps W p F vs ds → toPDs ds = some as → DpAll W.K H vs as
  | [], vs, as, r, e => by cases e; rw [r.none]; exact .nil
  | d :: ds, vs, as, r, e => by
    obtain ⟨v, vr, rfl, r1, r2⟩ := r.uncons
    unfold toPDs at e
    cases e1 : toPD d with
    | none => rw [e1] at e; cases e
    | some a =>
      cases e2 : toPDs ds with
      | none => rw [e1, e2] at e; cases e
      | some as' =>
        rw [e1, e2] at e
        cases e
        exact .cons (dp_of sm d v a r1 e1) (dps_of sm ds vr as' r2 e2)
end
def eqD : D → D → Option Bool := fun x y => match toPD x, toPD y with
  | some a, some b => if SeqAt.shaped a = true ∧ SeqAt.shaped b = true then some (PyData.eqv a b) else none
  | _, _ => none
def eqMD : D → D → Option D := fun x y => (eqD x y).map .bl
def neMD : D → D → Option D := fun x y => (eqD x y).map fun b => .bl (!b)
theorem eqD_some {W : Wo} {p : Addr} {F H : Hp} {x y : V} {a b : D} {r : Bool} (sm : Same F H) (rx : Rep W p F x a) (ry : Rep W p F y b) (e : eqD a b = some r) : ∃ d d', Dp W.K H x d ∧ Dp W.K H y d' ∧ SeqAt.shaped d = true ∧ SeqAt.shaped d' = true ∧ PyData.eqv d d' = r := by
  unfold eqD at e
  split at e
  · rename_i d d' e1 e2
    split at e
    · rename_i hs
      cases e
      exact ⟨d, d', dp_of sm a x d rx e1, dp_of sm b y d' ry e2, hs.1, hs.2, rfl⟩
    · cases e
  · cases e
theorem m_eq {W : Wo} : OpM W (rEqD W.K) eqMD := by
  intro p F H u x y a b Q gd rx ry h
  obtain ⟨d, e, _⟩ := lft_some h
  unfold eqMD at e
  cases e1 : eqD a b with
  | none => rw [e1] at e; cases e
  | some r =>
    obtain ⟨d1, d2, h1, h2, h3, h4, h5⟩ := eqD_some gd.ex rx ry e1
    refine ⟨d1, d2, h1, h2, h3, h4, ?_⟩
    rw [h5]
    exact OpM.ret gd h (by unfold eqMD; rw [e1]; rfl) (.bl r)
theorem m_ne {W : Wo} : OpM W (rNeD W.K) neMD := by
  intro p F H u x y a b Q gd rx ry h
  obtain ⟨d, e, _⟩ := lft_some h
  unfold neMD at e
  cases e1 : eqD a b with
  | none => rw [e1] at e; cases e
  | some r =>
    obtain ⟨d1, d2, h1, h2, h3, h4, h5⟩ := eqD_some gd.ex rx ry e1
    refine ⟨d1, d2, h1, h2, h3, h4, ?_⟩
    rw [h5]
    exact OpM.ret gd h (by unfold neMD; rw [e1]; rfl) (.bl !r)

/-! ### is, items, slices -/
def isNonD : D → Bool
  | .non => true
  | _ => false
def isD : D → D → Option D := fun x y => match y with
  | .non => some (.bl (isNonD x))
  | .bl b => match x with
    | .bl a => some (.bl (decide (a = b)))
    | _ => none
  | _ => none
def isntD : D → D → Option D := fun x y => match y with
  | .non => some (.bl (!isNonD x))
  | .bl b => match x with
    | .bl a => some (.bl (!decide (a = b)))
    | _ => none
  | _ => none
theorem Rep.isNon {W : Wo} {p : Addr} {F : Hp} {v : V} {d : D} (r : Rep W p F v d) : decide (v = .non) = isNonD d := by
  cases r <;> rfl
def rIsA : R2 := fun x y H Q => (y = .non ∧ Q (.bl (decide (x = .non))) H) ∨ rIsB x y H Q
def rIsntA : R2 := fun x y H Q => (y = .non ∧ Q (.bl (!decide (x = .non))) H) ∨ rNotB x y H Q
theorem op_isA {X : Cx} : OpR X (compareOp .Is) rIsA := op_isN.or op_isBl
theorem op_isntA {X : Cx} : OpR X (compareOp .IsNot) rIsntA := op_notN.or op_notBl
theorem m_is {W : Wo} : OpM W rIsA isD := by
  intro p F H u x y a b Q gd rx ry h
  obtain ⟨d, e, _⟩ := lft_some h
  unfold isD at e
  split at e
  · cases e
    exact .inl ⟨ry.non_, by rw [rx.isNon]; exact OpM.ret gd h rfl (.bl _)⟩
  · split at e
    · rename_i k l
      cases e
      exact .inr ⟨_, _, rx.bl_, ry.bl_, OpM.ret gd h rfl (.bl _)⟩
    · cases e
  · cases e
theorem m_isnt {W : Wo} : OpM W rIsntA isntD := by
  intro p F H u x y a b Q gd rx ry h
  obtain ⟨d, e, _⟩ := lft_some h
  unfold isntD at e
  split at e
  · cases e
    exact .inl ⟨ry.non_, by rw [rx.isNon]; exact OpM.ret gd h rfl (.bl _)⟩
  · split at e
    · rename_i k l
      cases e
      exact .inr ⟨_, _, rx.bl_, ry.bl_, OpM.ret gd h rfl (.bl _)⟩
    · cases e
  · cases e
def ixD : D → D → Option D
  | .lst ds, .int i => atI ds i
  | .tup ds, .int i => atI ds i
  | .scr ns, .int i => (atI ns i).map .int
  | .str x, .int i => if x.length ≤ 10000000 then (atI x.cps.toList i).map fun c => .str ⟨#[c]⟩ else none
  | _, _ => none
theorem atI_map {α β : Type} (f : α → β) (l : List α) (i : Int) : L2.atI (l.map f) i = (L2.atI l i).map f := by
  unfold L2.atI
  rw [List.length_map]
  cases ixN l.length i with
  | none => rfl
  | some n => show (l.map f)[n]? = (l[n]?).map f; rw [List.getElem?_map]
theorem Reps.atI {W : Wo} {p : Addr} {F : Hp} {vs : List V} {ds : List D} {i : Int} {d : D} (r : Reps W p F vs ds) (h : atI ds i = some d) : ∃ v, L2.atI vs i = some v ∧ Rep W p F v d := by
  unfold L2.atI at h ⊢
  rw [r.1]
  cases hj : ixN ds.length i with
  | none => rw [hj] at h; cases h
  | some n =>
    rw [hj] at h
    obtain ⟨v, ev, rv⟩ := r.get h
    exact ⟨v, ev, rv⟩
theorem m_ix {W : Wo} : OpM W (rIx W.K) ixD := by
  intro p F H u x y a b Q gd rx ry h
  obtain ⟨d, e, _⟩ := lft_some h
  unfold ixD at e
  split at e
  · obtain ⟨q, vs, rfl, hq, r⟩ := rx.lst_
    obtain ⟨v, ev, rv⟩ := r.atI e
    exact .inl ⟨q, vs, _, v, rfl, ry.int_, SqL.of (gd.ex _ _ hq), ev, OpM.ret gd h e rv⟩
  · obtain ⟨q, vs, rfl, hq, r⟩ := rx.tup_
    obtain ⟨v, ev, rv⟩ := r.atI e
    exact .inr (.inl ⟨q, vs, _, v, rfl, ry.int_, sq_t gd.ex hq, ev, OpM.ret gd h e rv⟩)
  · rename_i ns i
    obtain ⟨q, rfl, hq⟩ := rx.scr_
    cases e1 : L2.atI ns i with
    | none => rw [e1] at e; cases e
    | some n =>
      rw [e1] at e
      cases e
      exact .inl ⟨q, _, _, .int n, rfl, ry.int_, sq_l gd.ex hq, by rw [atI_map, e1]; rfl, OpM.ret gd h (show (L2.atI ns i).map D.int = some (.int n) by rw [e1]; rfl) (.int n)⟩
  · rename_i z i
    split at e
    · rename_i hl
      cases e1 : L2.atI z.cps.toList i with
      | none => rw [e1] at e; cases e
      | some k =>
        rw [e1] at e
        cases e
        exact .inr (.inr ⟨z, i, k, rx.str_, ry.int_, Nat.le_trans hl (by decide), e1, OpM.ret gd h (show (if z.length ≤ 10000000 then (L2.atI z.cps.toList i).map fun c => D.str ⟨#[c]⟩ else none) = some (.str ⟨#[k]⟩) by rw [if_pos hl, e1]; rfl) (.str _)⟩)
    · cases e
  · cases e
end Mi

set_option Elab.async false
set_option linter.all false
set_option maxRecDepth 100000
set_option maxHeartbeats 2000000
/-! Mi6: mirrors of built-ins, slices, in, isinstance. -/
namespace Mi
open PySem PySem.Spec PyProof.Rows L2
variable [TB : Tabl]

/-! ### flat data -/
/-! ### slices -/
abbrev MO := Env → M (Option Int)
def rdO (c : Cf) (m : MO) : TO := fun σ H Q => ∃ F u ρ, Sta c u F H σ ρ ∧ After c.p F H (m ρ u) fun o _ _ H' => Q o H'
def mOn : MO := fun _ => M.pure none
def mOs (m : ME) : MO := fun ρ => M.bind (m ρ) fun d => match d with
  | .int i => M.pure (some i)
  | _ => lft none
def cutD (xs : List D) (lo hi : Option Int) : List D := (xs.drop (HT.sIx xs.length 0 lo)).take (HT.sIx xs.length xs.length hi - HT.sIx xs.length 0 lo)
def slD (d : D) (lo hi : Option Int) : Option D := match d with
  | .lst ds => some (.lst (cutD ds lo hi))
  | .tup ds => some (.tup (cutD ds lo hi))
  | .scr ns => some (.lst (cutD (ns.map .int) lo hi))
  | .str x => if x.length ≤ 10000000 then some (.str (cutS x lo hi)) else none
  | _ => none
def mSl (m : ME) (ml mh : MO) : ME := fun ρ => M.bind (m ρ) fun d => M.bind (ml ρ) fun lo => M.bind (mh ρ) fun hi => lft (slD d lo hi)
theorem Reps.drop {W : Wo} {p : Addr} {F : Hp} {vs : List V} {ds : List D} (r : Reps W p F vs ds) (n : Nat) : Reps W p F (vs.drop n) (ds.drop n) :=
  ⟨by simp [r.1], fun i v d h1 h2 => r.2 (n + i) v d (by rw [List.getElem?_drop] at h1; exact h1) (by rw [List.getElem?_drop] at h2; exact h2)⟩
theorem Reps.take {W : Wo} {p : Addr} {F : Hp} {vs : List V} {ds : List D} (r : Reps W p F vs ds) (n : Nat) : Reps W p F (vs.take n) (ds.take n) := by
  refine ⟨by simp [r.1], fun i v d h1 h2 => ?_⟩
  by_cases hi : i < n
  · rw [List.getElem?_take_of_lt hi] at h1 h2
    exact r.2 i v d h1 h2
  · rw [List.getElem?_eq_none (by simp; omega)] at h1
    cases h1
theorem Reps.cut {W : Wo} {p : Addr} {F : Hp} {vs : List V} {ds : List D} (r : Reps W p F vs ds) (lo hi : Option Int) : Reps W p F (cutV vs lo hi) (cutD ds lo hi) := by
  unfold cutV cutD
  rw [r.1]
  exact (r.drop _).take _
theorem Reps.reverse {W : Wo} {p : Addr} {F : Hp} {vs : List V} {ds : List D} (r : Reps W p F vs ds) : Reps W p F vs.reverse ds.reverse := by
  refine ⟨by simp [r.1], fun i v d h1 h2 => ?_⟩
  have hi : i < vs.length := by
    have := (List.getElem?_eq_some_iff.mp h1).1
    simpa using this
  rw [List.getElem?_reverse hi] at h1
  rw [List.getElem?_reverse (by rw [← r.1]; exact hi), ← r.1] at h2
  exact r.2 _ v d h1 h2
theorem reps_ints {W : Wo} {p : Addr} {F : Hp} (ns : List Int) : Reps W p F (ns.map V.int) (ns.map D.int) := by
  induction ns with
  | nil => exact Reps.nil
  | cons n ns ih => exact Reps.cons (.int n) ih
def rSlAll (K : PySem.W.Frag) : V → Option Int → Option Int → Hp → VK → Prop := fun x lo hi H Q => rSlL K x lo hi H Q ∨ rSlA K x lo hi H Q ∨ rSlS x lo hi H Q
theorem cutD_whole {xs : List D} {lo hi : Option Int} (h : HT.sIx xs.length 0 lo = 0 ∧ HT.sIx xs.length xs.length hi = xs.length) : cutD xs lo hi = xs := by
  unfold cutD
  rw [h.1, h.2]
  simp
section
variable {X : Cx} {c : Cf} {e : Expr} {lo hi : Option Expr} {m : ME} {ml mh : MO} {pos p2 : Pos}
theorem dOn : PO X none (rdO c mOn) := by
  have h := po_none (X := X)
  exact ⟨fun pins s σ H Q I ⟨F, u, ρ, S, q⟩ => h.run pins s σ H Q I (After.now S.gd q)⟩
theorem dOs (he : DE X c e m) : PO X (some e) (rdO c (mOs m)) := by
  have h := po_some he
  refine ⟨fun pins s σ H Q I ⟨F, u, ρ, S, q⟩ => h.run pins s σ H Q I ⟨F, u, ρ, S, (After.split q).imp fun d u1 F1 H1 _ s1 g1 h1 v rv => ?_⟩⟩
  cases d with
  | int i =>
    have h2 : After c.p F1 H1 (some (some i, u1)) (fun o _ _ H' => Q o H') := h1
    exact ⟨i, rv.int_, After.now g1 h2⟩
  | _ => exact False.elim h1
theorem sl_all : SlR X (rSlAll X.K) := sl_list.or (sl_tupA.or sl_str)
theorem dSl (he : DE X c e m) (hl : PO X lo (rdO c ml)) (hh : PO X hi (rdO c mh)) (hK : X.K = c.W.K := by rfl) : DE X c (.Subscript e (.Slice lo hi none p2) pos) (mSl m ml mh) :=
  (pe_slice sl_all he hl hh).imp fun σ H Q ⟨F, u, ρ, S, h⟩ => ⟨F, u, ρ, S, (After.split h).imp fun d u1 F1 H1 _ s1 g1 h1 v rv => ⟨F1, u1, ρ, S.step s1 g1, (After.split h1).imp fun l u2 F2 H2 _ s2 g2 h2 => ⟨F2, u2, ρ, (S.step s1 g1).step s2 g2, (After.split h2).imp fun r u3 F3 H3 _ s3 g3 h3 => by
    have rv := rv.mono (s2.ef.trans s3.ef)
    obtain ⟨z, e1, _⟩ := lft_some h3
    rw [hK]
    unfold slD at e1
    split at e1
    · cases e1
      obtain ⟨a, vs, rfl, ha, ra⟩ := rv.lst_
      exact .inl ⟨a, vs, rfl, SqL.of (g3.ex _ _ ha), fun q hq => OpM.new g3 h3 rfl hq fun sm => Rep.mkL upd_same ((ra.mono sm).cut l r)⟩
    · cases e1
      obtain ⟨a, vs, rfl, ha, ra⟩ := id rv.tup_
      refine .inr (.inl ⟨a, vs, rfl, sq_t g3.ex ha, fun hw => ?_, fun _ q hq => OpM.new g3 h3 rfl hq fun sm => Rep.mkT upd_same ((ra.mono sm).cut l r)⟩)
      rw [ra.1] at hw
      exact OpM.ret g3 h3 rfl (by rw [cutD_whole hw]; exact rv)
    · rename_i ns _h _h2
      cases e1
      obtain ⟨a, rfl, ha⟩ := rv.scr_
      exact .inl ⟨a, _, rfl, sq_l g3.ex ha, fun q hq => OpM.new g3 h3 rfl hq fun sm => Rep.mkL upd_same ((reps_ints ns).cut l r)⟩
    · rename_i x _h _h2
      split at e1
      · rename_i hl
        cases e1
        exact .inr (.inr ⟨x, rv.str_, Nat.le_trans hl (by decide), OpM.ret g3 h3 (if_pos hl) (.str _)⟩)
      · cases e1
    · cases e1⟩⟩⟩
def revD : D → Option D
  | .lst ds => some (.lst ds.reverse)
  | _ => none
theorem dRevL {k : Nat} {p1 p3 : Pos} (he : DE X c e m) (hK : X.K = c.W.K := by rfl) : DE X c (.Subscript e (.Slice none none (some (.UnaryOp .USub (.Constant (.int 1) k p1) p2)) p3) pos) (mUn revD m) :=
  (pe_revL he).imp fun σ H Q ⟨F, u, ρ, S, h⟩ => ⟨F, u, ρ, S, (After.split h).imp fun d u1 F1 H1 _ s1 g1 h1 v rv => by
    obtain ⟨z, e1, _⟩ := lft_some h1
    cases d with
    | lst ds =>
      cases e1
      obtain ⟨a, vs, rfl, ha, ra⟩ := rv.lst_
      exact ⟨a, vs, rfl, SqL.of (g1.ex _ _ ha), fun q hq => OpM.new g1 h1 rfl hq fun sm => Rep.mkL upd_same (ra.mono sm).reverse⟩
    | _ => cases e1⟩
end

/-! ### built-ins -/
def lenD : List D → Option D := fun ds => match ds with
  | [.lst xs] => some (.int xs.length)
  | [.tup xs] => some (.int xs.length)
  | [.scr ns] => some (.int ns.length)
  | [.str x] => if x.length ≤ 10000000 then some (.int x.length) else none
  | _ => none
def rLenA (K : PySem.W.Frag) : List V → Hp → VK → Prop := fun xs H Q => (∃ p ys, xs = [.ref p] ∧ (SqL K H p ys ∨ SqT K H p ys) ∧ Q (.int ys.length) H) ∨ ∃ z, xs = [.str z] ∧ z.length ≤ sizeLine ∧ Q (.int z.length) H
theorem call_lenA {X : Cx} : CallR X (.builtin "len") (rLenA X.K) := call_len_seq.or call_len_str
theorem Reps.one {W : Wo} {p : Addr} {F : Hp} {vs : List V} {d : D} (r : Reps W p F vs [d]) : ∃ v, vs = [v] ∧ Rep W p F v d := by
  obtain ⟨v, vr, rfl, h, r2⟩ := r.uncons
  rw [r2.none]
  exact ⟨v, rfl, h⟩
theorem Reps.two {W : Wo} {p : Addr} {F : Hp} {vs : List V} {a b : D} (r : Reps W p F vs [a, b]) : ∃ v w, vs = [v, w] ∧ Rep W p F v a ∧ Rep W p F w b := by
  obtain ⟨v, vr, rfl, h, r2⟩ := r.uncons
  obtain ⟨w, rfl, h2⟩ := r2.one
  exact ⟨v, w, rfl, h, h2⟩
theorem m_len {W : Wo} : CallM W (rLenA W.K) lenD := by
  intro p F H u xs as Q gd r h
  obtain ⟨d, e, _⟩ := lft_some h
  unfold lenD at e
  split at e
  · cases e
    obtain ⟨v, rfl, rv⟩ := r.one
    obtain ⟨q, vs, rfl, hq, rs⟩ := rv.lst_
    exact .inl ⟨q, vs, rfl, .inl (SqL.of (gd.ex _ _ hq)), OpM.ret gd h rfl (by rw [rs.1]; exact .int _)⟩
  · cases e
    obtain ⟨v, rfl, rv⟩ := r.one
    obtain ⟨q, vs, rfl, hq, rs⟩ := rv.tup_
    exact .inl ⟨q, vs, rfl, .inr (sq_t gd.ex hq), OpM.ret gd h rfl (by rw [rs.1]; exact .int _)⟩
  · rename_i ns
    cases e
    obtain ⟨v, rfl, rv⟩ := r.one
    obtain ⟨q, rfl, hq⟩ := rv.scr_
    exact .inl ⟨q, _, rfl, .inl (sq_l gd.ex hq), OpM.ret gd h rfl (by rw [List.length_map]; exact .int _)⟩
  · rename_i x
    split at e
    · rename_i hl
      cases e
      obtain ⟨v, rfl, rv⟩ := r.one
      exact .inr ⟨x, by rw [rv.str_], Nat.le_trans hl (by decide), OpM.ret gd h (if_pos hl) (.int _)⟩
    · cases e
  · cases e
/-- ints out of data -/
def intsD : List D → Option (List Int)
  | [] => some []
  | .int i :: ds => (intsD ds).map (i :: ·)
  | _ => none
theorem intsD_rep {W : Wo} {p : Addr} {F : Hp} : ∀ {vs : List V} {ds : List D} {ns : List Int}, Reps W p F vs ds → intsD ds = some ns → vs = ns.map V.int
  | vs, [], ns, r, h => by cases h; exact r.none
  | vs, d :: ds, ns, r, h => by
    obtain ⟨v, vr, rfl, r1, r2⟩ := r.uncons
    cases d with
    | int i =>
      have h' : (intsD ds).map (i :: ·) = some ns := h
      cases e : intsD ds with
      | none => rw [e] at h'; cases h'
      | some ms =>
        rw [e] at h'
        cases h'
        rw [r1.int_, intsD_rep r2 e]
        rfl
    | _ => cases h
theorem intsD_map (ns : List Int) : intsD (ns.map D.int) = some ns := by
  induction ns with
  | nil => rfl
  | cons n ns ih => show (intsD (ns.map D.int)).map (n :: ·) = _; rw [ih]; rfl
def rSumT (K : PySem.W.Frag) : List V → Hp → VK → Prop := fun vs H Q => ∃ (a : Addr) (ns : List Int), vs = [V.ref a] ∧ SqT K H a (ns.map V.int) ∧ Q (.int ns.sum) H
theorem cr_sumT {X : Cx} (hc : X.calm = true) : CallR X (.builtin "sum") (rSumT X.K) := by
  intro pins s σ H vs us Q I r h
  obtain ⟨a, ns, rfl, hq, q⟩ := h
  obtain ⟨u1, rfl, ru⟩ := Vals.one r
  cases ru
  obtain ⟨its, rv, ht, hz⟩ := I.tuple hq
  have hi := Vals.ints rv
  obtain ⟨xs, e⟩ := hi.allInts.items
  have hn : numsOf (intItems xs).toList = ns := by rw [← e]; exact hi.numsOf
  rw [nums_intItems] at hn
  rw [e] at ht
  refine PySem.W.ktm_sumG (I.ok.hd hc) ht fun h' tk t' hk => ?_
  rw [preSum_eq, List.take_of_length_le (by simp), hn]
  exact ⟨.int ns.sum, H, I.kept (t' := tk) hk, ⟨_, rfl⟩, q⟩
def sumD : List D → Option D := fun ds => match ds with
  | [.lst xs] => (intsD xs).map fun ns => .int ns.sum
  | [.tup xs] => (intsD xs).map fun ns => .int ns.sum
  | _ => none
def rSumA (K : PySem.W.Frag) : List V → Hp → VK → Prop := fun vs H Q => rSum K vs H Q ∨ rSumT K vs H Q
theorem cr_sumA {X : Cx} (hc : X.calm = true) : CallR X (.builtin "sum") (rSumA X.K) := (cr_sum hc).or (cr_sumT hc)
theorem m_sum {W : Wo} : CallM W (rSumA W.K) sumD := by
  intro p F H u xs as Q gd r h
  obtain ⟨d, e, _⟩ := lft_some h
  unfold sumD at e
  split at e
  · rename_i ds
    obtain ⟨v, rfl, rv⟩ := r.one
    obtain ⟨q, vs, rfl, hq, rs⟩ := rv.lst_
    cases e1 : intsD ds with
    | none => rw [e1] at e; cases e
    | some ns =>
      rw [e1] at e
      cases e
      refine .inl ⟨q, ns, rfl, SqL.of (by rw [← intsD_rep rs e1]; exact gd.ex _ _ hq), OpM.ret gd h (show (intsD ds).map (fun ns => D.int ns.sum) = some (.int ns.sum) by rw [e1]; rfl) (.int _)⟩
  · rename_i ds
    obtain ⟨v, rfl, rv⟩ := r.one
    obtain ⟨q, vs, rfl, hq, rs⟩ := rv.tup_
    cases e1 : intsD ds with
    | none => rw [e1] at e; cases e
    | some ns =>
      rw [e1] at e
      cases e
      refine .inr ⟨q, ns, rfl, by rw [← intsD_rep rs e1]; exact sq_t gd.ex hq, OpM.ret gd h (show (intsD ds).map (fun ns => D.int ns.sum) = some (.int ns.sum) by rw [e1]; rfl) (.int _)⟩
  · cases e
/-- the greatest, the least of a list -/
def maxL : List Int → Int
  | [] => 0
  | [a] => a
  | a :: b :: r => max a (maxL (b :: r))
def minL : List Int → Int
  | [] => 0
  | [a] => a
  | a :: b :: r => min a (minL (b :: r))
theorem maxL_mem : ∀ {ns : List Int}, ns ≠ [] → maxL ns ∈ ns ∧ ∀ y ∈ ns, y ≤ maxL ns
  | [], h => absurd rfl h
  | [a], _ => by simp [maxL]
  | a :: b :: r, _ => by
    obtain ⟨h1, h2⟩ := maxL_mem (ns := b :: r) (by simp)
    refine ⟨?_, fun y hy => ?_⟩
    · show max a (maxL (b :: r)) ∈ a :: b :: r
      by_cases hm : a ≤ maxL (b :: r)
      · rw [Int.max_eq_right hm]; exact List.mem_cons_of_mem _ h1
      · rw [Int.max_eq_left (by omega)]; exact List.mem_cons_self ..
    · show y ≤ max a (maxL (b :: r))
      rcases List.mem_cons.mp hy with rfl | hy
      · exact Int.le_max_left ..
      · exact Int.le_trans (h2 y hy) (Int.le_max_right ..)
theorem minL_mem : ∀ {ns : List Int}, ns ≠ [] → minL ns ∈ ns ∧ ∀ y ∈ ns, minL ns ≤ y
  | [], h => absurd rfl h
  | [a], _ => by simp [minL]
  | a :: b :: r, _ => by
    obtain ⟨h1, h2⟩ := minL_mem (ns := b :: r) (by simp)
    refine ⟨?_, fun y hy => ?_⟩
    · show min a (minL (b :: r)) ∈ a :: b :: r
      by_cases hm : minL (b :: r) ≤ a
      · rw [Int.min_eq_right hm]; exact List.mem_cons_of_mem _ h1
      · rw [Int.min_eq_left (by omega)]; exact List.mem_cons_self ..
    · show min a (minL (b :: r)) ≤ y
      rcases List.mem_cons.mp hy with rfl | hy
      · exact Int.min_le_left ..
      · exact Int.le_trans (Int.min_le_right ..) (h2 y hy)
theorem maxL_is {ns : List Int} {m : Int} (h1 : m ∈ ns) (h2 : ∀ y ∈ ns, y ≤ m) : maxL ns = m := by
  have hne : ns ≠ [] := fun e => by rw [e] at h1; cases h1
  obtain ⟨h3, h4⟩ := maxL_mem hne
  have := h2 _ h3
  have := h4 _ h1
  omega
theorem minL_is {ns : List Int} {m : Int} (h1 : m ∈ ns) (h2 : ∀ y ∈ ns, m ≤ y) : minL ns = m := by
  have hne : ns ≠ [] := fun e => by rw [e] at h1; cases h1
  obtain ⟨h3, h4⟩ := minL_mem hne
  have := h2 _ h3
  have := h4 _ h1
  omega
def maxD : List D → Option D := fun ds => match ds with
  | [.lst xs] => match intsD xs with
    | some (n :: ns) => some (.int (maxL (n :: ns)))
    | _ => none
  | [.int a, .int b] => some (.int (if b > a then b else a))
  | _ => none
def minD : List D → Option D := fun ds => match ds with
  | [.lst xs] => match intsD xs with
    | some (n :: ns) => some (.int (minL (n :: ns)))
    | _ => none
  | [.int a, .int b] => some (.int (if b < a then b else a))
  | _ => none
def rMaxA (K : PySem.W.Frag) : List V → Hp → VK → Prop := fun vs H Q => rMax K vs H Q ∨ ∃ i j, vs = [.int i, .int j] ∧ Q (.int (if j > i then j else i)) H
def rMinA (K : PySem.W.Frag) : List V → Hp → VK → Prop := fun vs H Q => rMin K vs H Q ∨ ∃ i j, vs = [.int i, .int j] ∧ Q (.int (if j < i then j else i)) H
theorem cr_maxA {X : Cx} (hc : X.calm = true) : CallR X (.builtin "max") (rMaxA X.K) := (cr_max hc).or (call_max2 hc)
theorem cr_minA {X : Cx} (hc : X.calm = true) : CallR X (.builtin "min") (rMinA X.K) := (cr_min hc).or (call_min2 hc)
theorem m_max {W : Wo} : CallM W (rMaxA W.K) maxD := by
  intro p F H u xs as Q gd r h
  obtain ⟨d, e, _⟩ := lft_some h
  have e0 := e
  unfold maxD at e
  split at e
  · rename_i ds
    split at e
    · rename_i n ns e1
      cases e
      obtain ⟨v, rfl, rv⟩ := r.one
      obtain ⟨q, vs, rfl, hq, rs⟩ := rv.lst_
      refine .inl ⟨q, n :: ns, rfl, SqL.of (by rw [← intsD_rep rs e1]; exact gd.ex _ _ hq), by simp, fun m hm hle => ?_⟩
      rw [← maxL_is hm hle]
      exact OpM.ret gd h e0 (.int _)
    · cases e
  · rename_i i j
    cases e
    obtain ⟨v, w, rfl, rv, rw⟩ := r.two
    exact .inr ⟨i, j, by rw [rv.int_, rw.int_], OpM.ret gd h e0 (.int _)⟩
  · cases e
theorem m_min {W : Wo} : CallM W (rMinA W.K) minD := by
  intro p F H u xs as Q gd r h
  obtain ⟨d, e, _⟩ := lft_some h
  have e0 := e
  unfold minD at e
  split at e
  · rename_i ds
    split at e
    · rename_i n ns e1
      cases e
      obtain ⟨v, rfl, rv⟩ := r.one
      obtain ⟨q, vs, rfl, hq, rs⟩ := rv.lst_
      refine .inl ⟨q, n :: ns, rfl, SqL.of (by rw [← intsD_rep rs e1]; exact gd.ex _ _ hq), by simp, fun m hm hle => ?_⟩
      rw [← minL_is hm hle]
      exact OpM.ret gd h e0 (.int _)
    · cases e
  · rename_i i j
    cases e
    obtain ⟨v, w, rfl, rv, rw⟩ := r.two
    exact .inr ⟨i, j, by rw [rv.int_, rw.int_], OpM.ret gd h e0 (.int _)⟩
  · cases e
def blsD : List D → Option (List Bool)
  | [] => some []
  | .bl i :: ds => (blsD ds).map (i :: ·)
  | _ => none
theorem blsD_rep {W : Wo} {p : Addr} {F : Hp} : ∀ {vs : List V} {ds : List D} {ns : List Bool}, Reps W p F vs ds → blsD ds = some ns → vs = ns.map V.bl
  | vs, [], ns, r, h => by cases h; exact r.none
  | vs, d :: ds, ns, r, h => by
    obtain ⟨v, vr, rfl, r1, r2⟩ := r.uncons
    cases d with
    | bl i =>
      have h' : (blsD ds).map (i :: ·) = some ns := h
      cases e : blsD ds with
      | none => rw [e] at h'; cases h'
      | some ms =>
        rw [e] at h'
        cases h'
        rw [r1.bl_, blsD_rep r2 e]
        rfl
    | _ => cases h
theorem blsD_map (ns : List Bool) : blsD (ns.map D.bl) = some ns := by
  induction ns with
  | nil => rfl
  | cons n ns ih => show (blsD (ns.map D.bl)).map (n :: ·) = _; rw [ih]; rfl
def allD : List D → Option D := fun ds => match ds with
  | [.lst xs] => (blsD xs).map fun bs => .bl (bs.all id)
  | _ => none
def anyD : List D → Option D := fun ds => match ds with
  | [.lst xs] => (blsD xs).map fun bs => .bl (bs.any id)
  | _ => none
theorem m_all {W : Wo} : CallM W (rAll W.K) allD := by
  intro p F H u xs as Q gd r h
  obtain ⟨d, e, _⟩ := lft_some h
  have e0 := e
  unfold allD at e
  split at e
  · rename_i ds
    cases e1 : blsD ds with
    | none => rw [e1] at e; cases e
    | some bs =>
      rw [e1] at e
      cases e
      obtain ⟨v, rfl, rv⟩ := r.one
      obtain ⟨q, vs, rfl, hq, rs⟩ := rv.lst_
      exact ⟨q, bs, rfl, SqL.of (by rw [← blsD_rep rs e1]; exact gd.ex _ _ hq), OpM.ret gd h e0 (.bl _)⟩
  · cases e
theorem m_any {W : Wo} : CallM W (rAny W.K) anyD := by
  intro p F H u xs as Q gd r h
  obtain ⟨d, e, _⟩ := lft_some h
  have e0 := e
  unfold anyD at e
  split at e
  · rename_i ds
    cases e1 : blsD ds with
    | none => rw [e1] at e; cases e
    | some bs =>
      rw [e1] at e
      cases e
      obtain ⟨v, rfl, rv⟩ := r.one
      obtain ⟨q, vs, rfl, hq, rs⟩ := rv.lst_
      exact ⟨q, bs, rfl, SqL.of (by rw [← blsD_rep rs e1]; exact gd.ex _ _ hq), OpM.ret gd h e0 (.bl _)⟩
  · cases e
def absD : List D → Option D := fun ds => match ds with
  | [.int i] => some (.int (if i < 0 then -i else i))
  | _ => none
theorem m_abs {W : Wo} : CallM W (fun xs H Q => ∃ i, xs = [.int i] ∧ Q (.int (if i < 0 then -i else i)) H) absD := by
  intro p F H u xs as Q gd r h
  obtain ⟨d, e, _⟩ := lft_some h
  have e0 := e
  unfold absD at e
  split at e
  · rename_i i
    cases e
    obtain ⟨v, rfl, rv⟩ := r.one
    exact ⟨i, by rw [rv.int_], OpM.ret gd h e0 (.int _)⟩
  · cases e
/-- int(n) of an int -/
def int1D : List D → Option D := fun ds => match ds with
  | [.int i] => some (.int i)
  | _ => none
theorem m_int1 {W : Wo} : CallM W (fun xs H Q => (∃ i, xs = [.int i] ∧ Q (.int i) H) ∨ ∃ k, xs = [.bl k] ∧ Q (.int (if k then 1 else 0)) H) int1D := by
  intro p F H u xs as Q gd r h
  obtain ⟨d, e, _⟩ := lft_some h
  have e0 := e
  unfold int1D at e
  split at e
  · rename_i i
    cases e
    obtain ⟨v, rfl, rv⟩ := r.one
    exact .inl ⟨i, by rw [rv.int_], OpM.ret gd h e0 (.int _)⟩
  · cases e
def strID : List D → Option D := fun ds => match ds with
  | [.int i] => if i.natAbs.log2 < 1920 then some (.str (toString i)) else none
  | _ => none
theorem m_strI {W : Wo} : CallM W (fun xs H Q => ∃ i, xs = [.int i] ∧ i.natAbs.log2 < 1920 ∧ Q (.str (toString i)) H) strID := by
  intro p F H u xs as Q gd r h
  obtain ⟨d, e, _⟩ := lft_some h
  have e0 := e
  unfold strID at e
  split at e
  · rename_i i
    split at e
    · rename_i hl
      cases e
      obtain ⟨v, rfl, rv⟩ := r.one
      exact ⟨i, by rw [rv.int_], hl, OpM.ret gd h e0 (.str _)⟩
    · cases e
  · cases e
def tupD : List D → Option D := fun ds => match ds with
  | [.lst xs] => some (.tup xs)
  | [.tup xs] => some (.tup xs)
  | _ => none
theorem m_tup {W : Wo} : CallM W (fun xs H Q => ∃ p ys, xs = [.ref p] ∧ ((SqL W.K H p ys ∧ ∀ l, H l = none → Q (.ref l) (upd H l (.tup ys))) ∨ (SqT W.K H p ys ∧ Q (.ref p) H))) tupD := by
  intro p F H u xs as Q gd r h
  obtain ⟨d, e, _⟩ := lft_some h
  have e0 := e
  unfold tupD at e
  split at e
  · cases e
    obtain ⟨v, rfl, rv⟩ := r.one
    obtain ⟨q, vs, rfl, hq, rs⟩ := rv.lst_
    exact ⟨q, vs, rfl, .inl ⟨SqL.of (gd.ex _ _ hq), fun l hl => OpM.new gd h e0 hl fun sm => Rep.mkT upd_same (rs.mono sm)⟩⟩
  · cases e
    obtain ⟨v, rfl, rv⟩ := r.one
    obtain ⟨q, vs, rfl, hq, rs⟩ := id rv.tup_
    exact ⟨q, vs, rfl, .inr ⟨sq_t gd.ex hq, OpM.ret gd h e0 rv⟩⟩
  · cases e
def dmC (i j : Int) : Bool := decide (0 < j) && !Builtin.divisionGoesByPylong i j
def dmD : List D → Option D := fun ds => match ds with
  | [.int i, .int j] => if dmC i j = true then some (.tup [.int (i / j), .int (i % j)]) else none
  | _ => none
theorem m_dm {W : Wo} : CallM W (fun xs H Q => ∃ i j, xs = [.int i, .int j] ∧ CDivP i j ∧ ∀ p, H p = none → Q (.ref p) (upd H p (.tup [.int (i / j), .int (i % j)]))) dmD := by
  intro p F H u xs as Q gd r h
  obtain ⟨d, e, _⟩ := lft_some h
  have e0 := e
  unfold dmD at e
  split at e
  · rename_i i j
    split at e
    · rename_i hc
      cases e
      obtain ⟨v, w, rfl, rv, rw⟩ := r.two
      have hcc := Bool.and_eq_true_iff.mp (show (decide (0 < j) && !Builtin.divisionGoesByPylong i j) = true from hc)
      exact ⟨i, j, by rw [rv.int_, rw.int_], ⟨of_decide_eq_true hcc.1, by have := hcc.2; simpa using this⟩, fun l hl => OpM.new gd h e0 hl fun sm => Rep.mkT upd_same (Reps.cons (.int _) (Reps.cons (.int _) Reps.nil))⟩
    · cases e
  · cases e

/-! ### isinstance -/
def tyN : D → Option String
  | .non => some "NoneType"
  | .bl _ => some "bool"
  | .int _ => some "int"
  | .str _ => some "str"
  | .tup _ => some "tuple"
  | .lst _ => some "list"
  | .dct _ _ => some "dict"
  | _ => none
/-- what isinstance asks of the classes -/
structure IsiOk (W : Wo) : Prop where
  ty : ∀ c ∈ W.cs, ∀ (H : Hp) (a dx : Addr) (fs : List (Str × V)), H a = some (.ins (W.cl c) dx fs) → TyOf W.K H (.ref a) (.ref (W.cl c))
  own : ∀ c ∈ W.cs, ∀ k ∈ W.cs, PySem.W.kitOne W.K (.ref (W.cl c)) (.ref (W.cl k)) = some (subC c k)
  bi : ∀ a ∈ ["NoneType", "bool", "int", "str", "tuple", "list", "dict"], ∀ k ∈ W.cs, PySem.W.kitOne W.K (.type a) (.ref (W.cl k)) = some false
  ob : ∀ c ∈ W.cs, ∀ n ∈ ["int", "bool", "str", "tuple", "list"], PySem.W.kitOne W.K (.ref (W.cl c)) (.type n) = some false
def isiB (x y : D) : Option Bool := match y with
  | .ty n => match tyN x with
    | some a => if decide (n ∈ ["int", "bool", "str", "tuple", "list"]) = true then kitB a n else none
    | none => match x with
      | .obj _ _ _ => if n ∈ ["int", "bool", "str", "tuple", "list"] then some false else none
      | _ => none
  | .cls k => match tyN x with
    | some _ => some false
    | none => match x with
      | .obj c _ _ => some (subC c k)
      | _ => none
  | _ => none
def isiD : List D → Option D := fun ds => match ds with
  | [x, y] => (isiB x y).map .bl
  | _ => none
theorem tyN_mem {x : D} {a : String} (h : tyN x = some a) : a ∈ ["NoneType", "bool", "int", "str", "tuple", "list", "dict"] := by
  cases x <;> first | (cases h; decide) | cases h
theorem tyN_ty {W : Wo} {p : Addr} {F H : Hp} {v : V} {x : D} {a : String} (sm : Same F H) (r : Rep W p F v x) (h : tyN x = some a) : TyX W.K H v (.type a) := by
  cases r with
  | non => cases h; exact .base .non
  | bl b => cases h; exact .base (.bl b)
  | int i => cases h; exact .base (.int i)
  | str i => cases h; exact .base (.str i)
  | tup ht _ _ =>
    cases h
    rcases ht with (ht | ⟨o, ht⟩) | ⟨o, its, n, hk, hc, _⟩
    · exact .base (.tup (sm _ _ ht))
    · exact .fTuple (sm _ _ ht)
    · exact .kTuple hk hc
  | lst ht _ _ => cases h; exact .base (.lst (sm _ _ ht))
  | dct ht _ _ => cases h; exact .base (.dK (sm _ _ ht))
  | _ => cases h
theorem m_isi {W : Wo} (I : IsiOk W) : CallM W (rIsi W.K) isiD := by
  intro p F H u xs as Q gd r h
  obtain ⟨d, e, _⟩ := lft_some h
  have e0 := e
  unfold isiD at e
  split at e
  case h_2 => cases e
  rename_i x y
  obtain ⟨v, w, rfl, rv, rw⟩ := r.two
  cases e1 : isiB x y with
  | none => rw [e1] at e; cases e
  | some b =>
    rw [e1] at e
    cases e
    have fin : Q (.bl b) H := OpM.ret gd h e0 (.bl b)
    unfold isiB at e1
    split at e1
    · rename_i n
      have hw := rw.ty_
      subst hw
      split at e1
      · rename_i a ha
        split at e1
        · exact ⟨v, .ty n, .type a, .type n, b, rfl, .ty n, tyN_ty gd.ex rv ha, kit_ty e1, fin⟩
        · cases e1
      · split at e1
        · rename_i c ks ds _
          split at e1
          · rename_i hh
            cases e1
            have hcc := rv.objc
            obtain ⟨a, dx, vs, rfl, ha, _⟩ := rv.obj_
            exact ⟨_, .ty n, _, .type n, false, rfl, .ty n, .base (I.ty c hcc H a dx _ (gd.ex _ _ ha)), I.ob c hcc n hh, fin⟩
          · cases e1
        · cases e1
    · rename_i k
      obtain ⟨hw, hk⟩ := rw.cls_
      subst hw
      split at e1
      · rename_i a ha
        cases e1
        exact ⟨v, .ref (W.cl k), .type a, .ref (W.cl k), false, rfl, .own _, tyN_ty gd.ex rv ha, I.bi a (tyN_mem ha) k hk, fin⟩
      · split at e1
        · rename_i c ks ds _
          cases e1
          have hcc := rv.objc
          obtain ⟨a, dx, vs, rfl, ha, _⟩ := rv.obj_
          exact ⟨_, .ref (W.cl k), _, .ref (W.cl k), _, rfl, .own _, .base (I.ty c hcc H a dx _ (gd.ex _ _ ha)), I.own c hcc k hk, fin⟩
        · cases e1
    · cases e1
end Mi


set_option Elab.async false
set_option linter.all false
set_option maxRecDepth 100000
set_option maxHeartbeats 4000000
/-! Mi8: objects made, == and != by an own __eq__, len by an own __len__, static methods. -/
namespace Mi
open PySem PySem.Spec PyProof.Rows L2
variable [TB : Tabl]

/-! ### a def called from within a built-in -/
section
variable {X : Cx} {k : Nat} {f : Addr} {fd : FuncData} {ps : List Str} {sp : Sp}
theorem call_at {A : Around} {pins : List (Addr × Obj)} {σ : L2.St} {H : Hp} {s : Shared} {us : List Value} {vs : List V} {Q : VK} {E' : Value → Shared → Prop} (G : FnOk X.prog X.w X.K X.mg X.base CX0 k f fd ps sp) (hr : Room k A) (hfr : A.frames = X.A.frames) (hb : Binds X.K fd ps [])
    (I : Inv X pins σ H s) (r : Vals vs us) (h : sp vs H Q E0) : wpAny (model X.prog X.w) A (call (.ref f) us) (EP X pins σ Q) E' s := by
  have hl := G.len _ _ _ _ h
  have e0 : Env0 X.prog X.w X.K X.mg X.base A X.stack s H := by
    have e := I.env0
    exact ⟨by rw [hfr]; exact e.frames, e.mod, e.bs, e.bsz, e.funs, e.frf, e.hok, e.bare⟩
  refine wpAny_call (codeAny_mono (G.run A X.stack s H ⟨us, []⟩ us vs Q E0 hr e0 (by
    have := hb s us I.kIn (by simpa [← r.length] using hl)
    simpa using this) r h) fun r s' hq => ?_)
  cases r with
  | error e => exact False.elim hq
  | ok fl =>
    cases fl with
    | ret u => exact I.after hq
    | next => exact False.elim hq
    | brk => exact False.elim hq
    | cont => exact False.elim hq
end

/-! ### == and != of two objects of one class -/
section
variable {X : Cx} {k : Nat} {f C : Addr} {fd : FuncData} {ps : List Str} {sp : Sp}
end
section
variable {X : Cx} {c : Cf} {k : Nat} {f : Addr} {fd : FuncData} {ps : List Str} {mf : List D → M D} {ck : Str} {a b : Expr} {ma mb : ME} {pos : Pos}
/-! ### len of an object -/
end

/-! ### static methods called off the class -/
section
variable {X : Cx} {c : Cf} {k n : Nat} {C q g : Addr} {mc : Value} {sp : Sp} {fd : FuncData} {ps ks : List Str} {o e : Expr} {es : List Expr} {kws : List Keyword} {m : Str} {pos apos : Pos} {ta : TE} {t tk : TA} {pl : Sem Bool}
end

/-! ### objects made -/
def spI (W : Wo) (ck : Str) (n : Nat) (mf : List D → M (List Str × List D)) : Sp := fun vs H Q _ => vs.length = n + 1 ∧ ∃ p F u H1 x dx ws ds, vs = .ref x :: ws ∧ H1 x = none ∧ H1 dx = none ∧ dx ≠ x ∧
  H = upd (upd H1 dx (.own x)) x (.ins (W.cl ck) dx []) ∧ Gd p u F H1 ∧ Reps W p F ws ds ∧ After p F H1 (mf ds u) fun r _ F' H' => ∀ dx' vs', F' x = none → H' x = some (.ins (W.cl ck) dx' (r.1.zip vs')) → r.1.length = vs'.length → Reps W p F' vs' r.2 → Q .non H'
def startI (n : Nat) (ck : Str) (ds : List D) : Env := .oi ck [] [] :: startE (n - 1) ds
def mInit (n : Nat) (ck : Str) (mb : MS) : List D → M (List Str × List D) := fun ds u => match mb (startI n ck ds) u with
  | some (.nx ρ', u') => match (ρ'[0]? : Option Sd) with
    | some (Sd.oi k ks es) => if k = ck then some ((ks, es), u') else none
    | _ => none
  | _ => none
section
variable {P : Program} {w : World} {K : PySem.W.Frag} {mg : Str → Option Value} {base : Heap} {x qual : Str} {params : Arguments} {body : List Stmt} {scope : Scope} {dvs : List V} {kws : List (Str × V)} {f : Addr} {fd : FuncData} {W : Wo} {N ps : List Str} {k n : Nat} {mb : MS} {ck nm : Str}
theorem fn_init (F : FunD K x qual params body scope dvs kws f fd) (S : FnScope (nm :: N) ps scope) (hl : ps.length = n + 1)
    (hb : ∀ (cdv : Value) (A : Around) (outer : List PySem.Env) (s : Shared) (H : Hp) (E : XK) (p : Addr) (F0 H0 : Hp) (sf : Addr), Room k (A.deeper (envOfC qual scope s.heap.objs.size f cdv)) → DB (cxOf CX0 P w K mg base (nm :: N) qual scope f cdv A outer s H E).nox ⟨W, p, F0, H0, sf, noX⟩ body mb) :
    FnOk P w K mg base CX0 (k + 1) f fd ps (spI W ck n (mInit (N.length + 1) ck mb)) := by
  refine F.ok S (fun vs H Q E h => h.1.trans hl.symm) (fun cdv A outer s H vs Q E hr h => ?_)
  obtain ⟨hlen, p, F0, u, H1, x, dx, ws, ds, rfl, hx, hdx, hne, rfl, g, r, h⟩ := h
  have hpx : p ≠ x := fun z => g.ne (z ▸ hx)
  have hpd : p ≠ dx := fun z => g.ne (z ▸ hdx)
  have s1 : Stp p F0 H1 F0 (upd (upd H1 dx (.own x)) x (.ins (W.cl ck) dx [])) := ⟨fun _ _ e => e, fun a o _ e _ => by rw [upd_ne (ne_of_none e hx), upd_ne (ne_of_none e hdx)]; exact e, fun a ps _ e => ⟨ps, by rw [upd_ne (ne_of_none e hx), upd_ne (ne_of_none e hdx)]; exact e⟩, fun _ _ e => .inl e⟩
  have g1 : Gd p u F0 (upd (upd H1 dx (.own x)) x (.ins (W.cl ck) dx [])) := ⟨fun a o e => by rw [upd_ne (ne_of_none (g.ex a o e) hx), upd_ne (ne_of_none (g.ex a o e) hdx)]; exact g.ex a o e, by rw [upd_ne hpx, upd_ne hpd]; exact g.pu, g.off, g.nt, g.tb.ext fun b o e => by rw [upd_ne (ne_of_none e hx), upd_ne (ne_of_none e hdx)]; exact e, g.hp⟩
  have hFx : F0 x = none := g.fresh hx
  refine ⟨_, PSs.nox (hb cdv A outer s _ E p F0 H1 x hr), F0, u, startI (N.length + 1) ck ds, ⟨s1, g1, ?_⟩, ?_⟩
  · have e0 := env_start (c := ⟨W, p, F0, H1, x, noX⟩) (H := upd (upd H1 dx (.own x)) x (.ins (W.cl ck) dx [])) (N := N) r
    have es : L2.start (nm :: N) (.ref x :: ws) = some (.ref x) :: L2.start N ws := by
      unfold L2.start
      rw [List.length_cons, List.length_cons, Nat.add_sub_add_right]
      rfl
    have er : startI (N.length + 1) ck ds = .oi ck [] [] :: startE N.length ds := rfl
    rw [es, er]
    have nown : ∀ {i : Nat} {s : Sd}, (startE N.length ds)[i]? = some s → s.own = false := fun {i s} e => by
      unfold startE at e
      by_cases hi : i < (ds.map Sd.sh).length
      · rw [List.getElem?_append_left hi, List.getElem?_map] at e
        cases q : ds[i]? with
        | none => rw [q] at e; cases e
        | some d => rw [q] at e; cases e; rfl
      · rw [List.getElem?_append_right (by omega), List.getElem?_replicate] at e
        split at e
        · cases e; rfl
        · cases e
    refine ⟨by simp [e0.len], fun i t e => ?_, fun i j t t' hij e1 e2 o1 o2 => ?_⟩
    · cases i with
      | zero =>
        simp at e
        subst e
        exact ⟨dx, [], rfl, upd_same, hFx, Ne.symm hpx, hx, rfl, Reps.nil⟩
      | succ i => exact e0.at_ i t (by simpa using e)
    · cases i with
      | zero =>
        cases j with
        | zero => exact absurd rfl hij
        | succ j => rw [nown (by simpa using e2)] at o2; cases o2
      | succ i => rw [nown (by simpa using e1)] at o1; cases o1
  · unfold mInit at h
    cases e : mb (startI (N.length + 1) ck ds) u with
    | none => rw [e] at h; exact h
    | some y =>
      obtain ⟨fl, u1⟩ := y
      rw [e] at h
      cases fl with
      | nx ρ' =>
        intro σ' F' H' _ S'
        have h' : After p F0 H1 (match (ρ'[0]? : Option Sd) with
          | some (Sd.oi k ks es) => if k = ck then some ((ks, es), u1) else none
          | _ => none) fun r _ F' H' => ∀ dx' vs', F' x = none → H' x = some (.ins (W.cl ck) dx' (r.1.zip vs')) → r.1.length = vs'.length → Reps W p F' vs' r.2 → Q .non H' := h
        split at h'
        · rename_i k' ks es e0
          split at h'
          · rename_i hk
            subst hk
            obtain ⟨dx', vs', _, h2, h3, _, _, h5, h6⟩ := S'.env.at_ 0 _ e0
            exact h' F' H' S'.ent S'.gd dx' vs' h3 h2 h5 h6
          · exact False.elim h'
        · exact False.elim h'
      | _ => exact False.elim h
end
/-- self.f = e -/
def mSelfSet (i : Nat) (ck fn : Str) (m : ME) : MS := fun ρ => M.bind (m ρ) fun d => M.bind (lft (match (ρ[i]? : Option Sd) with
  | some (Sd.oi k ks es) => if k = ck ∧ fn ∉ ks ∧ ks.length < 900 then some (ks, es) else none
  | _ => none)) fun q => M.pure (.nx (ρ.set i (.oi ck (q.1 ++ [fn]) (q.2 ++ [d]))))
theorem putF_zip {fn : Str} {y : V} : ∀ {ks : List Str} {vs : List V}, fn ∉ ks → ks.length = vs.length → putF fn y (ks.zip vs) = (ks ++ [fn]).zip (vs ++ [y])
  | [], vs, _, hl => by
    have : vs = [] := List.eq_nil_of_length_eq_zero (by simpa using hl.symm)
    subst this
    rfl
  | a :: ks, [], _, hl => by simp at hl
  | a :: ks, b :: vs, h, hl => by
    show (if a = fn then _ else (a, b) :: putF fn y (ks.zip vs)) = _
    rw [if_neg (fun z => h (by simp [z])), putF_zip (fun z => h (List.mem_cons_of_mem _ z)) (by simpa using hl)]
    rfl
section
variable {X : Cx} {c : Cf} {pos p0 tp : Pos} {e : Expr} {m : ME} {ck fn x : Str}
theorem dSelfSet (i : Nat) (hc : Cls X.K (c.W.cl ck)) (hn : NoAttr X.K (c.W.cl ck) fn) (he : DE X c e m) (hN : X.N[i]? = some x := by rfl) (hv : Vis X.env.scope x := by first | exact Or.inl rfl | exact Or.inr (Or.inl rfl) | exact Or.inr (Or.inr rfl)) (hd : (x == ("__debug__" : Str)) = false := by decide)
    (hcd : (x == ("__classdict__" : Str)) = false := by decide) (hs : swapsWith e (some (.Attribute (.Name x p0) fn tp)) pos.line X.env = pure false := by rfl) : DS X c (.Assign [.Attribute (.Name x p0) fn tp] e pos) (mSelfSet i ck fn m) :=
  (ps_fld (pe_var (i := i) hN hv hd hcd) he hs).imp fun Dn σ H ⟨F, u, ρ, S, h⟩ => ⟨F, u, ρ, S, (flowO.after S h).imp fun d u1 F1 H1 _ s1 g1 h1 v rv => by
    obtain ⟨⟨ks, es⟩, e1, h2⟩ := flowO.lft h1.1 h1.2
    split at e1
    · rename_i k' ks' es' e0
      split at e1
      · rename_i hh
        obtain ⟨rfl, hf, hl⟩ := hh
        cases e1
        have S1 := h1.1
        obtain ⟨dx, vs, q1, q2, q3, q4, q5, q6, q7⟩ := id (S1.env.at_ i _ e0)
        refine ⟨.ref c.sf, q1, c.sf, _, dx, _, rfl, q2, hc, hn, by rw [List.length_zip]; omega, h2 σ F1 _ (Same.refl _) ?_⟩
        rw [putF_zip hf q6]
        have qs : ∀ {j : Nat} {t : Sd} {a : Addr}, i ≠ j → ρ[j]? = some t → t.own = true → σ[j]? = some (some (.ref a)) → a ≠ c.sf := fun {j t a} ne e2 o z h => by
          subst h
          exact S1.env.ne i j _ t ne e0 e2 rfl o (q1.trans z.symm)
        refine ⟨⟨S1.ent.ef, fun a o ha e n => ?_, fun a ps ha e => by
          obtain ⟨qs, e1⟩ := S1.ent.et a ps ha e
          exact ⟨qs, by rw [upd_ne (fun z => by rw [z, q5] at e; cases e)]; exact e1⟩, S1.ent.nw⟩, ⟨fun a o e => ?_, by rw [upd_ne (Ne.symm q4)]; exact S1.gd.pu, S1.gd.off, S1.gd.nt, tabs_overI q2 S1.gd.tb, S1.gd.hp⟩, by simpa using S1.env.len, fun j t e2 => ?_, fun j k t t' h e1 e2 o1 o2 => ?_⟩
        · rw [upd_ne (fun z => by rw [z, q5] at e; cases e)]; exact S1.ent.eh a o ha e n
        · rw [upd_ne (fun z => by rw [z, q3] at e; cases e)]; exact S1.gd.ex a o e
        · rcases set_get e2 with ⟨rfl, rfl, _⟩ | ⟨ne, e2⟩
          · exact ⟨dx, vs ++ [v], q1, upd_same, q3, q4, q5, by simp [q6], q7.append (Reps.cons rv Reps.nil)⟩
          · have k := S1.env.at_ j t e2
            cases t with
            | un => trivial
            | sh d => exact k
            | ow ds' => obtain ⟨a, xs, z, ha, rest⟩ := k; exact ⟨a, xs, z, by rw [upd_ne (qs ne e2 rfl z)]; exact ha, rest⟩
            | oi kk ks' ds' => obtain ⟨dx', xs, z, ha, rest⟩ := k; exact absurd rfl (qs ne e2 rfl z)
            | od ks' ds' => obtain ⟨a, ob, xs, ws, z, ha, rest⟩ := k; exact ⟨a, ob, xs, ws, z, by rw [upd_ne (qs ne e2 rfl z)]; exact ha, rest⟩
        · have back : ∀ {m : Nat} {y : Sd}, (ρ.set i (Sd.oi k' (ks ++ [fn]) (es ++ [d])))[m]? = some y → y.own = true → ∃ y', ρ[m]? = some y' ∧ y'.own = true := fun {m y} z o => by
            rcases set_get z with ⟨rfl, rfl, _⟩ | ⟨_, z⟩
            · exact ⟨_, e0, rfl⟩
            · exact ⟨y, z, o⟩
          obtain ⟨y1, z1, p1⟩ := back e1 o1
          obtain ⟨y2, z2, p2⟩ := back e2 o2
          exact S1.env.ne j k y1 y2 h z1 z2 p1 p2
      · cases e1
    · cases e1⟩
end
/-- C(e, ..) -/
def mMake (ck : Str) (n : Nat) (mf : List D → M (List Str × List D)) (ms : MA) : ME := fun ρ => M.bind (ms ρ) fun ds => if ds.length = n then M.bind (mf ds) fun r => M.pure (.obj ck r.1 r.2) else lft none
section
variable {X : Cx} {c : Cf} {k n : Nat} {f : Addr} {fd : FuncData} {ps : List Str} {x ck : Str} {p pos : Pos} {e : Expr} {es : List Expr} {ms : MA} {mf : List D → M (List Str × List D)}
theorem make_ok {p : Addr} {F1 H1 : Hp} {u1 : PuS} {vs : List V} {ds : List D} {W : Wo} {Q : VK} (hc : ck ∈ W.cs) (g1 : Gd p u1 F1 H1) (rvs : Reps W p F1 vs ds) (h1 : After p F1 H1 ((if ds.length = n then M.bind (mf ds) fun r => M.pure (D.obj ck r.1 r.2) else lft none) u1) fun d _ F' H' => ∀ v, Rep W p F' v d → Q v H')
    (a dx : Addr) (ha : H1 a = none) (hdx : H1 dx = none) (hne : dx ≠ a) : spI W ck n mf (.ref a :: vs) (upd (upd H1 dx (.own a)) a (.ins (W.cl ck) dx [])) (fun v H2 => v = .non ∧ Q (.ref a) H2) E0 := by
  split at h1
  · rename_i hl
    refine ⟨by simp [rvs.1, hl], p, F1, u1, H1, a, dx, vs, ds, rfl, ha, hdx, hne, rfl, g1, rvs, ?_⟩
    unfold M.bind at h1
    cases e1 : mf ds u1 with
    | none => rw [e1] at h1; exact h1
    | some y =>
      obtain ⟨r, u2⟩ := y
      rw [e1] at h1
      have h2 : After p F1 H1 (some (D.obj ck r.1 r.2, u2)) fun d _ F' H' => ∀ v, Rep W p F' v d → Q v H' := h1
      intro F' H' s' g' dx' vs' hF hH hlk hr
      have hsm : Same F' (upd F' a (.ins (W.cl ck) dx' (r.1.zip vs'))) := fun b o e => by rw [upd_ne (fun z => by rw [z, hF] at e; cases e)]; exact e
      have hpa : p ≠ a := fun z => g1.ne (z ▸ ha)
      refine ⟨rfl, h2 (upd F' a (.ins (W.cl ck) dx' (r.1.zip vs'))) H' ⟨s'.ef.trans hsm, s'.eh, s'.et, fun b o e => ?_⟩ ⟨fun b o e => ?_, g'.pu, fun l e => by rw [upd_ne hpa]; exact g'.off l e, nt_upd g'.nt (by intro _ z; cases z), g'.tb, g'.hp⟩ (.ref a) (.obj hc upd_same hlk hr.1 fun i v d x y => (hr.2 i v d x y).mono hsm)⟩
      · by_cases hb : b = a
        · subst hb; exact .inr ha
        · rw [upd_ne hb] at e; exact s'.nw b o e
      · by_cases hb : b = a
        · subst hb; rw [upd_same] at e; cases e; exact hH
        · rw [upd_ne hb] at e; exact g'.ex b o e
  · exact False.elim h1
theorem dMake (hc : ck ∈ c.W.cs) (Mk' : Mk X.K (c.W.cl ck) f) (G : FnOk X.prog X.w X.K X.mg X.base CX0 k f fd ps (spI c.W ck n mf)) (hr : Room (k + 1) X.A) (hg : Gl X x) (hm : X.mg x = some (.ref (c.W.cl ck))) (hb : Binds X.K fd ps [])
    (ha : DA X c (e :: es) ms) (hdb : (x == ("__debug__" : Str)) = false := by decide) (he : starEach (e :: es) X.env = (false, eval e X.env) :: starEach es X.env := by rfl) (hpl : (backTo pos (starEach es X.env)).any (·.1) = false := by rfl) :
    DE X c (.Call (.Name x p) (e :: es) [] pos) (mMake ck n mf ms) :=
  (pe_make Mk' G hr hg hm hb .nil pass0 ha hdb he hpl).imp fun σ H Q ⟨F, u, ρ, S, h⟩ => ⟨F, u, ρ, S, (After.split h).imp fun ds u1 F1 H1 _ s1 g1 h1 vs rvs => by
    intro a dx ha hdx hne
    show spI c.W ck n mf (.ref a :: (vs ++ [])) _ _ _
    rw [List.append_nil]
    exact make_ok hc g1 rvs h1 a dx ha hdx hne⟩
end
end Mi

set_option Elab.async false
set_option linter.all false
set_option maxRecDepth 100000
set_option maxHeartbeats 4000000
/-! Mi9: enumerate and zip of tuples. -/
namespace PySem
theorem mi_meets_enum1 {v : Value} {o : Obj} {H : Heap → Prop} (B : Begins v o H) :
    Meets (Builtin.«enumerate.__new__» ⟨[.type "enumerate", v], []⟩) (fun _ R s => H s.heap ∧
      R (.ok (.ret (.ref (s.heap.push o).objs.size))) { s with heap := (s.heap.push o).push { cls := .type "enumerate", data := .fields #[.none, .bool false, .ref s.heap.objs.size, rawInt 0, .none, .none] } }) :=
  .of_wp fun prog w A R s h => by
    obtain ⟨hp, g, d, tk, os⟩ := s; obtain ⟨h1, h⟩ := h
    have hsub := sub_enumerate
    have q1 : ∀ {A' : Around} {E : Value → Shared → Prop} {Q : Value → Shared → Prop}, Q (.ref hp.objs.size) ⟨hp.push o, g, d, tk, os⟩ → wpAny (model prog w) A' (pyIter v) Q E ⟨hp, g, d, tk, os⟩ :=
      fun q => B.iter prog w _ _ ⟨hp, g, d, tk, os⟩ _ h1 q
    wp_walk using q1
    refine wpAny_stack_any fun st => wpAny_pure ?_
    split
    · rename_i c _ _ _ _ _
      cases (c == Value.type "enumerate")
      · wp_walk using q1
        exact ⟨_, rfl, h⟩
      · wp_walk using q1
        exact ⟨_, rfl, h⟩
    · wp_walk using q1
      exact ⟨_, rfl, h⟩
theorem mi_enum_begins1 {prog : Program} {w : World} {A : Around} {E : Value → Shared → Prop} {s : Shared} {v : Value} {o : Obj} {H : Heap → Prop} {Q : Value → Shared → Prop} (B : Begins v o H) (h1 : H s.heap)
    (h : ∀ h', IsEnum h' (s.heap.objs.size + 1) s.heap.objs.size 0 .none → h'.get? s.heap.objs.size = some o → h'.objs.size = s.heap.objs.size + 2 →
      (∀ b o, s.heap.get? b = some o → h'.get? b = some o) → Q (.ref (s.heap.objs.size + 1)) { s with heap := h' }) :
    wpAny (model prog w) A (call (.type "enumerate") [v]) Q E s := by
  refine callType_new F.called_enumerate (by decide) (F.typeCall_enumerate_1 _) (F.newCall_enumerate_1 _) (fun obj => F.args_object_init_2 obj _) F.entry_enumerate_new
    (mi_meets_enum1 B) ⟨h1, ?_⟩
  have hz : (s.heap.push o).objs.size = s.heap.objs.size + 1 := Heap.size_push ..
  show _ ∧ _
  rw [hz]
  have he : IsEnum ((s.heap.push o).push { cls := .type "enumerate", data := .fields #[.none, .bool false, .ref s.heap.objs.size, rawInt 0, .none, .none] }) (s.heap.objs.size + 1) s.heap.objs.size 0 .none := by
    have := Heap.get?_push_size (s.heap.push o) (o := { cls := .type "enumerate", data := .fields #[.none, .bool false, .ref s.heap.objs.size, rawInt 0, .none, .none] }) rfl
    rw [hz] at this; exact this
  refine ⟨⟨_, he, rfl⟩, h _ he (Heap.get?_push_of_some _ (Heap.get?_push_size _ B.free)) (by rw [Heap.size_push, hz]) fun b o x => Heap.get?_push_of_some _ (Heap.get?_push_of_some _ x)⟩
end PySem

namespace Mi
open PySem PySem.Spec PyProof.Rows L2
variable [TB : Tabl]
/-- the tuple at a, each item in a new pair -/
def IteT (K : PySem.W.Frag) (a : Addr) : It :=
  ⟨fun i H => ∃ (xs : List V) (x : V), SqT K H a xs ∧ xs[i]? = some x, fun i H v H' => ∃ T x, v = .ref T ∧ H T = none ∧ H' = upd H T (.tup [.int (i : Nat), x]) ∧ ∀ xs, SqT K H a xs → xs[i]? = some x, fun i H => ∃ xs : List V, SqT K H a xs ∧ xs.length ≤ i⟩
theorem turn_enumT {P : Program} {w : World} {K : PySem.W.Frag} {elts : List Expr} {kk : Nat} {tpos : Pos} (a e it : Addr) (hai : a ≠ it) (hae : a ≠ e) :
    Turn P w K (.Tuple elts kk tpos) (IteT K a) [e, it] e (fun i h => (∃ old, IsEnum h e it ((i : Nat) : Int) old) ∧ h.IsTupleIter it a i ∧ e ≠ it) where
  mem := by simp
  obj := fun i h st b hb => by
    obtain ⟨⟨old, he⟩, ⟨o, ho, hc, hd⟩, _⟩ := st
    have e' : b = e ∨ b = it := by simpa using hb
    rcases e' with z | z
    · rw [z]; exact ⟨_, he, fun v q => nomatch q⟩
    · rw [z]; exact ⟨o, ho, fun v q => by rw [hd] at q; cases q⟩
  keep := fun i h h' st k => let ⟨⟨old, he⟩, hi, hne⟩ := st; ⟨⟨old, k e (by simp) _ he⟩, hi.at fun o q => k it (by simp) o q, hne⟩
  item := by
    intro X hP hw hK hc i pins s σ H E I hf st hg
    subst hP hw hK
    obtain ⟨⟨old, he⟩, hit, hne⟩ := st
    obtain ⟨xs, x, hq, hx⟩ := hg
    obtain ⟨its, rv, p, hz⟩ := I.tuple hq
    obtain ⟨u, hu, ru⟩ := rv.get hx
    have hel : e < s.heap.objs.size := Heap.lt_size he
    have hil : it < s.heap.objs.size := by obtain ⟨_, q, _⟩ := hit; exact Heap.lt_size q
    have hlt : i < its.toArray.size := by
      have := (List.getElem?_eq_some_iff.mp hu).1
      simpa using this
    have hnf : e ∉ [it, a] := by simp [hne, Ne.symm hae]
    refine wpAny_pyNext_enum_itemD (Draws.tuple (A := X.A.in1) (I.ok.hd hc) it a hai its.toArray) he ⟨hit, p⟩ hlt hne hnf fun x' h' tk hP ho hst' hT hsz hk => ?_
    have ex : x' = u := by
      have e1 : its[i]? = some x' := by simpa using hP
      rw [hu] at e1
      exact (Option.some.inj e1).symm
    subst ex
    refine ⟨_, rfl, wpAny_letOwnedTupleGo_enum (s := { s with heap := h', toks := tk + 1 }) ho fun h'' he' sb => ?_⟩
    have hT2 : h''.get? s.heap.objs.size = some { cls := .type "tuple", data := .seq #[.int i tk, x'] } := (sb.2 _ (Nat.ne_of_gt hel)).trans hT
    have new : ObjOk X.prog X.w (upd H s.heap.objs.size (.tup [.int (i : Nat), x])) h'' s.heap.objs.size (.tup [.int (i : Nat), x]) :=
      ⟨by show 2 ≤ sizeLine; decide, [.int i tk, x'], .cons ⟨_, rfl⟩ (.cons ru .nil), ⟨_, hT2, rfl, _, rfl⟩⟩
    have I1 : Inv X pins σ (upd H s.heap.objs.size (.tup [.int (i : Nat), x])) { s with heap := h'', toks := tk + 1 } :=
      I.turnedNew (ch := [e, it]) (fun b ob hb q => (sb.2 b (fun z => hb (by simp [z]))).trans (hk b ob (fun z => hb (by simp [z])) (fun z => hb (by simp [z])) q)) hf (Nat.le_refl _) new
    refine ⟨.ref s.heap.objs.size, _, I1, rfl, ⟨_, x, rfl, I.hok.fresh (Nat.le_refl _), rfl, fun ys hy => by rw [I.tuple_inj hy hq]; exact hx⟩, ⟨⟨x', ?_⟩, hst'.1.at fun o q => (sb.2 it (Ne.symm hne)).trans q, hne⟩, fun b hb => ?_⟩
    · have e1 : ((i + 1 : Nat) : Int) = (i : Int) + 1 := by omega
      rw [e1]; exact he'
    · have hb' : b < s.heap.objs.size := by
        have e' : b = e ∨ b = it := by simpa using hb
        rcases e' with z | z
        · rw [z]; exact hel
        · rw [z]; exact hil
      rw [upd_ne (Nat.ne_of_lt hb')]
      exact (hf b hb).1
  done := by
    intro X hP hw hK hc i pins s σ H E I hf st hg
    subst hP hw hK
    obtain ⟨⟨old, he⟩, hit, hne⟩ := st
    obtain ⟨xs, hq, hx⟩ := hg
    obtain ⟨its, rv, p, hz⟩ := I.tuple hq
    obtain ⟨f0, f1, f2, f3, f4, f5⟩ := hf it (by simp)
    have hl := rv.length
    have hT : s.TypeIs (.ref e) "enumerate" := ⟨_, he, rfl⟩
    unfold pyNext
    refine wpAny_bind (wpAny_attempt (wpAny_callSpecial?_slot (name := Str.ofString "__next__") hT F.slot_enumerate_next
      (wpAny_call_entry F.slot_enumerate_next hT F.entry_enumerate_next ?_ (F.args_enumerate_next_1 _))))
    show wpAny _ _ (field (.ref e) 2 >>= _) _ _ _
    refine wpAny_bind (wpAny_field he rfl (x := .ref it) rfl ?_)
    refine wpAny_bind (wpAny_nextOf_tuple_end (I.ok.hd hc) hit p (by simp; omega) fun h' x' he' hx' => ?_)
    obtain ⟨o, ho, hcc⟩ := hx'
    refine wpAny_bind (wpAny_isInstance (T := "StopIteration") (b := true) ⟨o, ho, hcc⟩ isSubtype_stop ?_)
    exact wpAny_pure ⟨rfl, I.turned (t' := s.toks) (fun b o hb q => he' b o hb q) f0 f1 f3 f4 f5⟩
  self := fun A i s Q E st h => let ⟨⟨_, he⟩, _⟩ := st; wpAny_pyIter_enum he h
def iEnumT (K : PySem.W.Frag) (ta : TA) : TI := fun σ H R => ta σ H fun vs H1 => ∃ a xs, vs = [.ref a] ∧ SqT K H1 a xs ∧ R (IteT K a) H1
theorem pi_enumT {X : Cx} {e : Expr} {ta : TA} {p pos tpos : Pos} {elts : List Expr} {kk : Nat} (hg : Gl X "enumerate") (hm : X.mg "enumerate" = none) (ha : PA X [e] ta) (hs : starEach [e] X.env = [(false, eval e X.env)] := by rfl) :
    PI X (.Tuple elts kk tpos) (.Call (.Name "enumerate" p) [e] [] pos) (iEnumT X.K ta) := by
  refine ⟨fun pins s σ H R I h => ?_⟩
  refine Call_ (ld_blt I hg hm boot_enumerate (PyProof.Rows.callWith_type1 (thn (ha.run pos pins s σ H _ I h) fun us s1 ⟨vs, H1, I1, r1, q1⟩ => ?_) hs rfl))
  obtain ⟨a, xs, ex, hq, q⟩ := q1
  subst ex
  cases r1 with
  | cons r rr =>
    cases rr
    cases r
    obtain ⟨its, rv, p', hz⟩ := I1.tuple hq
    have la : a < s1.heap.objs.size := p'.lt
    refine mi_enum_begins1 (begins_tuple a its.toArray) p' fun h' he hit hsz hk => wpAny_pyIter_enum he ?_
    have I2 : Inv X pins σ H1 { s1 with heap := h' } := I1.kept (t' := s1.toks) hk
    refine ⟨s1.heap.objs.size + 1, [s1.heap.objs.size + 1, s1.heap.objs.size], _, _, H1, rfl, I2, turn_enumT a (s1.heap.objs.size + 1) s1.heap.objs.size (Nat.ne_of_lt la) (Nat.ne_of_lt (Nat.lt_succ_of_lt la)), ⟨⟨.none, he⟩, ⟨_, hit, rfl, rfl⟩, Nat.succ_ne_self _⟩, fun b hb => ?_, q⟩
    have e' : b = s1.heap.objs.size + 1 ∨ b = s1.heap.objs.size := by simpa using hb
    have hle : s1.heap.objs.size ≤ b := by
      rcases e' with z | z
      · rw [z]; exact Nat.le_add_right _ _
      · rw [z]; exact Nat.le_refl _
    exact I1.fpOk hle (I1.hok.fresh hle)
theorem walk_enumT {K : PySem.W.Frag} {a : Addr} {xs : List V} : Walk (IteT K a) xs.length (fun H => SqT K H a xs) (YPair (fun i => some (.int (i : Nat))) (fun i => xs[i]?)) := by
  refine ⟨fun i _ hi q => ⟨xs, xs[i], q, by simp [hi]⟩, fun _ q => ⟨xs, q, Nat.le_refl _⟩, fun i H v H' _ q y => ?_⟩
  obtain ⟨T, x, h1, h2, h3, h4⟩ := y
  exact ⟨T, .int (i : Nat), x, h1, h2, h3, rfl, h4 xs q⟩
def enumT1 : List D → Option (List D) := fun ds => match ds with
  | [.tup xs] => some (enumD xs)
  | _ => none
section
variable {X : Cx} {c : Cf} {a b : Expr} {ms : MA} {pos q tpos : Pos} {elts : List Expr} {kk : Nat}
theorem dIenumT (hg : Gl X "enumerate") (hm : X.mg "enumerate" = none) (ha : DA X c [a] ms) (hs : starEach [a] X.env = [(false, eval a X.env)] := by rfl) (hK : X.K = c.W.K := by rfl) :
    DI X c (.Tuple elts kk tpos) (.Call (.Name "enumerate" q) [a] [] pos) (mIof enumT1 ms) :=
  (pi_enumT hg hm ha hs).imp fun σ H R ⟨F, u, ρ, S, h⟩ => ⟨F, u, ρ, S, (After.split h).imp fun ds u1 F1 H1 _ s1 g1 h1 vs rv => by
    obtain ⟨es, e1, h2⟩ := lft_some h1
    unfold enumT1 at e1
    split at e1
    · rename_i xs _h
      cases e1
      obtain ⟨v, vr, rfl, r1, r2⟩ := rv.uncons
      rw [r2.none]
      obtain ⟨p1, v1, rfl, f1, q1⟩ := r1.tup_
      refine ⟨p1, v1, rfl, by rw [hK]; exact sq_t g1.ex f1, After.now g1 h2 _ ?_⟩
      rw [hK]
      refine walkD_pair (n := v1.length) (by rw [enumD_len, q1.1]) walk_enumT (fun H e => sq_t e f1) fun i x y d hx hy hd => ?_
      obtain ⟨y', e2, rfl⟩ := enumD_at hd
      cases hx
      exact ⟨_, y', rfl, .int _, q1.2 i y y' hy e2⟩
    · cases e1⟩
end
end Mi

set_option Elab.async false
set_option linter.all false
set_option maxRecDepth 100000
set_option maxHeartbeats 4000000
/-! MiA: parallel assignment with fresh lists, keyword calls, fresh slices. -/
namespace Mi
open PySem PySem.Spec PyProof.Rows L2
variable [TB : Tabl]

/-! ### lists of values, some of them fresh lists -/
abbrev MM := Env → M (List Sd)
structure Mats (W : Wo) (p : Addr) (F H H00 : Hp) (vs : List V) (sds : List Sd) : Prop where
  len : vs.length = sds.length
  at_ : ∀ (i : Nat) (v : V) (sd : Sd), vs[i]? = some v → sds[i]? = some sd → match sd with
    | .sh d => Rep W p F v d
    | .ow ds => ∃ q ws, v = .ref q ∧ H q = some (.lst ws) ∧ F q = none ∧ H00 q = none ∧ Reps W p F ws ds
    | _ => False
  ne : ∀ (i j : Nat) (s t : Sd), i ≠ j → sds[i]? = some s → sds[j]? = some t → s.own = true → t.own = true → vs[i]? ≠ vs[j]?
def rdM (c : Cf) (m : MM) : TA := fun σ H Q => ∃ F u ρ, Sta c u F H σ ρ ∧ After c.p F H (m ρ u) fun sds _ F' H' => ∀ vs, Mats c.W c.p F' H' H vs sds → Q vs H'
abbrev DM (X : Cx) (c : Cf) (es : List Expr) (m : MM) : Prop := PA X es (rdM c m)
def mMnil : MM := fun _ => M.pure []
def mMsh (m : ME) (ms : MM) : MM := fun ρ => M.bind (m ρ) fun d => M.bind (ms ρ) fun ds => M.pure (.sh d :: ds)
def mMow (m : MA) (ms : MM) : MM := fun ρ => M.bind (m ρ) fun d => M.bind (ms ρ) fun ds => M.pure (.ow d :: ds)
section
variable {X : Cx} {c : Cf} {pos : Pos} {e a b : Expr} {es : List Expr} {m : ME} {ml : MA} {ms : MM}
theorem dMnil : DM X c [] mMnil := pa_nil.imp fun σ H Q ⟨F, u, ρ, S, h⟩ => After.now S.gd h [] ⟨rfl, fun i v sd a _ => by simp at a, fun i j s t _ a _ => by simp at a⟩
theorem dMsh (ha : DE X c e m) (hr : DM X c es ms) (hs : starEach (e :: es) X.env = (false, eval e X.env) :: starEach es X.env := by rfl) : DM X c (e :: es) (mMsh m ms) :=
  (pa_cons ha hr hs).imp fun σ H Q ⟨F, u, ρ, S, h⟩ => ⟨F, u, ρ, S, (After.split h).imp fun d u1 F1 H1 _ s1 g1 h1 v rv => ⟨F1, u1, ρ, S.step s1 g1, (After.split h1).imp fun ds u2 F2 H2 _ s2 g2 h2 vs R => by
    refine After.now (p := c.p) (F := F2) (H := H2) (u := u2) g2 h2 (v :: vs) ⟨by simp [R.len], fun i w sd ea eb => ?_, fun i j s t hij ea eb o1 o2 => ?_⟩
    · cases i with
      | zero => simp at ea eb; subst ea; subst eb; exact rv.mono s2.ef
      | succ i =>
        simp at ea eb
        have := R.at_ i w sd ea eb
        cases sd with
        | sh d => exact this
        | ow ds => obtain ⟨q, ws, h1, h2, h3, h4, h5⟩ := this; exact ⟨q, ws, h1, h2, h3, s1.back g1.ne h4, h5⟩
        | _ => exact this
    · cases i with
      | zero => simp at ea; subst ea; cases o1
      | succ i =>
        cases j with
        | zero => simp at eb; subst eb; cases o2
        | succ j => simp at ea eb ⊢; exact R.ne i j s t (fun z => hij (by rw [z])) ea eb o1 o2⟩⟩
theorem dMow (ha : DL X c e ml) (hr : DM X c es ms) (hs : starEach (e :: es) X.env = (false, eval e X.env) :: starEach es X.env := by rfl) : DM X c (e :: es) (mMow ml ms) :=
  (pa_cons ha hr hs).imp fun σ H Q ⟨F, u, ρ, S, h⟩ => ⟨F, u, ρ, S, (After.split h).imp fun d u1 F1 H1 _ s1 g1 h1 q ws hF hn hq rw => ⟨F1, u1, ρ, S.step s1 g1, (After.split h1).imp fun ds u2 F2 H2 _ s2 g2 h2 vs R => by
    have hqp : q ≠ c.p := fun z => S.gd.ne (z ▸ hn)
    have hfar : ∀ (j : Nat) (t : Sd), ds[j]? = some t → t.own = true → vs[j]? ≠ some (.ref q) := fun j t ej o z => by
      have := R.at_ j _ t z ej
      cases t with
      | ow es' =>
        obtain ⟨q', ws', e1, _, _, e4, _⟩ := this
        cases e1
        rw [hq] at e4
        cases e4
      | oi _ _ _ => exact this
      | od _ _ => exact this
      | _ => cases o
    refine After.now (p := c.p) (F := F2) (H := H2) (u := u2) g2 h2 (.ref q :: vs) ⟨by simp [R.len], fun i w sd ea eb => ?_, fun i j s t hij ea eb o1 o2 => ?_⟩
    · cases i with
      | zero => simp at ea eb; subst ea; subst eb; exact ⟨q, ws, rfl, s2.eh q _ hqp hq (.inr (by intro _ z; cases z)), s2.off hF (by rw [hq]; simp), hn, rw.mono s2.ef⟩
      | succ i =>
        simp at ea eb
        have := R.at_ i w sd ea eb
        cases sd with
        | sh d => exact this
        | ow ds => obtain ⟨q, ws, h1, h2, h3, h4, h5⟩ := this; exact ⟨q, ws, h1, h2, h3, s1.back g1.ne h4, h5⟩
        | _ => exact this
    · cases i with
      | zero =>
        cases j with
        | zero => exact absurd rfl hij
        | succ j => simp at eb ⊢; exact fun z => hfar j t eb o2 z.symm
      | succ i =>
        cases j with
        | zero => simp at ea ⊢; exact fun z => hfar i s ea o1 z
        | succ j => simp at ea eb ⊢; exact R.ne i j s t (fun z => hij (by rw [z])) ea eb o1 o2⟩⟩
end
section
variable {c : Cf} {u : PuS} {F H : Hp} {σ : L2.St} {ρ : Env}
theorem Sta.setS {i : Nat} {v : V} {sd : Sd} (S : Sta c u F H σ ρ) (ok : SdOk c F H (some (some v)) sd) (far : sd.own = true → ∀ (j : Nat) (t : Sd), j ≠ i → ρ[j]? = some t → t.own = true → σ[j]? ≠ some (some v)) : Sta c u F H (σ.set i (some v)) (ρ.set i sd) := by
  refine ⟨S.ent, S.gd, by simpa using S.env.len, fun j t e => ?_, fun j k s t hjk e1 e2 o1 o2 => ?_⟩
  · rcases set_get e with ⟨rfl, rfl, hl⟩ | ⟨ne, e⟩
    · rw [List.getElem?_set_self (by rw [S.env.len]; exact hl)]; exact ok
    · rw [List.getElem?_set_ne ne]; exact S.env.at_ j t e
  · rcases set_get e1 with ⟨rfl, rfl, hl⟩ | ⟨n1, e1b⟩
    · rcases set_get e2 with ⟨h, _, _⟩ | ⟨n2, e2⟩
      · exact absurd h hjk
      · rw [List.getElem?_set_self (by rw [S.env.len]; exact hl), List.getElem?_set_ne n2]
        exact fun z => far o1 k t (Ne.symm n2) e2 o2 z.symm
    · rcases set_get e2 with ⟨rfl, rfl, hl⟩ | ⟨n2, e2⟩
      · rw [List.getElem?_set_ne n1, List.getElem?_set_self (by rw [S.env.len]; exact hl)]
        exact far o2 j s (Ne.symm n1) e1b o1
      · rw [List.getElem?_set_ne n1, List.getElem?_set_ne n2]; exact S.env.ne j k s t hjk e1b e2 o1 o2
end
/-- set slots in their order -/
def setAll : List Nat → List Sd → Env → Env
  | i :: is, s :: ss, ρ => setAll is ss (ρ.set i s)
  | _, _, ρ => ρ
def setV : List Nat → List V → L2.St → L2.St
  | i :: is, v :: vs, σ => setV is vs (σ.set i (some v))
  | _, _, σ => σ
theorem Mats.tail {W : Wo} {p : Addr} {F H H00 : Hp} {v : V} {vs : List V} {s : Sd} {ss : List Sd} (R : Mats W p F H H00 (v :: vs) (s :: ss)) : Mats W p F H H00 vs ss :=
  ⟨by have := R.len; simpa using this, fun i w sd ea eb => R.at_ (i + 1) w sd (by simpa using ea) (by simpa using eb), fun i j s t hij ea eb o1 o2 => by
    have := R.ne (i + 1) (j + 1) s t (by omega) (by simpa using ea) (by simpa using eb) o1 o2
    simpa using this⟩
/-- all owned slots known: their objects were there, or are among these -/
theorem Sta.setAll {c : Cf} {u0 u : PuS} {F0 H0 F H : Hp} {σ0 : L2.St} {ρ0 : Env} (S0 : Sta c u0 F0 H0 σ0 ρ0) : ∀ {is : List Nat} {vs : List V} {sds : List Sd} {σ : L2.St} {ρ : Env}, Sta c u F H σ ρ → Mats c.W c.p F H H0 vs sds → is.length = vs.length →
    (∀ (j : Nat) (t : Sd) (k : Nat) (s : Sd), ρ[j]? = some t → t.own = true → sds[k]? = some s → s.own = true → σ[j]? ≠ (vs[k]?).map some) →
    Sta c u F H (setV is vs σ) (Mi.setAll is sds ρ)
  | [], vs, sds, σ, ρ, S, R, hl, far => by
    unfold setV Mi.setAll
    exact S
  | i :: is, [], sds, σ, ρ, S, R, hl, far => by simp at hl
  | i :: is, v :: vs, [], σ, ρ, S, R, hl, far => by have := R.len; simp at this
  | i :: is, v :: vs, s :: ss, σ, ρ, S, R, hl, far => by
    show Sta c u F H (setV is vs (σ.set i (some v))) (Mi.setAll is ss (ρ.set i s))
    have hv := R.at_ 0 v s rfl rfl
    refine Sta.setAll S0 (S.setS (i := i) (v := v) (sd := s) ?_ fun o j t _ e o2 => far j t 0 s e o2 rfl o) R.tail (by simpa using hl) fun j t k s' e o ek ok => ?_
    · cases s with
      | sh d => exact ⟨v, rfl, hv⟩
      | ow ds =>
        obtain ⟨q, ws, rfl, h1, h2, h3, h4⟩ := hv
        exact ⟨q, ws, rfl, h1, h2, fun z => S0.gd.ne (z ▸ h3), S0.ent.back S0.gd.ne h3, h4⟩
      | un => trivial
      | oi _ _ _ => exact False.elim hv
      | od _ _ => exact False.elim hv
    · rcases set_get e with ⟨rfl, rfl, hl'⟩ | ⟨ne, e⟩
      · rw [List.getElem?_set_self (by rw [S.env.len]; exact hl')]
        have := R.ne 0 (k + 1) t s' (by omega) rfl (by simpa using ek) o ok
        intro z
        apply this
        simp at this ⊢
        cases q : vs[k]? with
        | none => rw [q] at z; cases z
        | some w => rw [q] at z; cases z; rfl
      · rw [List.getElem?_set_ne ne]
        have := far j t (k + 1) s' e o (by simpa using ek) ok
        simpa using this
theorem Mats.fresh {c : Cf} {u0 : PuS} {F0 H0 F H : Hp} {σ0 : L2.St} {ρ0 : Env} {vs : List V} {sds : List Sd} (S0 : Sta c u0 F0 H0 σ0 ρ0) (R : Mats c.W c.p F H H0 vs sds) (j : Nat) (t : Sd) (k : Nat) (s : Sd) (e : ρ0[j]? = some t) (o : t.own = true) (ek : sds[k]? = some s) (ok : s.own = true) : σ0[j]? ≠ (vs[k]?).map some := by
  intro z
  obtain ⟨q, hq, hne, _⟩ := (S0.env.at_ j t e).ref o
  rw [hq] at z
  cases ev : vs[k]? with
  | none => rw [ev] at z; cases z
  | some w =>
    rw [ev] at z
    have := R.at_ k w s ev ek
    cases z
    cases s with
    | ow ds =>
      obtain ⟨q', ws, e1, _, _, e4, _⟩ := this
      cases e1
      exact hne e4
    | oi _ _ _ => exact this
    | od _ _ => exact this
    | _ => cases ok
def mPar (is : List Nat) (ms : MM) : MS := fun ρ => M.bind (ms ρ) fun sds => if sds.length = is.length then M.pure (.nx (setAll is sds ρ)) else lft none
section
variable {X : Cx} {c : Cf} {pos : Pos} {a b d : Expr} {ms : MM}
theorem rdPar {is : List Nat} {Dn : Ends} {σ : L2.St} {H : Hp} (h : rdS c (mPar is ms) Dn σ H) : rdM c ms σ H fun vs H1 => vs.length = is.length ∧ Dn.nx (setV is vs σ) H1 := by
  obtain ⟨F, u, ρ, S, h⟩ := h
  refine ⟨F, u, ρ, S, (flowO.after S h).imp fun sds u1 F1 H1 _ s1 g1 h1 vs R => ?_⟩
  have h2 := h1.2
  split at h2
  · rename_i hl
    exact ⟨R.len.trans hl, h2 _ F1 H1 (Same.refl _) (Sta.setAll S h1.1 R (hl.symm.trans R.len.symm) (Mats.fresh S R))⟩
  · exact False.elim h2
theorem dPar {i j : Nat} {x y : Str} {px py pt : Pos} {kt k2 pt2} (hc : X.calm = true) (hN : X.N.Nodup) (hi : X.N[i]? = some x) (hj : X.N[j]? = some y) (hij : i ≠ j)
    (hx : X.env.scope.names.lookup x = some .local) (hy : X.env.scope.names.lookup y = some .local) (ha : DM X c [a, b] ms)
    (hw : swappedStores [.Tuple [.Name x px, .Name y py] kt pt] (.Tuple [a, b] k2 pt2) X.env = pure (some [x, y]) := by rfl)
    (hs : swapsWithSole [.Tuple [.Name x px, .Name y py] kt pt] (.Tuple [a, b] k2 pt2) pos.line X.env = pure false := by rfl) :
    DS X c (.Assign [.Tuple [.Name x px, .Name y py] kt pt] (.Tuple [a, b] k2 pt2) pos) (mPar [i, j] ms) :=
  (ps_par hc hN hi hj hij hx hy ha hw hs).imp fun Dn σ H h => by
    obtain ⟨F, u, ρ, S, h⟩ := rdPar h
    exact ⟨F, u, ρ, S, h.imp fun sds u1 F1 H1 _ s1 g1 h1 vs R => by
      obtain ⟨hl, hq⟩ := h1 vs R
      match vs, hl, hq with
      | [v, w], _, hq => exact ⟨v, w, rfl, hq⟩⟩
theorem dPar3 {i j l : Nat} {x y z : Str} {px py pz pt : Pos} {kt k2 pt2} (hc : X.calm = true) (hN : X.N.Nodup) (hi : X.N[i]? = some x) (hj : X.N[j]? = some y) (hl : X.N[l]? = some z) (hij : i ≠ j) (hil : i ≠ l) (hjl : j ≠ l)
    (hx : X.env.scope.names.lookup x = some .local) (hy : X.env.scope.names.lookup y = some .local) (hz : X.env.scope.names.lookup z = some .local) (ha : DM X c [a, b, d] ms)
    (hw : swappedStores [.Tuple [.Name x px, .Name y py, .Name z pz] kt pt] (.Tuple [a, b, d] k2 pt2) X.env = pure (some [x, y, z]) := by rfl)
    (hs : swapsWithSole [.Tuple [.Name x px, .Name y py, .Name z pz] kt pt] (.Tuple [a, b, d] k2 pt2) pos.line X.env = pure false := by rfl) :
    DS X c (.Assign [.Tuple [.Name x px, .Name y py, .Name z pz] kt pt] (.Tuple [a, b, d] k2 pt2) pos) (mPar [i, j, l] ms) :=
  (ps_par3 hc hN hi hj hl hij hil hjl hx hy hz ha hw hs).imp fun Dn σ H h => by
    obtain ⟨F, u, ρ, S, h⟩ := rdPar h
    exact ⟨F, u, ρ, S, h.imp fun sds u1 F1 H1 _ s1 g1 h1 vs R => by
      obtain ⟨hl, hq⟩ := h1 vs R
      match vs, hl, hq with
      | [v, w, y], _, hq => exact ⟨v, w, y, rfl, hq⟩⟩
end

/-! ### calls with keywords -/
abbrev DK (X : Cx) (c : Cf) (kws : List Keyword) (m : MA) : Prop := PK X kws (rdA c m)
/-- the arguments put in the parameters' order -/
def gI {α : Type} (perm : List Nat) (us ws : List α) : List α := perm.filterMap ((us ++ ws)[·]?)
theorem vals_get {vs : List V} {us : List Value} (r : Vals vs us) (i : Nat) : (∃ v u, vs[i]? = some v ∧ us[i]? = some u ∧ RelV v u) ∨ (vs[i]? = none ∧ us[i]? = none) := by
  induction r generalizing i with
  | nil => right; simp
  | cons h r ih =>
    cases i with
    | zero => left; exact ⟨_, _, rfl, rfl, h⟩
    | succ i => simpa using ih i
theorem gI_rel {perm : List Nat} {vs zs : List V} {us ws : List Value} (r : Vals vs us) (rz : Vals zs ws) : Vals (gI perm vs zs) (gI perm us ws) := by
  have ra : Vals (vs ++ zs) (us ++ ws) := by
    induction r with
    | nil => exact rz
    | cons h r ih => exact .cons h ih
  unfold gI
  induction perm with
  | nil => exact .nil
  | cons i perm ih =>
    rcases vals_get ra i with ⟨v, u, e1, e2, r'⟩ | ⟨e1, e2⟩
    · rw [List.filterMap_cons, List.filterMap_cons, e1, e2]
      exact .cons r' ih
    · rw [List.filterMap_cons, List.filterMap_cons, e1, e2]
      exact ih
theorem gI_reps {W : Wo} {p : Addr} {F : Hp} {perm : List Nat} {vs zs : List V} {ds es : List D} (r : Reps W p F vs ds) (rz : Reps W p F zs es) : Reps W p F (gI perm vs zs) (gI perm ds es) := by
  have ra := r.append rz
  unfold gI
  induction perm with
  | nil => exact Reps.nil
  | cons i perm ih =>
    rw [List.filterMap_cons, List.filterMap_cons]
    cases e : (ds ++ es)[i]? with
    | none =>
      have : (vs ++ zs)[i]? = none := by
        rw [List.getElem?_eq_none_iff] at e ⊢
        rw [ra.1]; exact e
      rw [this]; exact ih
    | some d =>
      obtain ⟨v, ev, rv⟩ := ra.get e
      rw [ev]; exact Reps.cons rv ih
theorem _root_.L2.FunD.kb0 {K : PySem.W.Frag} {x qual : Str} {params : Arguments} {body : List Stmt} {scope : Scope} {kws : List (Str × V)} {f : Addr} {fd : FuncData} {ps : List Str} (F : FunD K x qual params body scope [] kws f fd) (n : Nat) (ks : List Str) (perm : List Nat)
    (h : ∀ (kV doc pm : Value) (an : Option Addr) (cdv ct : Value) (us ws : List Value), us.length = n → ws.length = ks.length → bindArgs (PySem.W.fnOf x qual params body scope .none kV doc pm an cdv ct) ⟨us, ks.zip ws⟩ = pure (ps.zip (gI perm us ws))) : KBn K fd ps n ks (gI perm) (gI perm) := by
  obtain ⟨oc, od, dV, kV, doc, pm, an, cdv, ct, osl, rfl, lk, hcd, hD, hK⟩ := F.ex
  rcases hD with ⟨_, rfl⟩ | ⟨e, _⟩
  · exact ⟨fun s us ws _ l1 l2 => .of_eq (h kV doc pm an cdv ct us ws l1 l2), gI_rel⟩
  · exact absurd rfl e
section
variable {X : Cx} {c : Cf} {k n np : Nat} {f : Addr} {fd : FuncData} {ps ks : List Str} {x : Str} {p pos apos : Pos} {e o : Expr} {es : List Expr} {kws : List Keyword} {ms mk : MA} {mf : List D → M D} {perm : List Nat} {mc : Value} {q g : Addr} {m : Str} {pl : Sem Bool} {nm : Option Str} {kpos : Pos} {me : ME}
theorem dKnil : DK X c [] mNil := ⟨fun pos pins s σ H Q I ⟨F, u, ρ, S, h⟩ => pk_nil.run pos pins s σ H Q I (After.now S.gd h [] Reps.nil)⟩
theorem dKcons {nm} (ha : DE X c e me) (hr : DK X c kws mk) : DK X c (⟨nm, e, kpos⟩ :: kws) (mCons me mk) :=
  ⟨fun pos pins s σ H Q I ⟨F, u, ρ, S, h⟩ => (pk_cons (nm := nm) (kpos := kpos) ha hr).run pos pins s σ H Q I ⟨F, u, ρ, S, (After.split h).imp fun d u1 F1 H1 _ s1 g1 h1 v rv => ⟨F1, u1, ρ, S.step s1 g1, (After.split h1).imp fun ds u2 F2 H2 _ s2 g2 h2 vs rvs => After.now (p := c.p) (F := F2) (H := H2) (u := u2) g2 h2 (v :: vs) (Reps.cons (rv.mono s2.ef) rvs)⟩⟩⟩
end

/-! ### fresh lists out of slices and list(..) -/
def mSlO (m : ME) (ml mh : MO) : MA := fun ρ => M.bind (m ρ) fun d => M.bind (ml ρ) fun lo => M.bind (mh ρ) fun hi => lft (match d with
  | .lst ds => some (cutD ds lo hi)
  | _ => none)
theorem fresh_ok {p : Addr} {F H H00 : Hp} {u : PuS} {vs : List V} {ds : List D} {W : Wo} {Q : VK} (g : Gd p u F H) (bk : ∀ q, H q = none → H00 q = none) (r : Reps W p F vs ds)
    (h : After p F H (some (ds, u)) fun ds _ F' H' => ∀ q vs, F' q = none → H00 q = none → H' q = some (.lst vs) → Reps W p F' vs ds → Q (.ref q) H') (q : Addr) (hq : H q = none) : Q (.ref q) (upd H q (.lst vs)) :=
  h F (upd H q (.lst vs)) (Stp.own hq) (g.own hq) q vs (g.fresh hq) (bk q hq) upd_same r
section
variable {X : Cx} {c : Cf} {e : Expr} {lo hi : Option Expr} {m : ME} {ml mh : MO} {pos p2 : Pos}
theorem dSlO (he : DE X c e m) (hl : PO X lo (rdO c ml)) (hh : PO X hi (rdO c mh)) (hK : X.K = c.W.K := by rfl) : DL X c (.Subscript e (.Slice lo hi none p2) pos) (mSlO m ml mh) :=
  (pe_slice sl_all he hl hh).imp fun σ H Q ⟨F, u, ρ, S, h⟩ => ⟨F, u, ρ, S, (After.split h).imp fun d u1 F1 H1 _ s1 g1 h1 v rv => ⟨F1, u1, ρ, S.step s1 g1, (After.split h1).imp fun l u2 F2 H2 _ s2 g2 h2 => ⟨F2, u2, ρ, (S.step s1 g1).step s2 g2, (After.split h2).imp fun r u3 F3 H3 _ s3 g3 h3 => by
    have rv := rv.mono (s2.ef.trans s3.ef)
    obtain ⟨z, e1, h4⟩ := lft_some h3
    rw [hK]
    split at e1
    · cases e1
      obtain ⟨a, vs, rfl, ha, ra⟩ := rv.lst_
      exact .inl ⟨a, vs, rfl, SqL.of (g3.ex _ _ ha), fun q hq => fresh_ok g3 (fun q hq => s1.back g1.ne (s2.back g2.ne (s3.back g3.ne hq))) (ra.cut l r) h4 q hq⟩
    · cases e1⟩⟩⟩
def mCBO (f : List D → Option (List D)) (ms : MA) : MA := fun ρ => M.bind (ms ρ) fun xs => lft (f xs)
end
end Mi

set_option Elab.async false
set_option linter.all false
set_option maxRecDepth 100000
set_option maxHeartbeats 4000000
/-! MiB: the head's facts by names: a Hook of this framework's own. -/
namespace Mi
open PySem PySem.Spec PyProof.Rows L2 He
variable [TB : Tabl]

/-! ### the written part: what the module's names reach -/
def WW (cs : List Str) (K : PySem.W.Frag) : Wo := ⟨K, ga K, cs⟩
/-! ### places of defs -/
abbrev FunP (K : PySem.W.Frag) (d : DefP) : Prop := FunD K d.name d.qual d.params d.body d.scope [] [] (d.at_.ad K) (fdOf K (d.at_.ad K))
theorem DefP.funD {K : PySem.W.Frag} {d : DefP} (e : fnP K (d.at_.ad K) = d.val) (c : d.ok K = true) : FunP K d := by
  obtain ⟨kp, c2⟩ := ba c
  unfold fnP at e
  unfold FunP fdOf
  cases q : K.lookup (d.at_.ad K) with
  | none =>
    rw [q] at c2
    cases c2
  | some o =>
    obtain ⟨oc, od, dt, osl⟩ := o
    rw [q] at c2 e
    cases dt with
    | func fd =>
      obtain ⟨n1, n2, n3, n4, n5, n6, n7, n8, n9, n10, n11, n12, n13, n14, n15⟩ := fd
      have e2 : (some (n1, n2, n3, n4, n5, n6, n7, n15) : FnW) = some (d.name, d.qual, d.params, .stmts d.body, d.scope, mainGlobals, [], builtinsNs) := e
      simp only [Option.some.injEq, Prod.mk.injEq] at e2
      obtain ⟨h1, h2, h3, h4, h5, h6, h7, h8⟩ := e2
      subst h1 h2 h3 h4 h5 h6 h7 h8
      have c3 : (PySem.W.codeIn K n13 d.qual && dflB K n8 []) = true := c2
      obtain ⟨k1, k2⟩ := ba c3
      exact ⟨⟨oc, od, n8, n9, n10, n11, n12, n13, n14, osl, rfl, q, k1, dflB_ok k2, .inl rfl⟩, kp⟩
    | _ => cases c2
/-! ### facts -/
section
variable {K : PySem.W.Frag}
theorem prop_ok {c f : Str} (h : (Ft.prop c f).ok K = true) : PropOf K (ga K c) f (ma K (ga K c) f) ((Pl.prop c f).ad K) := by
  obtain ⟨h1, h⟩ := ba h
  obtain ⟨h2, h⟩ := ba h
  obtain ⟨h3, h4⟩ := ba h
  refine ⟨eqO_ok h1, eqO_ok h2, of_decide_eq_true h3, ?_⟩
  unfold Pl.ad recFn
  split at h4
  · rename_i g rest e
    simp only [e]
    exact ⟨rest, rfl⟩
  · cases h4
theorem isi_ok {cs : List Str} (h : (Ft.isi cs).ok K = true) : IsiOk (WW cs K) := by
  obtain ⟨h1, h⟩ := ba h
  obtain ⟨h2, h⟩ := ba h
  obtain ⟨h3, h4⟩ := ba h
  refine ⟨fun c hc H a dx fs e => ?_, fun c hc k hk => ?_, fun a ha k hk => ?_, fun c hc n hn => ?_⟩
  · obtain ⟨k1, k⟩ := ba (List.all_eq_true.mp h1 c hc)
    obtain ⟨k2, k⟩ := ba k
    obtain ⟨k3, k⟩ := ba k
    obtain ⟨k4, k5⟩ := ba k
    obtain ⟨c1, c⟩ := ba k1
    obtain ⟨c2, c⟩ := ba c
    obtain ⟨c3, c4⟩ := ba c
    exact .ins e ⟨c1, c2, c3, eqO_ok c4⟩ (eqO_ok k2) (eqO_ok k3) (of_decide_eq_true k4) (of_decide_eq_true k5)
  · exact of_decide_eq_true (List.all_eq_true.mp (List.all_eq_true.mp h2 c hc) k hk)
  · exact of_decide_eq_true (List.all_eq_true.mp (List.all_eq_true.mp h3 a ha) k hk)
  · exact of_decide_eq_true (List.all_eq_true.mp (List.all_eq_true.mp h4 c hc) n hn)
end
/-! ### the Hook -/
/-- all that the walk leans on -/
structure HF (fa : List Ft) (fn : List DefP) (K : PySem.W.Frag) (mg : Str → Option Value) : Prop where
  says : SaysP fa fn K
  ns : ∃ h : Heap, K.In h ∧ h.Ns mainGlobals mg
section
variable {fa : List Ft} {fn : List DefP} {K : PySem.W.Frag} {mg : Str → Option Value}
theorem HF.fact (c : HF fa fn K mg) (i : Nat) {f : Ft} (h : fa[i]? = some f) : f.ok K = true := by
  have c1 := (ba (show ((fa.all fun f => f.ok K) && fn.all fun d => d.ok K) = true from congrArg (fun z : AlP => z.1) c.says)).1
  exact List.all_eq_true.mp c1 f (List.mem_of_getElem? h)
theorem HF.fun_ (c : HF fa fn K mg) (i : Nat) {d : DefP} (h : fn[i]? = some d) : FunP K d := by
  have c2 := (ba (show ((fa.all fun f => f.ok K) && fn.all fun d => d.ok K) = true from congrArg (fun z : AlP => z.1) c.says)).2
  have e : fn.map (fun d => fnP K (d.at_.ad K)) = fn.map DefP.val := congrArg (fun z : AlP => z.2) c.says
  have e2 : (fn.map fun d => fnP K (d.at_.ad K))[i]? = (fn.map DefP.val)[i]? := by rw [e]
  rw [List.getElem?_map, List.getElem?_map, h] at e2
  exact DefP.funD (Option.some.inj e2) (List.all_eq_true.mp c2 d (List.mem_of_getElem? h))
theorem HF.glo (c : HF fa fn K mg) (i : Nat) {x : Str} (h : fa[i]? = some (.b (.glo x))) : mg x = some (.ref (ga K x)) := by
  obtain ⟨_, X, G⟩ := c.ns
  exact glo_ok X G (c.fact i h)
theorem HF.free (c : HF fa fn K mg) (i : Nat) {x : Str} (h : fa[i]? = some (.b (.free x))) : mg x = none := by
  obtain ⟨_, X, G⟩ := c.ns
  exact free_ok X G (c.fact i h)
theorem HF.int (c : HF fa fn K mg) (i : Nat) {x : Str} {n : Int} (h : fa[i]? = some (.b (.int x n))) : ∃ t, mg x = some (.int n t) := by
  obtain ⟨_, X, G⟩ := c.ns
  exact int_ok X G (c.fact i h)
theorem HF.str (c : HF fa fn K mg) (i : Nat) {x z : Str} (h : fa[i]? = some (.b (.str x z))) : ∃ t, mg x = some (.str z t) := by
  obtain ⟨_, X, G⟩ := c.ns
  exact str_ok X G (c.fact i h)
theorem HF.cls (c : HF fa fn K mg) (i : Nat) {x : Str} (h : fa[i]? = some (.b (.cls x))) : Cls K (ga K x) := cls_ok (c.fact i h)
theorem HF.noat (c : HF fa fn K mg) (i : Nat) {x f : Str} (h : fa[i]? = some (.b (.noat x f))) : NoAttr K (ga K x) f := noat_ok (c.fact i h)
theorem HF.meth (c : HF fa fn K mg) (i : Nat) {x m : Str} (h : fa[i]? = some (.b (.meth x m))) : Meth K (ga K x) m ((Pl.meth x m).ad K) := meth_ok (c.fact i h)
theorem HF.mkr (c : HF fa fn K mg) (i : Nat) {x : Str} (h : fa[i]? = some (.b (.mkr x))) : Mk K (ga K x) ((Pl.meth x "__init__").ad K) := mkr_ok (c.fact i h)
end
/-- a def's promise at its place -/
abbrev FO (cs : List Str) (P : Program) (w : World) (K : PySem.W.Frag) (mg : Str → Option Value) (base : Heap) (k : Nat) (pl : Pl) (ps : List Str) (n : Nat) (mf : List D → M D) : Prop := FnOk P w K mg base CX0 k (pl.ad K) (fdOf K (pl.ad K)) ps (spM (WW cs K) n mf)
end Mi

set_option Elab.async false
set_option linter.all false
set_option maxRecDepth 100000
set_option maxHeartbeats 4000000
/-! MiC: walks over lists or tuples; owned lists borrowed by an expression; names of built-ins. -/
namespace Mi
open PySem PySem.Spec PyProof.Rows L2
variable [TB : Tabl]

/-! ### built-ins by name -/
theorem bb_len : bootBuiltins "len" = some (.builtin "len") := by decide +kernel
theorem bb_sum : bootBuiltins "sum" = some (.builtin "sum") := by decide +kernel
theorem bb_max : bootBuiltins "max" = some (.builtin "max") := by decide +kernel
theorem bb_min : bootBuiltins "min" = some (.builtin "min") := by decide +kernel
theorem bb_all : bootBuiltins "all" = some (.builtin "all") := by decide +kernel
theorem bb_any : bootBuiltins "any" = some (.builtin "any") := by decide +kernel
theorem bb_abs : bootBuiltins "abs" = some (.builtin "abs") := by decide +kernel
theorem bb_divmod : bootBuiltins "divmod" = some (.builtin "divmod") := by decide +kernel
theorem bb_isinstance : bootBuiltins "isinstance" = some (.builtin "isinstance") := by decide +kernel
theorem bb_int : bootBuiltins "int" = some (.type "int") := by decide +kernel
theorem bb_bool : bootBuiltins "bool" = some (.type "bool") := by decide +kernel
theorem bb_str : bootBuiltins "str" = some (.type "str") := by decide +kernel
theorem bb_tuple : bootBuiltins "tuple" = some (.type "tuple") := by decide +kernel

/-! ### walks over lists or tuples -/
theorem _root_.L2.PI.or {X : Cx} {tg e : Expr} {t t' : TI} (h : PI X tg e t) (h' : PI X tg e t') : PI X tg e (fun σ H R => t σ H R ∨ t' σ H R) := ⟨fun pins s σ H R I q => q.elim (h.run pins s σ H R I) (h'.run pins s σ H R I)⟩
/-- what is walked over -/
def itD : D → Option (List D)
  | .lst ds => some ds
  | .tup ds => some ds
  | .str z => some (z.cps.toList.map fun c => .str ⟨#[c]⟩)
  | _ => none
def mIany (m : ME) : MA := fun ρ => M.bind (m ρ) fun d => lft (itD d)
theorem walkD_str {W : Wo} {p : Addr} {F : Hp} {z : Str} : WalkD W p (Its z) F (z.cps.toList.map fun c => .str ⟨#[c]⟩) := by
  refine ⟨_, _, by simpa using walk_str (z := z), fun _ _ => trivial, fun i H x H' F2 u d hd e g hy => ?_⟩
  obtain ⟨rfl, c, hc, rfl⟩ := hy
  refine ⟨F2, Stp.refl, g, ?_⟩
  rw [List.getElem?_map] at hd
  have hc' : z.cps.toList[i]? = some c := by simpa using hc
  rw [hc'] at hd
  cases hd
  exact .str _
def enumA : List D → Option (List D) := fun ds => match ds with
  | [.lst xs] => some (enumD xs)
  | [.tup xs] => some (enumD xs)
  | _ => none
section
variable {X : Cx} {c : Cf} {tg e a b : Expr} {m : ME} {ms : MA} {pos q : Pos}
theorem dIany (h : DE X c e m) (hK : X.K = c.W.K := by rfl) : DI X c tg e (mIany m) :=
  ((dIlist h hK).or ((dItup h hK).or (pi_str h))).imp fun σ H R ⟨F, u, ρ, S, h⟩ => by
    unfold mIany M.bind at h
    cases e1 : m ρ u with
    | none => rw [e1] at h; exact False.elim h
    | some y =>
      obtain ⟨d, u1⟩ := y
      rw [e1] at h
      cases d with
      | lst ds => exact .inl ⟨F, u, ρ, S, by unfold mIseq M.bind; rw [e1]; exact h⟩
      | tup ds => exact .inr (.inl ⟨F, u, ρ, S, by unfold mItup M.bind; rw [e1]; exact h⟩)
      | str z =>
        refine .inr (.inr ⟨F, u, ρ, S, ?_⟩)
        rw [e1]
        exact fun F' H' s' g' v rv => ⟨z, rv.str_, h F' H' s' g' _ walkD_str⟩
      | _ => exact False.elim h
theorem dIenumA {elts : List Expr} {kk : Nat} {tpos : Pos} (hg : Gl X "enumerate") (hm : X.mg "enumerate" = none) (ha : DA X c [a] ms) (hs : starEach [a] X.env = [(false, eval a X.env)] := by rfl) (hK : X.K = c.W.K := by rfl) :
    DI X c (.Tuple elts kk tpos) (.Call (.Name "enumerate" q) [a] [] pos) (mIof enumA ms) :=
  ((dIenum hg hm ha hs hK).or (dIenumT hg hm ha hs hK)).imp fun σ H R ⟨F, u, ρ, S, h⟩ => by
    unfold mIof M.bind at h
    cases e1 : ms ρ u with
    | none => rw [e1] at h; exact False.elim h
    | some y =>
      obtain ⟨ds, u1⟩ := y
      rw [e1] at h
      have key : ∀ f, enumA ds = f ds → rdI c (mIof f ms) σ H R := fun f hf => ⟨F, u, ρ, S, by
        unfold mIof M.bind
        rw [e1]
        show After c.p F H (lft (f ds) u1) _
        rw [← hf]
        exact h⟩
      match ds, h, key with
      | [.lst xs], h, key => exact .inl (key _ rfl)
      | [.tup xs], h, key => exact .inr (key _ rfl)
      | [], h, _ => exact False.elim h
      | [.non], h, _ => exact False.elim h
      | [.bl _], h, _ => exact False.elim h
      | [.int _], h, _ => exact False.elim h
      | [.str _], h, _ => exact False.elim h
      | [.obj _ _ _], h, _ => exact False.elim h
      | [.pur], h, _ => exact False.elim h
      | [.ty _], h, _ => exact False.elim h
      | [.cls _], h, _ => exact False.elim h
      | [.scr _], h, _ => exact False.elim h
      | [.exc _ _ _], h, _ => exact False.elim h
      | [.dct _ _], h, _ => exact False.elim h
      | [.ecl _], h, _ => exact False.elim h
      | [.ndc _ _], h, _ => exact False.elim h
      | x :: y :: r, h, _ => exact (by cases x <;> exact False.elim h)
end

/-! ### borrowing -/
mutual
def noLst : D → Bool
  | .lst _ => false
  | .scr _ => false
  | .tup ds => noLsts ds
  | .obj _ _ ds => noLsts ds
  | .exc _ _ ds => noLsts ds
  | .dct _ ds => noLsts ds
  | .ndc _ _ => false
  | _ => true
def noLsts : List D → Bool
  | [] => true
  | d :: ds => noLst d && noLsts ds
end
theorem noLsts_at : ∀ {ds : List D} {i : Nat} {d : D}, noLsts ds = true → ds[i]? = some d → noLst d = true
  | [], i, d, _, e => by simp at e
  | a :: ds, 0, d, h, e => by
    simp at e
    subst e
    unfold noLsts at h
    exact (Bool.and_eq_true_iff.mp h).1
  | a :: ds, i + 1, d, h, e => by
    unfold noLsts at h
    exact noLsts_at (Bool.and_eq_true_iff.mp h).2 (by simpa using e)
theorem Rep.without {W : Wo} {p q : Addr} {F F' : Hp} {ws : List V} (hq : F q = some (.lst ws)) (sub : ∀ a o, a ≠ q → F a = some o → F' a = some o) {v : V} {d : D} (h : Rep W p F v d) : noLst d = true → Rep W p F' v d := by
  induction h with
  | non => exact fun _ => .non
  | bl b => exact fun _ => .bl b
  | int i => exact fun _ => .int i
  | str x => exact fun _ => .str x
  | ty n => exact fun _ => .ty n
  | cls c hc => exact fun _ => .cls c hc
  | pur => exact fun _ => .pur
  | scr h => intro n; unfold noLst at n; cases n
  | tup h l r ih =>
    intro n
    unfold noLst at n
    refine .tup ?_ l fun i v d e1 e2 => ih i v d e1 e2 (noLsts_at n e2)
    rcases h with (h | ⟨o, h⟩) | h
    · exact .inl (.inl (sub _ _ (fun z => by rw [z, hq] at h; cases h) h))
    · exact .inl (.inr ⟨o, sub _ _ (fun z => by rw [z, hq] at h; cases h) h⟩)
    · exact .inr h
  | lst h l r ih => intro n; unfold noLst at n; cases n
  | obj hc h lk l r ih =>
    intro n
    unfold noLst at n
    exact .obj hc (sub _ _ (fun z => by rw [z, hq] at h; cases h) h) lk l fun i v d e1 e2 => ih i v d e1 e2 (noLsts_at n e2)
  | exc hc h hk hf h2 hx lk l r ih =>
    intro n
    unfold noLst at n
    exact .exc hc (sub _ _ (fun z => by rw [z, hq] at h; cases h) h) hk hf h2 (hx.imp (fun w => ⟨w.1, sub _ _ (fun z => by have := w.2; rw [z, hq] at this; cases this) w.2⟩) id) lk l fun i v d e1 e2 => ih i v d e1 e2 (noLsts_at n e2)
  | ecl c hc => exact fun _ => .ecl c hc
  | ndc h hx lk lv l hk rv rk r ihk ih => exact fun z => by unfold noLst at z; cases z
  | dct h lk l r ih =>
    intro n
    unfold noLst at n
    exact .dct (sub _ _ (fun z => by rw [z, hq] at h; cases h) h) lk l fun i v d e1 e2 => ih i v d e1 e2 (noLsts_at n e2)
def del (F : Hp) (q : Addr) : Hp := fun a => if a = q then none else F a
theorem del_ne {F : Hp} {q a : Addr} (h : a ≠ q) : del F q a = F a := if_neg h
theorem del_of {F : Hp} {q a : Addr} {o : HO} (h : del F q a = some o) : a ≠ q ∧ F a = some o := by
  unfold del at h
  split at h
  · cases h
  · exact ⟨by assumption, h⟩
/-- an owned list lent out: frozen within, taken back behind -/
theorem Sta.lend {c : Cf} {u : PuS} {F H : Hp} {σ : L2.St} {ρ : Env} (S : Sta c u F H σ ρ) (i : Nat) : Mi.frz i ρ = ρ ∨ ∃ q ws F1, Sta c u F1 H σ (Mi.frz i ρ) ∧ F1 q = some (.lst ws) ∧
    ∀ u' F' H', Stp c.p F1 H F' H' → Gd c.p u' F' H' → Stp c.p F H (del F' q) H' ∧ Gd c.p u' (del F' q) H' ∧ F' q = some (.lst ws) := by
  unfold Mi.frz
  cases ho : vOw ρ i with
  | none => exact .inl rfl
  | some ds =>
    right
    obtain ⟨q, vs, e1, hq, hf, hp, h0, r⟩ := S.ow ho
    have hsm : Same F (upd F q (.lst vs)) := fun a o e => by rw [upd_ne (fun z => by rw [z, hf] at e; cases e)]; exact e
    have qs : ∀ {j : Nat} {t : Sd} {a : Addr}, i ≠ j → ρ[j]? = some t → t.own = true → σ[j]? = some (some (.ref a)) → a ≠ q := fun {j t a} ne e2 o z h => by
      subst h
      exact S.env.ne i j _ t ne (vOw_at ho) e2 rfl o (e1.trans z.symm)
    refine ⟨q, vs, upd F q (.lst vs), ⟨⟨S.ent.ef.trans hsm, S.ent.eh, S.ent.et, fun a o e => ?_⟩, ⟨fun a o e => ?_, S.gd.pu, fun l e => by rw [upd_ne (Ne.symm hp)]; exact S.gd.off l e, nt_upd S.gd.nt (by intro _ z; cases z), S.gd.tb, S.gd.hp⟩, by simpa using S.env.len, fun j t e => ?_, fun j k t t' h ea eb o1 o2 => ?_⟩, upd_same, fun u' F' H' s g => ⟨⟨fun a o e => ?_, s.eh, s.et, fun a o e => ?_⟩, ⟨fun a o e => ?_, g.pu, fun l e => ?_, fun a ps z => g.nt a ps (del_of z).2, g.tb, g.hp⟩, s.ef q _ upd_same⟩⟩
    · by_cases ha : a = q
      · subst ha; exact .inr h0
      · rw [upd_ne ha] at e; exact S.ent.nw a o e
    · by_cases ha : a = q
      · subst ha; rw [upd_same] at e; cases e; exact hq
      · rw [upd_ne ha] at e; exact S.gd.ex a o e
    · rcases set_get e with ⟨rfl, rfl, _⟩ | ⟨ne, e⟩
      · exact ⟨.ref q, e1, Rep.mkL upd_same (r.mono hsm)⟩
      · have k := S.env.at_ j t e
        cases t with
        | un => trivial
        | sh d => obtain ⟨v, z, r'⟩ := k; exact ⟨v, z, r'.mono hsm⟩
        | ow es => obtain ⟨a, xs, z, ha, hfa, w1, w2, r'⟩ := k; exact ⟨a, xs, z, ha, by rw [upd_ne (qs ne e rfl z)]; exact hfa, w1, w2, r'.mono hsm⟩
        | oi kk ks es => obtain ⟨dx, xs, z, ha, hfa, w1, w2, w3, r'⟩ := k; exact ⟨dx, xs, z, ha, by rw [upd_ne (qs ne e rfl z)]; exact hfa, w1, w2, w3, r'.mono hsm⟩
        | od ks es => obtain ⟨a, ob, xs, ws, z, ha, hfa, w1, w2, w3, r'⟩ := k; exact ⟨a, ob, xs, ws, z, ha, by rw [upd_ne (qs ne e rfl z)]; exact hfa, w1, w2, w3, r'.mono hsm⟩
    · rcases set_get ea with ⟨rfl, rfl, _⟩ | ⟨n1, ea⟩
      · cases o1
      · rcases set_get eb with ⟨rfl, rfl, _⟩ | ⟨n2, eb⟩
        · cases o2
        · exact S.env.ne j k t t' h ea eb o1 o2
    · have ha : a ≠ q := fun z => by rw [z, hf] at e; cases e
      rw [del_ne ha]
      exact s.ef a o (by rw [upd_ne ha]; exact e)
    · obtain ⟨ha, e⟩ := del_of e
      rcases s.nw a o e with h | h
      · rw [upd_ne ha] at h; exact .inl h
      · exact .inr h
    · obtain ⟨ha, e⟩ := del_of e
      exact g.ex a o e
    · rw [del_ne (Ne.symm hp)]
      exact g.off l e
def mBor (i : Nat) (m : ME) : ME := fun ρ => M.bind (m (frz i ρ)) fun d => lft (if noLst d = true then some d else none)
def mBorT (i : Nat) (m : MT) : MT := fun ρ => m (frz i ρ)
def mBorL (i : Nat) (m : MA) : MA := fun ρ => M.bind (m (frz i ρ)) fun d => lft (if noLsts d = true then some d else none)
section
variable {X : Cx} {c : Cf} {e : Expr} {m : ME} {mt : MT} {ml : MA} {i : Nat}
theorem dBor (i : Nat) (h : DE X c e m) : DE X c e (mBor i m) := h.imp fun σ H Q ⟨F, u, ρ, S, h⟩ => by
  unfold mBor M.bind at h
  cases e1 : m (frz i ρ) u with
  | none => rw [e1] at h; exact False.elim h
  | some y =>
    obtain ⟨d, u1⟩ := y
    rw [e1] at h
    obtain ⟨hn, h2⟩ := lft_if (b := noLst d = true) (a := d) h
    rcases S.lend i with z | ⟨q, ws, F1, S1, hq, back⟩
    · rw [z] at e1
      exact ⟨F, u, ρ, S, by rw [e1]; exact h2⟩
    · refine ⟨F1, u, frz i ρ, S1, ?_⟩
      rw [e1]
      intro F' H' s' g' v rv
      obtain ⟨s2, g2, hq2⟩ := back _ _ _ s' g'
      exact h2 _ _ s2 g2 v (rv.without hq2 (fun a o ha e => by rw [del_ne ha]; exact e) hn)
theorem dBorT (i : Nat) (h : DT X c e mt) : DT X c e (mBorT i mt) := h.imp fun σ H Q ⟨F, u, ρ, S, h⟩ => by
  unfold mBorT at h
  rcases S.lend i with z | ⟨q, ws, F1, S1, hq, back⟩
  · rw [z] at h
    exact ⟨F, u, ρ, S, h⟩
  · refine ⟨F1, u, frz i ρ, S1, ?_⟩
    cases e1 : mt (frz i ρ) u with
    | none => rw [e1] at h; exact False.elim h
    | some y =>
      obtain ⟨d, u1⟩ := y
      rw [e1] at h
      intro F' H' s' g'
      obtain ⟨s2, g2, hq2⟩ := back _ _ _ s' g'
      exact h _ _ s2 g2
end
end Mi


set_option Elab.async false
set_option linter.all false
set_option maxRecDepth 100000
set_option maxHeartbeats 4000000
/-! MiE: the purse read and written; defs that return fresh lists; a call with a purse of its own. -/
namespace Mi
open PySem PySem.Spec PyProof.Rows L2
variable [TB : Tabl]

/-! ### the purse -/
def getP (d k : D) : M D := fun u => match d, k, u with
  | .pur, .int j, .real l => (atI l j).map fun n => (.int n, u)
  | _, _, _ => none
def putP (d k v : D) : M Unit := fun u => match d, k, v, u with
  | .pur, .int j, .int a, .real l => (ixN l.length j).map fun n => ((), .real (l.set n a))
  | _, _, _, _ => none
def mIxP (i : Nat) (mi : ME) : ME := fun ρ => M.bind (mi ρ) fun k => M.bind (lft (vSh ρ i)) fun d => getP d k
def mPutP (i : Nat) (m mi : ME) : MS := fun ρ => M.bind (m ρ) fun v => M.bind (mi ρ) fun k => M.bind (lft (vSh ρ i)) fun d => M.bind (putP d k v) fun _ => M.pure (.nx ρ)
def mDmP (i : Nat) (mi : ME) (j : Nat) (m : ME) : MS := fun ρ => M.bind (m ρ) fun v => match v with
  | .tup [.int a, .int b] => M.bind (mi ρ) fun k => M.bind (lft (vSh ρ i)) fun d => M.bind (putP d k (.int a)) fun _ => M.pure (.nx (ρ.set j (.sh (.int b))))
  | _ => lft none
theorem Sta.purse {c : Cf} {l l' : List Int} {F H : Hp} {σ : L2.St} {ρ : Env} (S : Sta c (.real l) F H σ ρ) : Sta c (.real l') F (upd H c.p (.lst (l'.map V.int))) σ ρ := by
  have hp := S.gd.off l rfl
  refine ⟨⟨S.ent.ef, fun a o h e n => by rw [upd_ne h]; exact S.ent.eh a o h e n, fun a ps h e => by
    rw [upd_ne h]; exact S.ent.et a ps h e, S.ent.nw⟩, ⟨fun a o e => ?_, upd_same, fun _ _ => hp, S.gd.nt, tabs_over S.gd.pu S.gd.tb, (by intro _ z; cases z)⟩, S.env.len, fun i s e => ?_, S.env.ne⟩
  · rw [upd_ne (fun z => by rw [z, hp] at e; cases e)]; exact S.gd.ex a o e
  · have k := S.env.at_ i s e
    cases s with
    | un => trivial
    | sh d => exact k
    | ow es => obtain ⟨a, xs, z, ha, hf, w1, w⟩ := k; exact ⟨a, xs, z, by rw [upd_ne w1]; exact ha, hf, w1, w⟩
    | oi kk ks es => obtain ⟨dx, xs, z, ha, hf, w1, w⟩ := k; exact ⟨dx, xs, z, by rw [upd_ne w1]; exact ha, hf, w1, w⟩
    | od ks es => obtain ⟨a, ob, xs, ws, z, ha, hf, w1, w⟩ := k; exact ⟨a, ob, xs, ws, z, by rw [upd_ne w1]; exact ha, hf, w1, w⟩
theorem Gd.purse {p : Addr} {l : List Int} {F H : Hp} (g : Gd p (.real l) F H) : H p = some (.lst (l.map V.int)) := g.pu
section
variable {X : Cx} {c : Cf} {pos : Pos} {e ie : Expr} {m mi : ME} {i : Nat} {x : Str}
theorem Rep.pur_ {W : Wo} {p : Addr} {F : Hp} {v : V} (h : Rep W p F v .pur) : v = .ref p := by cases h; rfl
theorem dIxP (i : Nat) {x : Str} {p0 : Pos} (hk : DE X c ie mi) (hN : X.N[i]? = some x := by rfl) (hv : Vis X.env.scope x := by first | exact Or.inl rfl | exact Or.inr (Or.inl rfl) | exact Or.inr (Or.inr rfl)) (hd : (x == ("__debug__" : Str)) = false := by decide)
    (hcd : (x == ("__classdict__" : Str)) = false := by decide) (hs : PlainIx ie := by exact fun _ _ => rfl) : DE X c (.Subscript (.Name x p0) ie pos) (mIxP i mi) :=
  (pe_ix ix_list (pe_var (i := i) hN hv hd hcd) hk hs).imp fun σ H Q ⟨F, u, ρ, S, h⟩ => by
    unfold mIxP at h
    cases ho : vSh ρ i with
    | none =>
      exfalso
      unfold M.bind at h
      cases e1 : mi ρ u with
      | none => rw [e1] at h; exact h
      | some y => rw [e1, ho] at h; exact h
    | some d =>
      obtain ⟨v, ev, rv⟩ := S.var ho
      refine ⟨v, ev, F, u, ρ, S, (After.split h).imp fun k u2 F2 H2 _ s2 g2 h2 w rw => ?_⟩
      obtain ⟨d', e2, h3⟩ := lft_some' h2
      rw [ho] at e2
      cases e2
      cases d with
      | pur =>
        cases k with
        | int j =>
          cases u2 with
          | real l =>
            have h4 : After c.p F2 H2 ((atI l j).map fun n => (D.int n, PuS.real l)) fun d _ F' H' => ∀ v, Rep c.W c.p F' v d → Q v H' := h3
            cases e4 : atI l j with
            | none => rw [e4] at h4; exact False.elim h4
            | some n =>
              rw [e4] at h4
              have h5 : After c.p F2 H2 (some (D.int n, PuS.real l)) fun d _ F' H' => ∀ v, Rep c.W c.p F' v d → Q v H' := h4
              refine ⟨c.p, _, j, .int n, rv.pur_, rw.int_, SqL.of g2.purse, by rw [atI_map, e4]; rfl, After.now g2 h5 _ (.int n)⟩
          | idle o => exact False.elim h3
        | _ => exact False.elim h3
      | _ => cases k <;> exact False.elim h3
theorem put_ok {F H : Hp} {u : PuS} {σ : L2.St} {ρ ρ' : Env} {d k v : D} {vd vk vv : V} {Dn : Ends} {σ' : L2.St} (S : Sta c u F H σ ρ) (rd : Rep c.W c.p F vd d) (rk : Rep c.W c.p F vk k) (rv : Rep c.W c.p F vv v)
    (h : flowO c F Dn (M.bind (putP d k v) (fun _ => M.pure (.nx ρ')) u)) (hs : ∀ {u' F' H'}, Sta c u' F' H' σ ρ → Sta c u' F' H' σ' ρ') : rSetL vd vk vv H fun H4 => Dn.nx σ' H4 := by
  unfold M.bind at h
  cases d with
  | pur =>
    cases k with
    | int j =>
      cases v with
      | int a =>
        cases u with
        | real l =>
          have e0 : putP D.pur (D.int j) (D.int a) (PuS.real l) = (ixN l.length j).map fun n => ((), PuS.real (l.set n a)) := rfl
          rw [e0] at h
          have h2 := h
          cases e1 : ixN l.length j with
          | none => rw [e1] at h2; exact False.elim h2
          | some n =>
            rw [e1] at h2
            refine ⟨c.p, _, j, n, rd.pur_, rk.int_, S.gd.purse, by rw [List.length_map]; exact e1, ?_⟩
            rw [rv.int_, ← List.map_set]
            exact h2 σ' F _ (Same.refl _) (hs (S.purse (l' := l.set n a)))
        | idle o => exact False.elim h
      | _ => exact False.elim h
    | _ => cases v <;> exact False.elim h
  | _ => cases k <;> cases v <;> exact False.elim h
theorem dPutP (i : Nat) {x : Str} {p0 tp : Pos} (he : DE X c e m) (hk : DE X c ie mi) (hN : X.N[i]? = some x := by rfl) (hv : Vis X.env.scope x := by first | exact Or.inl rfl | exact Or.inr (Or.inl rfl) | exact Or.inr (Or.inr rfl)) (hd : (x == ("__debug__" : Str)) = false := by decide)
    (hcd : (x == ("__classdict__" : Str)) = false := by decide)
    (ha : ∀ v, assign (.Subscript (.Name x p0) ie tp) X.env v = (do
      let ov ← holding [v] (eval (.Name x p0) X.env)
      let iv ← holding [v, ov] (eval ie X.env)
      standAt tp
      holding [v, ov, iv] (setItem ov iv v)
      release [v, ov, iv] []) := by intro _; rfl)
    (hs : swapsWithSole [.Subscript (.Name x p0) ie tp] e pos.line X.env = pure false := by rfl) (hw : swappedStores [.Subscript (.Name x p0) ie tp] e X.env = pure none := by rfl)
    (h1 : (assignEach [.Subscript (.Name x p0) ie tp] X.env).map (·.2) = [assign (.Subscript (.Name x p0) ie tp) X.env] := by rfl) : DS X c (.Assign [.Subscript (.Name x p0) ie tp] e pos) (mPutP i m mi) :=
  (ps_asg he (pg_sub (pe_var (i := i) hN hv hd hcd) hk set_list ha) hs hw h1).imp fun Dn σ H ⟨F, u, ρ, S, h⟩ => ⟨F, u, ρ, S, (flowO.after S h).imp fun d u1 F1 H1 _ s1 g1 h1 v rv => by
    cases ho : vSh ρ i with
    | none =>
      exfalso
      have h2 := h1.2
      unfold M.bind at h2
      cases e1 : mi ρ u1 with
      | none => rw [e1] at h2; exact h2
      | some y => rw [e1, ho] at h2; exact h2
    | some dd =>
      obtain ⟨vd, ev, rvd⟩ := h1.1.var ho
      refine ⟨vd, ev, F1, u1, ρ, h1.1, (flowO.after h1.1 h1.2).imp fun k u2 F2 H2 _ s2 g2 h2 w rw => ?_⟩
      obtain ⟨d', e2, h3⟩ := flowO.lft h2.1 h2.2
      rw [ho] at e2
      cases e2
      exact put_ok h2.1 (rvd.mono s2.ef) rw (rv.mono s2.ef) h3 id⟩
/-- x[k], y = e -/
theorem dDmP (i j : Nat) {x y : Str} {p0 p1 tp tq : Pos} {kt : Nat} (hc : X.calm = true) (he : DE X c e m) (hk : DE X c ie mi) (hNd : X.N.Nodup) (hj : X.N[j]? = some y) (hy : Loc X.env.scope y) (hN : X.N[i]? = some x := by rfl) (hv : Vis X.env.scope x := by first | exact Or.inl rfl | exact Or.inr (Or.inl rfl) | exact Or.inr (Or.inr rfl)) (hd : (x == ("__debug__" : Str)) = false := by decide)
    (hcd : (x == ("__classdict__" : Str)) = false := by decide)
    (ha : ∀ v, assign (.Subscript (.Name x p0) ie tp) X.env v = (do
      let ov ← holding [v] (eval (.Name x p0) X.env)
      let iv ← holding [v, ov] (eval ie X.env)
      standAt tp
      holding [v, ov, iv] (setItem ov iv v)
      release [v, ov, iv] []) := by intro _; rfl)
    (hf : X.fn y = true ∨ X.env.scope.names.lookup y = some .local := by first | exact .inl rfl | exact .inr rfl | assumption)
    (ht : (assignEach [.Subscript (.Name x p0) ie tp, .Name y p1] X.env).length = 2 := by rfl) (hst : (assignEach [.Subscript (.Name x p0) ie tp, .Name y p1] X.env).findIdx? (·.1) = none := by rfl)
    (hq1 : (assignEach [.Subscript (.Name x p0) ie tp, .Name y p1] X.env).map (·.2) = assign (.Subscript (.Name x p0) ie tp) X.env :: (assignEach [.Name y p1] X.env).map (·.2) := by rfl)
    (hq2 : (assignEach [.Name y p1] X.env).map (·.2) = assign (.Name y p1) X.env :: (assignEach [] X.env).map (·.2) := by rfl)
    (hs : swapsWithSole [.Tuple [.Subscript (.Name x p0) ie tp, .Name y p1] kt tq] e pos.line X.env = pure false := by rfl) (hw : swappedStores [.Tuple [.Subscript (.Name x p0) ie tp, .Name y p1] kt tq] e X.env = pure none := by rfl)
    (h1 : (assignEach [.Tuple [.Subscript (.Name x p0) ie tp, .Name y p1] kt tq] X.env).map (·.2) = [assign (.Tuple [.Subscript (.Name x p0) ie tp, .Name y p1] kt tq) X.env] := by rfl) (hK : X.K = c.W.K := by rfl) :
    DS X c (.Assign [.Tuple [.Subscript (.Name x p0) ie tp, .Name y p1] kt tq] e pos) (mDmP i mi j m) :=
  (ps_asg he (pg_tup hc (pgs_cons (pg_sub (pe_var (i := i) hN hv hd hcd) hk set_list ha) (pgs_cons (pg_name (i := j) hNd hj hy hf) pgs_nil hq2) hq1) ht hst) hs hw h1).imp fun Dn σ H ⟨F, u, ρ, S, h⟩ => ⟨F, u, ρ, S, (flowO.after S h).imp fun d u1 F1 H1 _ s1 g1 h1 v rv => by
    have h2 := h1.2
    split at h2
    · rename_i a b _hh
      obtain ⟨q, vs, rfl, hq, rs⟩ := rv.tup_
      obtain ⟨v1, v2, rfl, r1, r2⟩ := rs.two
      refine ⟨q, _, rfl, by rw [hK]; exact sq_t g1.ex hq, rfl, v1, [v2], rfl, ?_⟩
      cases ho : vSh ρ i with
      | none =>
        exfalso
        unfold M.bind at h2
        cases e1 : mi ρ u1 with
        | none => rw [e1] at h2; exact h2
        | some y => rw [e1, ho] at h2; exact h2
      | some dd =>
        obtain ⟨vd, ev, rvd⟩ := h1.1.var ho
        refine ⟨vd, ev, F1, u1, ρ, h1.1, (flowO.after h1.1 h2).imp fun k u2 F2 H2 _ s2 g2 h3 w rw => ?_⟩
        obtain ⟨d', e2, h4⟩ := flowO.lft h3.1 h3.2
        rw [ho] at e2
        cases e2
        have h5 := put_ok (Dn := Dn) (ρ' := ρ.set j (.sh (.int b))) (σ' := σ.set j (some v2)) h3.1 (rvd.mono s2.ef) rw (r1.mono s2.ef) h4 fun {u' F' H'} z => by
          rw [r2.int_]
          exact z.set (.int b)
        obtain ⟨pp, xs, kk, n, q1, q2, q3, q4, q5⟩ := h5
        exact ⟨pp, xs, kk, n, q1, q2, q3, q4, v2, [], rfl, rfl, q5⟩
    · exact False.elim h2⟩
end

/-! ### defs that return a fresh list -/
def spL (W : Wo) (n : Nat) (mf : List D → M (List D)) : Sp := fun vs H Q _ => vs.length = n ∧ ∃ p F u ds, Gd p u F H ∧ Reps W p F vs ds ∧
  After p F H (mf ds u) fun es _ F' H' => ∀ q ws, F' q = none → H q = none → H' q = some (.lst ws) → Reps W p F' ws es → Q (.ref q) H'
def mFnL (n : Nat) (mb : MS) : List D → M (List D) := fun ds u => match mb (startE n ds) u with
  | some (.rl d, u') => some (d, u')
  | _ => none
def mRetL (m : MA) : MS := fun ρ => M.bind (m ρ) fun ds => M.pure (.rl ds)
section
variable {X : Cx} {c : Cf} {pos : Pos} {e : Expr} {ml : MA}
theorem dRetL (he : DL X c e ml) : DS X c (.Return (some e) pos) (mRetL ml) :=
  (ps_ret he).imp fun Dn σ H ⟨F, u, ρ, S, h⟩ => ⟨F, u, ρ, S, (flowO.after S h).imp fun ds u1 F1 H1 _ s1 g1 h1 q vs hF hn hq r =>
    h1.2 q vs F1 H1 h1.1.ent g1 hF (S.ent.back S.gd.ne hn) hq r⟩
end
section
variable {P : Program} {w : World} {K : PySem.W.Frag} {mg : Str → Option Value} {base : Heap} {x qual : Str} {params : Arguments} {body : List Stmt} {scope : Scope} {dvs : List V} {kws : List (Str × V)} {f : Addr} {fd : FuncData} {W : Wo} {N ps : List Str} {k : Nat} {mb : MS}
theorem fn_mirL (F : FunD K x qual params body scope dvs kws f fd) (S : FnScope N ps scope)
    (hb : ∀ (cdv : Value) (A : Around) (outer : List PySem.Env) (s : Shared) (H : Hp) (E : XK) (p : Addr) (F0 : Hp), Room k (A.deeper (envOfC qual scope s.heap.objs.size f cdv)) → DB (cxOf CX0 P w K mg base N qual scope f cdv A outer s H E).nox ⟨W, p, F0, H, 0, noX⟩ body mb) :
    FnOk P w K mg base CX0 (k + 1) f fd ps (spL W ps.length (mFnL N.length mb)) := by
  refine F.ok S (fun vs H Q E h => h.1) (fun cdv A outer s H vs Q E hr h => ?_)
  obtain ⟨hl, p, F0, u, ds, g, r, h⟩ := h
  refine ⟨_, PSs.nox (hb cdv A outer s H E p F0 hr), F0, u, startE N.length ds, ⟨Stp.refl, g, env_start r⟩, ?_⟩
  unfold mFnL at h
  cases e : mb (startE N.length ds) u with
  | none => rw [e] at h; exact h
  | some y =>
    obtain ⟨fl, u1⟩ := y
    rw [e] at h
    cases fl with
    | rl es =>
      intro q ws F' H' s' g' hF hn hq rw
      have h2 : After p F0 H (some (es, u1)) (fun es _ F' H' => ∀ q ws, F' q = none → H q = none → H' q = some (.lst ws) → Reps W p F' ws es → Q (.ref q) H') := h
      exact h2 F' H' s' g' q ws hF hn hq rw
    | nx ρ' => exact False.elim h
    | rt d => exact False.elim h
    | bk ρ' => exact False.elim h
    | ct ρ' => exact False.elim h
    | ex ρ' k' ks' ds' => exact False.elim h
end
def mCallL (n : Nat) (mf : List D → M (List D)) (ms : MA) : MA := fun ρ => M.bind (ms ρ) fun ds => if ds.length = n then mf ds else lft none
section
variable {X : Cx} {c : Cf} {k n : Nat} {f : Addr} {fd : FuncData} {ps : List Str} {x : Str} {p pos : Pos} {e : Expr} {es : List Expr} {ms : MA} {mf : List D → M (List D)}
theorem dCallL (G : FnOk X.prog X.w X.K X.mg X.base CX0 k f fd ps (spL c.W n mf)) (hr : Room k X.A) (hg : Gl X x) (hm : X.mg x = some (.ref f)) (hk : PySem.W.keepIn X.K (.ref f) = true) (hb : Binds X.K fd ps [])
    (ha : DA X c (e :: es) ms) (hdb : (x == ("__debug__" : Str)) = false := by decide) (he : starEach (e :: es) X.env = (false, eval e X.env) :: starEach es X.env := by rfl) (hpl : (backTo pos (starEach es X.env)).any (·.1) = false := by rfl) :
    DL X c (.Call (.Name x p) (e :: es) [] pos) (mCallL n mf ms) :=
  (pe_call G hr hg hm hk hb .nil pass0 ha hdb he hpl).imp fun σ H Q ⟨F, u, ρ, S, h⟩ => ⟨F, u, ρ, S, (After.split h).imp fun ds u1 F1 H1 _ s1 g1 h1 vs rvs => by
    show spL c.W n mf (vs ++ []) H1 Q E0
    rw [List.append_nil]
    split at h1
    · rename_i hl
      exact ⟨rvs.1.trans hl, c.p, F1, u1, ds, g1, rvs, h1.imp fun es u2 F2 H2 _ s2 g2 h2 q ws hF hn hq rw => h2 q ws hF (s1.back g1.ne hn) hq rw⟩
    · exact False.elim h1⟩
/-- f(g(..)), where g makes the purse -/
def mWith (mf : List D → M D) (ml : MA) : ME := fun ρ => M.bind (ml ρ) fun ds => lft (match intsD ds with
  | some l => match mf [.pur] (.real l) with
    | some (.bl b, _) => some (.bl b)
    | _ => none
  | none => none)
end
end Mi

set_option Elab.async false
set_option linter.all false
set_option maxRecDepth 100000
set_option maxHeartbeats 4000000
/-! MiF: the law's end. -/
namespace Mi
open PySem PySem.Spec PyProof.Rows L2 He
variable [TB : Tabl]
theorem lookup_mem' {a : Addr} {o : Obj} : ∀ {l : PySem.W.Frag}, l.lookup a = some o → (a, o) ∈ l
  | [], h => by cases h
  | (b, u) :: r, h => by
    have h2 : (match a == b with | true => some u | false => r.lookup a) = some o := h
    cases q : (a == b) with
    | true =>
      rw [q] at h2
      have e : u = o := Option.some.inj h2
      rw [beq_iff_eq.mp q, e]
      exact List.mem_cons_self
    | false =>
      rw [q] at h2
      exact List.mem_cons_of_mem _ (lookup_mem' h2)
/-- all but the tables -/
def noTb (H : Hp) : Hp := fun b => match H b with
  | some (.tbl _) => none
  | x => x
theorem noTb_of {H : Hp} {a : Addr} {o : HO} (h : H a = some o) (n : ∀ ps, o ≠ .tbl ps) : noTb H a = some o := by
  unfold noTb
  rw [h]
  cases o with
  | tbl ps => exact absurd rfl (n ps)
  | _ => rfl
theorem of_noTb {H : Hp} {a : Addr} {o : HO} (h : noTb H a = some o) : H a = some o ∧ ∀ ps, o ≠ .tbl ps := by
  unfold noTb at h
  cases e : H a with
  | none => rw [e] at h; cases h
  | some u =>
    rw [e] at h
    cases u with
    | tbl ps => cases h
    | _ => cases h; exact ⟨rfl, fun _ z => by cases z⟩
theorem law_sp {cs : List Str} {K : PySem.W.Frag} {mf : List D → M D} {E : XK} (hK : noListsB K = true) (n : Nat) (h : ∀ (ns : List Int) (o : HO), ns.length ≤ n → ∃ u', mf [.scr ns] (.idle o) = some (.bl true, u')) (H : Hp) (a : Addr) (ns : List Int) (hl : ns.length ≤ n) (hS : SqL K H a (ns.map V.int)) (hT : LamX.Tabs TB.T H) :
    spM (WW cs K) 1 mf [.ref a] H (fun v _ => v = .bl true) E := by
  have ex : ∃ o, H a = some o ∧ (∀ ps, o ≠ .tbl ps) ∧ SqL K (noTb H) a (ns.map V.int) := by
    rcases hS with (z | ⟨o, z⟩) | ⟨o, its, m, hk, hc, _⟩
    · exact ⟨_, z, (by intro _ z; cases z), .inl (.inl (noTb_of z (by intro _ z; cases z)))⟩
    · exact ⟨_, z, (by intro _ z; cases z), .inl (.inr ⟨o, noTb_of z (by intro _ z; cases z)⟩)⟩
    · exfalso
      have := List.all_eq_true.mp hK _ (lookup_mem' hk)
      simp [hc] at this
  obtain ⟨o, ho, hn, hS'⟩ := ex
  obtain ⟨u', hu⟩ := h ns o hl
  refine ⟨rfl, a, noTb H, .idle o, [.scr ns], ⟨fun _ _ e => (of_noTb e).1, ho, (fun l e => by cases e), fun b ps z => (of_noTb z).2 ps rfl, hT, hn⟩, Reps.cons (.scr hS') Reps.nil, ?_⟩
  rw [hu]
  exact fun F' H' _ _ v rv => rv.bl_
/-! ### name = [..] on one line, the name a plain local -/
def mBorLs (is : List Nat) (ml : MA) : MA := is.foldr mBorL ml
section
variable {X : Cx} {c : Cf}
theorem rdBorL {i : Nat} {ml : MA} : ∀ σ H Q, rdL c (mBorL i ml) σ H Q → rdL c ml σ H Q := fun σ H Q ⟨F, u, ρ, S, h⟩ => by
  unfold mBorL M.bind at h
  cases e1 : ml (frz i ρ) u with
  | none => rw [e1] at h; exact False.elim h
  | some y =>
    obtain ⟨d, u1⟩ := y
    rw [e1] at h
    obtain ⟨hn, h2⟩ := lft_if (b := noLsts d = true) (a := d) h
    rcases S.lend i with z | ⟨q, ws, F1, S1, hq, back⟩
    · rw [z] at e1
      exact ⟨F, u, ρ, S, by rw [e1]; exact h2⟩
    · refine ⟨F1, u, frz i ρ, S1, ?_⟩
      rw [e1]
      intro F' H' s' g' q' vs hF hn' hv rv
      obtain ⟨s2, g2, hq2⟩ := back _ _ _ s' g'
      refine h2 _ _ s2 g2 q' vs ?_ hn' hv ⟨rv.1, fun j v d e2 e3 => (rv.2 j v d e2 e3).without hq2 (fun a o ha e => by rw [del_ne ha]; exact e) (noLsts_at hn e3)⟩
      unfold del
      split
      · rfl
      · exact hF
theorem rdBorLs {ml : MA} : ∀ (is : List Nat) σ H Q, rdL c (mBorLs is ml) σ H Q → rdL c ml σ H Q
  | [], _, _, _, h => h
  | _ :: is, σ, H, Q, h => rdBorLs is σ H Q (rdBorL σ H Q h)
variable {elt tg iter : Expr} {ifs : List Expr} {scope : Scope} {own : List (Str × Nat)} {pos spos py : Pos} {is : List Nat} {mi : MA} {g : MG} {mt : MT} {me : ME} {y : Str} {st : Stmt} {R : TE} {ml : MA}
theorem setO_of (i : Nat) (h : PS X st (tAsg R (gName i))) (hR : ∀ σ H Q, rdL c ml σ H Q → R σ H Q) : DS X c st (mSetO i ml) :=
  h.imp fun Dn σ H ⟨F, u, ρ, S, z⟩ => hR σ H _ ⟨F, u, ρ, S, (flowO.after S z).imp fun ds u1 F1 H1 _ s1 g1 h1 q vs hF hn hq r => h1.2 _ F1 H1 (Same.refl _) (Sta.setO S s1 g1 hF hn hq r)⟩
theorem dLcSetO (i : Nat) (bs : List Nat) (hc : X.calm = true) (hN : X.N.Nodup) (hy : X.N[i]? = some y) (hyl : X.env.scope.names.lookup y = some .local)
    (hsw : swapsWith (.ListComp elt [⟨tg, iter, ifs, 0⟩] scope pos) (some (.Name y py)) spos.line X.env = pure true) (hi : DI X c tg iter mi) (ok : BlkOk X.N X.env.scope scope own)
    (hg : ∀ (s : Shared) (H : Hp) (C : Addr) (cl : List (Str × Addr)) (fp : List Addr), DG (X.blk s H scope (compEnvC scope cl C X.env) fp) c tg is g)
    (ht : ∀ (s : Shared) (H : Hp) (C : Addr) (cl : List (Str × Addr)) (fp : List Addr), PTs (X.blk s H scope (compEnvC scope cl C X.env) fp) ifs (rdT c mt)) (he : ∀ (s : Shared) (H : Hp) (C : Addr) (cl : List (Str × Addr)) (fp : List Addr), DE (X.blk s H scope (compEnvC scope cl C X.env) fp) c elt me)
    (his : ∀ i ∈ is, i ∈ own.map (·.2) := by decide) (hs : ∀ x, foldedSetIterable iter X.env x = pure x := by intro _; rfl) : DS X c (.Assign [.Name y py] (.ListComp elt [⟨tg, iter, ifs, 0⟩] scope pos) spos) (mSetO i (mBorLs bs (mLcO (own.map (·.2)) mi g mt me))) :=
  setO_of i (ps_setLc hc hN hy hyl hsw hi ok hg ht he hs) fun σ H Q h => by
    obtain ⟨F, u, ρ, S, h⟩ := rdBorLs bs σ H Q h
    exact rdLc his σ H Q F u ρ S h
theorem set_of (i : Nat) (h : PS X st (tAsg R (gName i))) (hR : ∀ σ H Q, rdL c ml σ H Q → R σ H Q) : DS X c st (mSet i (mFz ml)) :=
  h.imp fun Dn σ H ⟨F, u, ρ, S, z⟩ => hR σ H _ (by
    have e : PE X (.Constant .none 0 ⟨0, 0, 0, 0⟩) (rdL c ml) → True := fun _ => trivial
    have z2 := flowO.after S z
    refine ⟨F, u, ρ, S, ?_⟩
    unfold mFz M.bind at z2
    cases e1 : ml ρ u with
    | none => rw [e1] at z2; exact z2
    | some x =>
      obtain ⟨ds, u1⟩ := x
      rw [e1] at z2
      intro F1 H1 s1 g1 q ws hF hn hq r
      have h2 : After c.p F H (some (D.lst ds, u1)) (fun a u1 F1 H1 => Sta c u1 F1 H1 σ ρ ∧ flowO c F1 Dn (M.pure (.nx (ρ.set i (.sh a))) u1)) := z2
      have hsm : Same F1 (upd F1 q (.lst ws)) := fun a o e => by rw [upd_ne (fun z => by rw [z, hF] at e; cases e)]; exact e
      have hpq : c.p ≠ q := fun z => S.gd.ne (z ▸ hn)
      have h3 := h2 (upd F1 q (.lst ws)) H1 ⟨s1.ef.trans hsm, s1.eh, s1.et, fun a o e => ?_⟩ ⟨fun a o e => ?_, g1.pu, fun l e => by rw [upd_ne hpq]; exact g1.off l e, nt_upd g1.nt (by intro _ z; cases z), g1.tb, g1.hp⟩
      · exact h3.2 _ _ _ (Same.refl _) (h3.1.set (Rep.mkL upd_same (r.mono hsm)))
      · by_cases ha : a = q
        · subst ha; exact .inr hn
        · rw [upd_ne ha] at e; exact s1.nw a o e
      · by_cases ha : a = q
        · subst ha; rw [upd_same] at e; cases e; exact hq
        · rw [upd_ne ha] at e; exact g1.ex a o e)
theorem dLcSet (i : Nat) (bs : List Nat) (hc : X.calm = true) (hN : X.N.Nodup) (hy : X.N[i]? = some y) (hyl : X.env.scope.names.lookup y = some .local)
    (hsw : swapsWith (.ListComp elt [⟨tg, iter, ifs, 0⟩] scope pos) (some (.Name y py)) spos.line X.env = pure true) (hi : DI X c tg iter mi) (ok : BlkOk X.N X.env.scope scope own)
    (hg : ∀ (s : Shared) (H : Hp) (C : Addr) (cl : List (Str × Addr)) (fp : List Addr), DG (X.blk s H scope (compEnvC scope cl C X.env) fp) c tg is g)
    (ht : ∀ (s : Shared) (H : Hp) (C : Addr) (cl : List (Str × Addr)) (fp : List Addr), PTs (X.blk s H scope (compEnvC scope cl C X.env) fp) ifs (rdT c mt)) (he : ∀ (s : Shared) (H : Hp) (C : Addr) (cl : List (Str × Addr)) (fp : List Addr), DE (X.blk s H scope (compEnvC scope cl C X.env) fp) c elt me)
    (his : ∀ i ∈ is, i ∈ own.map (·.2) := by decide) (hs : ∀ x, foldedSetIterable iter X.env x = pure x := by intro _; rfl) : DS X c (.Assign [.Name y py] (.ListComp elt [⟨tg, iter, ifs, 0⟩] scope pos) spos) (mSet i (mFz (mBorLs bs (mLcO (own.map (·.2)) mi g mt me)))) :=
  set_of i (ps_setLc hc hN hy hyl hsw hi ok hg ht he hs) fun σ H Q h => by
    obtain ⟨F, u, ρ, S, h⟩ := rdBorLs bs σ H Q h
    exact rdLc his σ H Q F u ρ S h
end
end Mi

set_option Elab.async false
set_option linter.all false
set_option maxRecDepth 100000
set_option maxHeartbeats 4000000
/-! MiW: what a mirror gives, told by its parts. -/
namespace Mi
open PySem L2
/-- laws without lambdas -/
instance (priority := 50) noTabl : Tabl := ⟨[], false⟩
def Ok {α : Type} (m : M α) (u : PuS) (P : α → PuS → Prop) : Prop := ∃ a u', m u = some (a, u') ∧ P a u'
/-- a branch -/
def Br (b : Bool) (P Q : Prop) : Prop := if b = true then P else Q
@[simp] theorem br_t {P Q : Prop} : Br true P Q ↔ P := by unfold Br; simp
@[simp] theorem br_f {P Q : Prop} : Br false P Q ↔ Q := by unfold Br; simp
@[simp] theorem br_n {b : Bool} {P Q : Prop} : Br (!b) P Q ↔ Br b Q P := by cases b <;> simp
/-- d is a truth -/
def OnB (d : D) (P : Bool → Prop) : Prop := ∃ b, d = .bl b ∧ P b
@[simp] theorem onB_bl {b : Bool} {P : Bool → Prop} : OnB (.bl b) P ↔ P b := ⟨fun ⟨_, e, h⟩ => by cases e; exact h, fun h => ⟨b, rfl, h⟩⟩
theorem brd {p : Prop} [Decidable p] {P Q : Prop} (h1 : p → P) (h2 : ¬ p → Q) : Br (decide p) P Q := by
  by_cases h : p <;> simp [h, h1, h2]
section
variable {α β : Type} {m : M α} {f : α → M β} {u u' : PuS} {a : α} {P Q : α → PuS → Prop} {R : β → PuS → Prop}
theorem Ok.mono (h : Ok m u P) (k : ∀ a u', P a u' → Q a u') : Ok m u Q := by
  obtain ⟨a, u', e, p⟩ := h
  exact ⟨a, u', e, k a u' p⟩
theorem ok_of (e : m u = some (a, u')) : Ok m u P ↔ P a u' := by
  constructor
  · rintro ⟨b, v, e2, p⟩
    rw [e] at e2
    cases e2
    exact p
  · exact fun p => ⟨a, u', e, p⟩
@[simp] theorem ok_pure : Ok (M.pure a) u P ↔ P a u := ok_of rfl
@[simp] theorem ok_bind : Ok (M.bind m f) u R ↔ Ok m u fun a u1 => Ok (f a) u1 R := by
  constructor
  · rintro ⟨b, v, e, p⟩
    obtain ⟨a, u1, e1, e2⟩ := bind_some e
    exact ⟨a, u1, e1, b, v, e2, p⟩
  · rintro ⟨a, u1, e1, b, v, e2, p⟩
    refine ⟨b, v, ?_, p⟩
    unfold M.bind
    rw [e1]
    exact e2
@[simp] theorem ok_lft {o : Option α} : Ok (lft o) u P ↔ ∃ a, o = some a ∧ P a u := by
  cases o with
  | none => constructor
            · rintro ⟨b, v, e, p⟩; cases e
            · rintro ⟨b, e, p⟩; cases e
  | some a => constructor
              · rintro ⟨b, v, e, p⟩; cases e; exact ⟨_, rfl, p⟩
              · rintro ⟨b, e, p⟩; cases e; exact ⟨_, _, rfl, p⟩
@[simp] theorem ok_lfts : Ok (lft (some a)) u P ↔ P a u := ok_of rfl
@[simp] theorem ok_none : Ok (lft (none : Option α)) u P ↔ False := by
  constructor
  · rintro ⟨b, v, e, p⟩; cases e
  · exact False.elim
@[simp] theorem ok_ite {c : Prop} [Decidable c] {m n : M α} : Ok (if c then m else n) u P ↔ if c then Ok m u P else Ok n u P := by split <;> rfl
end
section
variable {ρ : Env} {u : PuS} {P : D → PuS → Prop} {PT : Bool → PuS → Prop} {PA : List D → PuS → Prop} {PS : Fl → PuS → Prop} {m ma mb mi : ME} {t v : MT} {ms mk : MA} {i j n : Nat}
@[simp] theorem ok_var : Ok (mVar i ρ) u P ↔ ∃ d, vSh ρ i = some d ∧ P d u := ok_lft
@[simp] theorem ok_C {d : D} : Ok (mC d ρ) u P ↔ P d u := ok_pure
@[simp] theorem ok_bin {f : D → D → Option D} : Ok (mBin f ma mb ρ) u P ↔ Ok (ma ρ) u fun x u1 => Ok (mb ρ) u1 fun y u2 => ∃ z, f x y = some z ∧ P z u2 := by
  unfold mBin; simp only [ok_bind, ok_lft]
@[simp] theorem ok_un {f : D → Option D} : Ok (mUn f ma ρ) u P ↔ Ok (ma ρ) u fun x u1 => ∃ z, f x = some z ∧ P z u1 := by
  unfold mUn; simp only [ok_bind, ok_lft]
@[simp] theorem ok_CB {f : List D → Option D} : Ok (mCB f ms ρ) u P ↔ Ok (ms ρ) u fun x u1 => ∃ z, f x = some z ∧ P z u1 := by
  unfold mCB; simp only [ok_bind, ok_lft]
@[simp] theorem ok_CBO {f : List D → Option (List D)} : Ok (mCBO f ms ρ) u PA ↔ Ok (ms ρ) u fun x u1 => ∃ z, f x = some z ∧ PA z u1 := by
  unfold mCBO; simp only [ok_bind, ok_lft]
@[simp] theorem ok_Iof {f : List D → Option (List D)} : Ok (mIof f ms ρ) u PA ↔ Ok (ms ρ) u fun x u1 => ∃ z, f x = some z ∧ PA z u1 := by
  unfold mIof; simp only [ok_bind, ok_lft]
@[simp] theorem ok_nil : Ok (mNil ρ) u PA ↔ PA [] u := ok_pure
@[simp] theorem ok_cons : Ok (mCons m ms ρ) u PA ↔ Ok (m ρ) u fun x u1 => Ok (ms ρ) u1 fun xs u2 => PA (x :: xs) u2 := by
  unfold mCons; simp only [ok_bind, ok_pure]
@[simp] theorem ok_tup : Ok (mTup ms ρ) u P ↔ Ok (ms ρ) u fun xs u1 => xs.length ≤ 100000 ∧ P (.tup xs) u1 := by
  unfold mTup; simp only [ok_bind, ok_lft]
  constructor
  · refine fun h => h.mono fun a u' z => ?_
    obtain ⟨d, e, p⟩ := z
    split at e
    · cases e; exact ⟨by assumption, p⟩
    · cases e
  · refine fun h => h.mono fun a u' z => ⟨_, if_pos z.1, z.2⟩
@[simp] theorem ok_lstO : Ok (mLstO ms ρ) u PA ↔ Ok (ms ρ) u fun xs u1 => xs.length ≤ 100000 ∧ PA xs u1 := by
  unfold mLstO; simp only [ok_bind, ok_lft]
  constructor
  · refine fun h => h.mono fun a u' z => ?_
    obtain ⟨d, e, p⟩ := z
    split at e
    · cases e; exact ⟨by assumption, p⟩
    · cases e
  · refine fun h => h.mono fun a u' z => ⟨_, if_pos z.1, z.2⟩
@[simp] theorem ok_B : Ok (mB m ρ) u PT ↔ Ok (m ρ) u fun d u1 => OnB d fun b => PT b u1 := by
  unfold mB; simp only [ok_bind]
  constructor
  · refine fun h => h.mono fun a u' z => ?_
    cases a <;> first | exact ⟨_, rfl, ok_pure.mp z⟩ | exact (ok_none.mp z).elim
  · refine fun h => h.mono fun a u' z => ?_
    obtain ⟨b, rfl, p⟩ := z
    exact ok_pure.mpr p
@[simp] theorem ok_and : Ok (mAnd t v ρ) u PT ↔ Ok (t ρ) u fun b u1 => Br b (Ok (v ρ) u1 PT) (PT false u1) := by
  unfold mAnd; simp only [ok_bind, ok_ite, ok_pure, Br]
@[simp] theorem ok_or : Ok (mOr t v ρ) u PT ↔ Ok (t ρ) u fun b u1 => Br b (PT true u1) (Ok (v ρ) u1 PT) := by
  unfold mOr; simp only [ok_bind, ok_ite, ok_pure, Br]
@[simp] theorem ok_not : Ok (mNot t ρ) u PT ↔ Ok (t ρ) u fun b u1 => PT (!b) u1 := by
  unfold mNot; simp only [ok_bind, ok_pure]
@[simp] theorem ok_if : Ok (mIf t ma mb ρ) u P ↔ Ok (t ρ) u fun b u1 => Br b (Ok (ma ρ) u1 P) (Ok (mb ρ) u1 P) := by
  unfold mIf; simp only [ok_bind, ok_ite, Br]
@[simp] theorem ok_andV : Ok (mAndV ma mb ρ) u P ↔ Ok (ma ρ) u fun d u1 => OnB d fun b => Br b (Ok (mb ρ) u1 P) (P (.bl false) u1) := by
  unfold mAndV; simp only [ok_bind]
  constructor
  · refine fun h => h.mono fun a u' z => ?_
    cases a with
    | bl b => cases b <;> exact ⟨_, rfl, by simpa [ok_pure] using z⟩
    | _ => exact (ok_none.mp z).elim
  · refine fun h => h.mono fun a u' z => ?_
    obtain ⟨b, rfl, p⟩ := z
    cases b <;> simpa [ok_pure] using p
@[simp] theorem ok_notV : Ok (mNotV ma ρ) u P ↔ Ok (ma ρ) u fun d u1 => OnB d fun b => P (.bl (!b)) u1 := by
  unfold mNotV; simp only [ok_bind]
  constructor
  · refine fun h => h.mono fun a u' z => ?_
    cases a with
    | bl b => exact ⟨_, rfl, by simpa [ok_pure] using z⟩
    | _ => exact (ok_none.mp z).elim
  · refine fun h => h.mono fun a u' z => ?_
    obtain ⟨b, rfl, p⟩ := z
    simpa [ok_pure] using p
@[simp] theorem ok_Fz : Ok (mFz ms ρ) u P ↔ Ok (ms ρ) u fun ds u1 => P (.lst ds) u1 := by
  unfold mFz; simp only [ok_bind, ok_pure]
@[simp] theorem ok_sl {ml mh : MO} : Ok (mSl m ml mh ρ) u P ↔ Ok (m ρ) u fun d u1 => Ok (ml ρ) u1 fun lo u2 => Ok (mh ρ) u2 fun hi u3 => ∃ z, slD d lo hi = some z ∧ P z u3 := by
  unfold mSl; simp only [ok_bind, ok_lft]
@[simp] theorem ok_slO {ml mh : MO} : Ok (mSlO m ml mh ρ) u PA ↔ Ok (m ρ) u fun d u1 => Ok (ml ρ) u1 fun lo u2 => Ok (mh ρ) u2 fun hi u3 => ∃ ds, d = .lst ds ∧ PA (cutD ds lo hi) u3 := by
  unfold mSlO; simp only [ok_bind, ok_lft]
  constructor
  · refine fun h => h.mono fun a u1 z => z.mono fun lo u2 z => z.mono fun hi u3 z => ?_
    obtain ⟨d, e, p⟩ := z
    cases a <;> first | (cases e; exact ⟨_, rfl, p⟩) | cases e
  · refine fun h => h.mono fun a u1 z => z.mono fun lo u2 z => z.mono fun hi u3 z => ?_
    obtain ⟨d, rfl, p⟩ := z
    exact ⟨_, rfl, p⟩
@[simp] theorem ok_On {P : Option Int → PuS → Prop} : Ok (mOn ρ) u P ↔ P none u := ok_pure
@[simp] theorem ok_Os {P : Option Int → PuS → Prop} : Ok (mOs m ρ) u P ↔ Ok (m ρ) u fun d u1 => ∃ i, d = .int i ∧ P (some i) u1 := by
  unfold mOs; simp only [ok_bind]
  constructor
  · refine fun h => h.mono fun a u' z => ?_
    cases a <;> first | exact ⟨_, rfl, ok_pure.mp z⟩ | exact (ok_none.mp z).elim
  · refine fun h => h.mono fun a u' z => ?_
    obtain ⟨b, rfl, p⟩ := z
    exact ok_pure.mpr p
@[simp] theorem ok_call {mf : List D → M D} : Ok (mCall n mf ms ρ) u P ↔ Ok (ms ρ) u fun ds u1 => ds.length = n ∧ Ok (mf ds) u1 P := by
  unfold mCall; simp only [ok_bind, ok_ite]
  constructor
  · refine fun h => h.mono fun a u' z => ?_
    split at z
    · exact ⟨by assumption, z⟩
    · exact (ok_none.mp z).elim
  · refine fun h => h.mono fun a u' z => ?_
    rw [if_pos z.1]; exact z.2
@[simp] theorem ok_callL {mf : List D → M (List D)} : Ok (mCallL n mf ms ρ) u PA ↔ Ok (ms ρ) u fun ds u1 => ds.length = n ∧ Ok (mf ds) u1 PA := by
  unfold mCallL; simp only [ok_bind, ok_ite]
  constructor
  · refine fun h => h.mono fun a u' z => ?_
    split at z
    · exact ⟨by assumption, z⟩
    · exact (ok_none.mp z).elim
  · refine fun h => h.mono fun a u' z => ?_
    rw [if_pos z.1]; exact z.2
@[simp] theorem ok_self {k : Str} {mf : List D → M D} : Ok (mSelf k mf m ρ) u P ↔ Ok (m ρ) u fun d u1 => ∃ ks ds, d = .obj k ks ds ∧ Ok (mf [.obj k ks ds]) u1 P := by
  unfold mSelf; simp only [ok_bind]
  constructor
  · refine fun h => h.mono fun a u' z => ?_
    cases a with
    | obj c ks ds =>
      simp only [ok_ite] at z
      split at z
      · rename_i h; subst h; exact ⟨_, _, rfl, z⟩
      · exact (ok_none.mp z).elim
    | _ => exact (ok_none.mp z).elim
  · refine fun h => h.mono fun a u' z => ?_
    obtain ⟨ks, ds, rfl, z⟩ := z
    simp only [ok_ite, if_true]; exact z
@[simp] theorem ok_make {k : Str} {mf : List D → M (List Str × List D)} : Ok (mMake k n mf ms ρ) u P ↔ Ok (ms ρ) u fun ds u1 => ds.length = n ∧ Ok (mf ds) u1 fun r u2 => P (.obj k r.1 r.2) u2 := by
  unfold mMake; simp only [ok_bind, ok_ite]
  constructor
  · refine fun h => h.mono fun a u' z => ?_
    split at z
    · exact ⟨by assumption, by simpa only [ok_bind, ok_pure] using z⟩
    · exact (ok_none.mp z).elim
  · refine fun h => h.mono fun a u' z => ?_
    rw [if_pos z.1]; simpa only [ok_bind, ok_pure] using z.2
@[simp] theorem ok_ixO : Ok (mIxO i mi ρ) u P ↔ Ok (mi ρ) u fun k u1 => ∃ ds j z, vOw ρ i = some ds ∧ k = .int j ∧ atI ds j = some z ∧ P z u1 := by
  unfold mIxO; simp only [ok_bind, ok_lft]
  constructor
  · refine fun h => h.mono fun a u' z => ?_
    obtain ⟨ds, e, d, e2, p⟩ := z
    cases a <;> first | exact ⟨ds, _, d, e, rfl, e2, p⟩ | cases e2
  · refine fun h => h.mono fun a u' z => ?_
    obtain ⟨ds, j, z, e, rfl, e2, p⟩ := z
    exact ⟨ds, e, z, e2, p⟩
@[simp] theorem ok_lenO : Ok (mLenO i ρ) u P ↔ ∃ ds, vOw ρ i = some ds ∧ P (.int ds.length) u := by
  unfold mLenO; simp only [ok_bind, ok_lft, ok_pure]
@[simp] theorem ok_Iany : Ok (mIany m ρ) u PA ↔ Ok (m ρ) u fun d u1 => ∃ ds, itD d = some ds ∧ PA ds u1 := by
  unfold mIany; simp only [ok_bind, ok_lft]
@[simp] theorem s_itL {ds : List D} : itD (.lst ds) = some ds := rfl
@[simp] theorem s_itT {ds : List D} : itD (.tup ds) = some ds := rfl
@[simp] theorem ok_lcO {vs : List Nat} {g : MG} {mt : MT} {me : ME} : Ok (mLcO vs ms g mt me ρ) u PA ↔ Ok (ms ρ) u fun ds u1 => ds.length ≤ 100000 ∧ Ok (lcD g mt me (wipeE ρ vs) ds) u1 PA := by
  unfold mLcO; simp only [ok_bind, ok_ite]
  constructor
  · refine fun h => h.mono fun a u' z => ?_
    split at z
    · exact ⟨by assumption, z⟩
    · exact (ok_none.mp z).elim
  · refine fun h => h.mono fun a u' z => ?_
    rw [if_pos z.1]; exact z.2
@[simp] theorem ok_bor : Ok (mBor i m ρ) u P ↔ Ok (m (frz i ρ)) u fun d u1 => noLst d = true ∧ P d u1 := by
  unfold mBor; simp only [ok_bind, ok_lft]
  constructor
  · refine fun h => h.mono fun a u' z => ?_
    obtain ⟨d, e, p⟩ := z
    split at e
    · cases e; exact ⟨by assumption, p⟩
    · cases e
  · refine fun h => h.mono fun a u' z => ⟨_, if_pos z.1, z.2⟩
@[simp] theorem ok_borT : Ok (mBorT i t ρ) u PT ↔ Ok (t (frz i ρ)) u PT := Iff.rfl
@[simp] theorem ok_borL : Ok (mBorL i ms ρ) u PA ↔ Ok (ms (frz i ρ)) u fun d u1 => noLsts d = true ∧ PA d u1 := by
  unfold mBorL; simp only [ok_bind, ok_lft]
  constructor
  · refine fun h => h.mono fun a u' z => ?_
    obtain ⟨d, e, p⟩ := z
    split at e
    · cases e; exact ⟨by assumption, p⟩
    · cases e
  · refine fun h => h.mono fun a u' z => ⟨_, if_pos z.1, z.2⟩
@[simp] theorem ok_ixP : Ok (mIxP i mi ρ) u P ↔ Ok (mi ρ) u fun k u1 => ∃ d, vSh ρ i = some d ∧ Ok (getP d k) u1 P := by
  unfold mIxP; simp only [ok_bind, ok_lft]
/-! statements -/
@[simp] theorem ok_next : Ok (mNext ρ) u PS ↔ PS (.nx ρ) u := ok_pure
@[simp] theorem ok_seq {m n : MS} : Ok (mSeq m n ρ) u PS ↔ Ok (m ρ) u fun f u1 => match f with
    | .nx ρ1 => Ok (n ρ1) u1 PS
    | f' => PS f' u1 := by
  unfold mSeq; simp only [ok_bind]
  constructor
  · refine fun h => h.mono fun f u' z => ?_
    cases f <;> first | exact z | exact ok_pure.mp z
  · refine fun h => h.mono fun f u' z => ?_
    cases f <;> first | exact z | exact ok_pure.mpr z
@[simp] theorem ok_drop : Ok (mDrop m ρ) u PS ↔ Ok (m ρ) u fun _ u1 => PS (.nx ρ) u1 := by unfold mDrop; simp only [ok_bind, ok_pure]
@[simp] theorem ok_ret : Ok (mRet m ρ) u PS ↔ Ok (m ρ) u fun d u1 => PS (.rt d) u1 := by unfold mRet; simp only [ok_bind, ok_pure]
@[simp] theorem ok_retL : Ok (mRetL ms ρ) u PS ↔ Ok (ms ρ) u fun d u1 => PS (.rl d) u1 := by unfold mRetL; simp only [ok_bind, ok_pure]
@[simp] theorem ok_ifS {m n : MS} : Ok (mIfS t m n ρ) u PS ↔ Ok (t ρ) u fun b u1 => Br b (Ok (m ρ) u1 PS) (Ok (n ρ) u1 PS) := by unfold mIfS; simp only [ok_bind, ok_ite, Br]
@[simp] theorem ok_brk : Ok (mBrk ρ) u PS ↔ PS (.bk ρ) u := ok_pure
@[simp] theorem ok_set : Ok (mSet i m ρ) u PS ↔ Ok (m ρ) u fun d u1 => PS (.nx (ρ.set i (.sh d))) u1 := by unfold mSet; simp only [ok_bind, ok_pure]
@[simp] theorem ok_setO : Ok (mSetO i ms ρ) u PS ↔ Ok (ms ρ) u fun d u1 => PS (.nx (ρ.set i (.ow d))) u1 := by unfold mSetO; simp only [ok_bind, ok_pure]
@[simp] theorem ok_stuck : Ok (mStuck ρ) u PS ↔ False := ok_none
@[simp] theorem ok_for {g : MG} {mb : MS} : Ok (mFor ms g mb ρ) u PS ↔ Ok (ms ρ) u fun ds u1 => Ok (loopD g mb ds ρ) u1 PS := by unfold mFor; simp only [ok_bind]
@[simp] theorem ok_app : Ok (mApp i m ρ) u PS ↔ Ok (m ρ) u fun d u1 => ∃ ds, vOw ρ i = some ds ∧ ds.length < 100000 ∧ PS (.nx (ρ.set i (.ow (ds ++ [d])))) u1 := by
  unfold mApp; simp only [ok_bind, ok_lft, ok_pure]
  constructor
  · refine fun h => h.mono fun f u' z => ?_
    obtain ⟨ds, e, _, e2, p⟩ := z
    split at e2
    · exact ⟨ds, e, by assumption, p⟩
    · cases e2
  · refine fun h => h.mono fun f u' z => ?_
    obtain ⟨ds, e, e2, p⟩ := z
    exact ⟨ds, e, (), if_pos e2, p⟩
@[simp] theorem ok_put {mv : ME} : Ok (mPut i mv mi ρ) u PS ↔ Ok (mv ρ) u fun d u1 => Ok (mi ρ) u1 fun k u2 => ∃ ds j n, vOw ρ i = some ds ∧ k = .int j ∧ ixN ds.length j = some n ∧ PS (.nx (ρ.set i (.ow (ds.set n d)))) u2 := by
  unfold mPut; simp only [ok_bind, ok_lft, ok_pure]
  constructor
  · refine fun h => h.mono fun f u' z => z.mono fun k u2 z => ?_
    obtain ⟨ds, e, n, e2, p⟩ := z
    cases k <;> first | exact ⟨ds, _, n, e, rfl, e2, p⟩ | cases e2
  · refine fun h => h.mono fun f u' z => z.mono fun k u2 z => ?_
    obtain ⟨ds, j, n, e, rfl, e2, p⟩ := z
    exact ⟨ds, e, n, e2, p⟩
@[simp] theorem ok_putP {mv : ME} : Ok (mPutP i mv mi ρ) u PS ↔ Ok (mv ρ) u fun v u1 => Ok (mi ρ) u1 fun k u2 => ∃ d, vSh ρ i = some d ∧ Ok (putP d k v) u2 fun _ u3 => PS (.nx ρ) u3 := by
  unfold mPutP; simp only [ok_bind, ok_lft, ok_pure]
@[simp] theorem ok_frz {m : MS} : Ok (mFrz i m ρ) u PS ↔ Ok (m (frz i ρ)) u PS := Iff.rfl
@[simp] theorem ok_asg {g : MG} : Ok (mAsg m g ρ) u PS ↔ Ok (m ρ) u fun d u1 => ∃ ρ1, g d ρ = some ρ1 ∧ PS (.nx ρ1) u1 := by
  unfold mAsg; simp only [ok_bind, ok_lft]
  constructor
  · refine fun h => h.mono fun f u' z => ?_
    obtain ⟨a, e, p⟩ := z
    cases e1 : g f ρ with
    | none => rw [e1] at e; cases e
    | some r => rw [e1] at e; cases e; exact ⟨r, rfl, p⟩
  · refine fun h => h.mono fun f u' z => ?_
    obtain ⟨a, e, p⟩ := z
    exact ⟨_, by rw [e]; rfl, p⟩
@[simp] theorem ok_Mnil {P : List Sd → PuS → Prop} : Ok (mMnil ρ) u P ↔ P [] u := ok_pure
@[simp] theorem ok_Msh {mm : MM} {P : List Sd → PuS → Prop} : Ok (mMsh m mm ρ) u P ↔ Ok (m ρ) u fun d u1 => Ok (mm ρ) u1 fun ds u2 => P (.sh d :: ds) u2 := by unfold mMsh; simp only [ok_bind, ok_pure]
@[simp] theorem ok_Mow {mm : MM} {P : List Sd → PuS → Prop} : Ok (mMow ms mm ρ) u P ↔ Ok (ms ρ) u fun d u1 => Ok (mm ρ) u1 fun ds u2 => P (.ow d :: ds) u2 := by unfold mMow; simp only [ok_bind, ok_pure]
@[simp] theorem ok_par {is : List Nat} {mm : MM} : Ok (mPar is mm ρ) u PS ↔ Ok (mm ρ) u fun sds u1 => sds.length = is.length ∧ PS (.nx (setAll is sds ρ)) u1 := by
  unfold mPar; simp only [ok_bind, ok_ite]
  constructor
  · refine fun h => h.mono fun f u' z => ?_
    split at z
    · exact ⟨by assumption, ok_pure.mp z⟩
    · exact (ok_none.mp z).elim
  · refine fun h => h.mono fun f u' z => ?_
    rw [if_pos z.1]; exact ok_pure.mpr z.2
@[simp] theorem ok_selfSet {ck fn : Str} : Ok (mSelfSet i ck fn m ρ) u PS ↔ Ok (m ρ) u fun d u1 => ∃ ks es, ρ[i]? = some (Sd.oi ck ks es) ∧ fn ∉ ks ∧ ks.length < 900 ∧ PS (.nx (ρ.set i (.oi ck (ks ++ [fn]) (es ++ [d])))) u1 := by
  unfold mSelfSet; simp only [ok_bind, ok_lft, ok_pure]
  constructor
  · refine fun h => h.mono fun f u' z => ?_
    obtain ⟨q, e, p⟩ := z
    split at e
    · split at e
      · rename_i e0 hh
        obtain ⟨rfl, h1, h2⟩ := hh
        cases e
        exact ⟨_, _, e0, h1, h2, p⟩
      · cases e
    · cases e
  · refine fun h => h.mono fun f u' z => ?_
    obtain ⟨ks, es, e, h1, h2, p⟩ := z
    exact ⟨(ks, es), by rw [e]; exact if_pos ⟨rfl, h1, h2⟩, p⟩
@[simp] theorem ok_fn {n : Nat} {mb : MS} {ds : List D} : Ok (mFn n mb ds) u P ↔ Ok (mb (startE n ds)) u fun f u1 => match f with
    | .rt d => P d u1
    | .nx _ => P .non u1
    | _ => False := by
  constructor
  · rintro ⟨a, u', e, p⟩
    unfold mFn at e
    cases e1 : mb (startE n ds) u with
    | none => rw [e1] at e; cases e
    | some y =>
      obtain ⟨f, u1⟩ := y
      rw [e1] at e
      cases f <;> first | (cases e; exact ⟨_, _, e1, p⟩) | cases e
  · rintro ⟨f, u1, e, p⟩
    cases f <;> first | exact ⟨_, u1, by unfold mFn; rw [e], p⟩ | exact False.elim p
@[simp] theorem ok_fnL {n : Nat} {mb : MS} {ds : List D} : Ok (mFnL n mb ds) u PA ↔ Ok (mb (startE n ds)) u fun f u1 => match f with
    | .rl d => PA d u1
    | _ => False := by
  constructor
  · rintro ⟨a, u', e, p⟩
    unfold mFnL at e
    cases e1 : mb (startE n ds) u with
    | none => rw [e1] at e; cases e
    | some y =>
      obtain ⟨f, u1⟩ := y
      rw [e1] at e
      cases f <;> first | (cases e; exact ⟨_, _, e1, p⟩) | cases e
  · rintro ⟨f, u1, e, p⟩
    cases f <;> first | exact ⟨_, u1, by unfold mFnL; rw [e], p⟩ | exact False.elim p
@[simp] theorem ok_init {n : Nat} {ck : Str} {mb : MS} {ds : List D} {P : List Str × List D → PuS → Prop} : Ok (mInit n ck mb ds) u P ↔ Ok (mb (startI n ck ds)) u fun f u1 => match f with
    | .nx ρ' => ∃ ks es, ρ'[0]? = some (Sd.oi ck ks es) ∧ P (ks, es) u1
    | _ => False := by
  constructor
  · rintro ⟨a, u', e, p⟩
    unfold mInit at e
    cases e1 : mb (startI n ck ds) u with
    | none => rw [e1] at e; cases e
    | some y =>
      obtain ⟨f, u1⟩ := y
      rw [e1] at e
      cases f with
      | nx ρ' =>
        refine ⟨_, _, e1, ?_⟩
        have e' : (match (ρ'[0]? : Option Sd) with
          | some (Sd.oi k ks es) => if k = ck then some ((ks, es), u1) else none
          | _ => none) = some (a, u') := e
        split at e'
        · rename_i e0
          split at e'
          · rename_i hk
            subst hk
            cases e'
            exact ⟨_, _, e0, p⟩
          · cases e'
        · cases e'
      | _ => cases e
  · rintro ⟨f, u1, e, p⟩
    cases f with
    | nx ρ' =>
      obtain ⟨ks, es, e0, p⟩ := p
      refine ⟨(ks, es), u1, ?_, p⟩
      unfold mInit
      rw [e]
      show (match (ρ'[0]? : Option Sd) with
          | some (Sd.oi k ks es) => if k = ck then some ((ks, es), u1) else none
          | _ => none) = _
      rw [e0]
      exact if_pos rfl
    | _ => exact False.elim p
end
/-! loops -/
theorem ok_loop {g : MG} {mb : MS} {P : Fl → PuS → Prop} (Inv : List D → Env → PuS → Prop)
    (step : ∀ d ds ρ u, Inv (d :: ds) ρ u → ∃ ρ1, g d ρ = some ρ1 ∧ Ok (mb ρ1) u fun f u' => match f with
      | .nx ρ2 => Inv ds ρ2 u'
      | .ct ρ2 => Inv ds ρ2 u'
      | .bk ρ2 => P (.nx ρ2) u'
      | .rt d => P (.rt d) u'
      | .rl d => P (.rl d) u'
      | .ex ρ2 k ks ds => P (.ex ρ2 k ks ds) u')
    (stop : ∀ ρ u, Inv [] ρ u → P (.nx ρ) u) : ∀ (ds : List D) (ρ : Env) (u : PuS), Inv ds ρ u → Ok (loopD g mb ds ρ) u P
  | [], ρ, u, h => ok_pure.mpr (stop ρ u h)
  | d :: ds, ρ, u, h => by
    obtain ⟨ρ1, e, h1⟩ := step d ds ρ u h
    unfold loopD
    rw [ok_bind, ok_lft]
    refine ⟨ρ1, e, ?_⟩
    rw [ok_bind]
    refine h1.mono fun f u' z => ?_
    cases f with
    | nx ρ2 => exact ok_loop Inv step stop ds ρ2 u' z
    | ct ρ2 => exact ok_loop Inv step stop ds ρ2 u' z
    | bk ρ2 => exact ok_pure.mpr z
    | rt d => exact ok_pure.mpr z
    | rl d => exact ok_pure.mpr z
    | ex ρ2 k ks ds => exact ok_pure.mpr z
/-- a comprehension that draws: each element has E, the state keeps I -/
theorem ok_lc {g : MG} {mt : MT} {me : ME} {ρ : Env} (I : PuS → Prop) (E : D → Prop) : ∀ (ds : List D) (u : PuS), I u → (∀ d ∈ ds, ∀ u, I u → ∃ ρ1, g d ρ = some ρ1 ∧ Ok (mt ρ1) u fun b u1 => b = true ∧ Ok (me ρ1) u1 fun y u2 => E y ∧ I u2) →
    Ok (lcD g mt me ρ ds) u fun ys u' => (ys.length = ds.length ∧ ∀ y ∈ ys, E y) ∧ I u'
  | [], u, hu, _ => ok_pure.mpr ⟨⟨rfl, fun y hy => by cases hy⟩, hu⟩
  | d :: ds, u, hu, h => by
    obtain ⟨ρ1, e, h1⟩ := h d List.mem_cons_self u hu
    unfold lcD
    rw [ok_bind, ok_lft]
    refine ⟨ρ1, e, ?_⟩
    rw [ok_bind]
    refine h1.mono fun b u1 z => ?_
    obtain ⟨rfl, z⟩ := z
    simp only [if_true, ok_bind]
    refine z.mono fun y u2 z2 => (ok_lc I E ds u2 z2.2 fun d hd => h d (List.mem_cons_of_mem _ hd)).mono fun ys u3 z3 => ?_
    rw [ok_pure]
    refine ⟨⟨by simp [z3.1.1], fun x hx => ?_⟩, z3.2⟩
    rcases List.mem_cons.mp hx with rfl | hx
    · exact z2.1
    · exact z3.1.2 x hx
theorem ok_list {g : MG} {mb : MS} {P : Fl → PuS → Prop} (xs : List D) (Inv : Nat → Env → PuS → Prop)
    (step : ∀ k d ρ u, xs[k]? = some d → Inv k ρ u → ∃ ρ1, g d ρ = some ρ1 ∧ Ok (mb ρ1) u fun f u' => match f with
      | .nx ρ2 => Inv (k + 1) ρ2 u'
      | .ct ρ2 => Inv (k + 1) ρ2 u'
      | .bk ρ2 => P (.nx ρ2) u'
      | .rt d => P (.rt d) u'
      | .rl d => P (.rl d) u'
      | .ex ρ2 k ks ds => P (.ex ρ2 k ks ds) u')
    (stop : ∀ ρ u, Inv xs.length ρ u → P (.nx ρ) u) (ρ : Env) (u : PuS) (h : Inv 0 ρ u) : Ok (loopD g mb xs ρ) u P := by
  refine ok_loop (fun ds ρ u => ∃ k, k ≤ xs.length ∧ ds = xs.drop k ∧ Inv k ρ u) ?_ ?_ _ ρ u ⟨0, Nat.zero_le _, rfl, h⟩
  · rintro d ds ρ u ⟨k, hk, e, hi⟩
    have hkn : k < xs.length := by
      rcases Nat.lt_or_ge k xs.length with z | z
      · exact z
      · rw [List.drop_eq_nil_of_le z] at e; cases e
    rw [List.drop_eq_getElem_cons hkn] at e
    obtain ⟨e1, e2⟩ := List.cons.inj e
    obtain ⟨ρ1, e4, h1⟩ := step k d ρ u (by rw [e1]; exact List.getElem?_eq_getElem hkn) hi
    refine ⟨ρ1, e4, h1.mono fun f u' z => ?_⟩
    cases f with
    | nx ρ2 => exact ⟨k + 1, hkn, e2, z⟩
    | ct ρ2 => exact ⟨k + 1, hkn, e2, z⟩
    | _ => exact z
  · rintro ρ u ⟨k, hk, e, hi⟩
    have hkn : k = xs.length := by
      have := congrArg List.length e
      simp at this
      omega
    subst hkn
    exact stop ρ u hi
theorem eq_of_ok {α : Type} {m : M α} {u : PuS} {a : α} (h : Ok m u fun b u' => b = a ∧ u' = u) : m u = some (a, u) := by
  obtain ⟨b, u', e, rfl, rfl⟩ := h
  exact e
theorem lc_is {g : MG} {mt : MT} {me : ME} {ρ : Env} {u : PuS} {f : Nat → D} {r : Nat → Env} {t : Nat → Bool} {e : Nat → D} : ∀ (is : List Nat), (∀ i ∈ is, g (f i) ρ = some (r i)) → (∀ i ∈ is, Ok (mt (r i)) u fun b u' => b = t i ∧ u' = u) →
    (∀ i ∈ is, t i = true → Ok (me (r i)) u fun b u' => b = e i ∧ u' = u) → lcD g mt me ρ (is.map f) u = some ((is.filter t).map e, u)
  | [], _, _, _ => rfl
  | i :: is, h1, h2, h3 => by
    have ih := lc_is is (fun x hx => h1 x (List.mem_cons_of_mem _ hx)) (fun x hx => h2 x (List.mem_cons_of_mem _ hx)) (fun x hx => h3 x (List.mem_cons_of_mem _ hx))
    refine eq_of_ok ?_
    rw [List.map_cons]
    unfold lcD
    rw [ok_bind, ok_lft]
    refine ⟨_, h1 i List.mem_cons_self, ?_⟩
    rw [ok_bind, ok_of (eq_of_ok (h2 i List.mem_cons_self))]
    cases ht : t i with
    | false =>
      rw [if_neg (by decide), ok_of ih]
      simp [ht]
    | true =>
      rw [if_pos rfl, ok_bind, ok_of (eq_of_ok (h3 i List.mem_cons_self ht)), ok_bind, ok_of ih, ok_pure]
      simp [ht]
/-- a comprehension over a range that draws nothing -/
theorem ok_lcr {g : MG} {mt : MT} {me : ME} {ρ : Env} {u : PuS} {lo : Int} {n : Nat} (r : Nat → Env) (t : Nat → Bool) (e : Nat → D) {P : List D → PuS → Prop} (h1 : ∀ i, i < n → g (.int (lo + (i : Nat))) ρ = some (r i)) (h2 : ∀ i, i < n → Ok (mt (r i)) u fun b u' => b = t i ∧ u' = u)
    (h3 : ∀ i, i < n → t i = true → Ok (me (r i)) u fun b u' => b = e i ∧ u' = u) (h : P (((List.range n).filter t).map e) u) : Ok (lcD g mt me ρ (rngD lo n)) u P := by
  have := lc_is (g := g) (mt := mt) (me := me) (ρ := ρ) (u := u) (f := fun i => D.int (lo + (i : Nat))) (r := r) (t := t) (e := e) (List.range n) (fun i hi => h1 i (List.mem_range.mp hi)) (fun i hi => h2 i (List.mem_range.mp hi)) (fun i hi => h3 i (List.mem_range.mp hi))
  exact (ok_of this).mpr h
/-- .. over a list -/
theorem ok_lcl {g : MG} {mt : MT} {me : ME} {ρ : Env} {u : PuS} {xs : List Int} (r : Int → Env) (t : Int → Bool) (e : Int → D) {P : List D → PuS → Prop} (h1 : ∀ x ∈ xs, g (.int x) ρ = some (r x)) (h2 : ∀ x ∈ xs, Ok (mt (r x)) u fun b u' => b = t x ∧ u' = u)
    (h3 : ∀ x ∈ xs, t x = true → Ok (me (r x)) u fun b u' => b = e x ∧ u' = u) (h : P ((xs.filter t).map e) u) : Ok (lcD g mt me ρ (xs.map D.int)) u P := by
  have : lcD g mt me ρ (xs.map D.int) u = some ((xs.filter t).map e, u) := by
    clear h
    induction xs with
    | nil => rfl
    | cons x xs ih =>
      have ih := ih (fun y hy => h1 y (List.mem_cons_of_mem _ hy)) (fun y hy => h2 y (List.mem_cons_of_mem _ hy)) (fun y hy => h3 y (List.mem_cons_of_mem _ hy))
      refine eq_of_ok ?_
      rw [List.map_cons]
      unfold lcD
      rw [ok_bind, ok_lft]
      refine ⟨_, h1 x List.mem_cons_self, ?_⟩
      rw [ok_bind, ok_of (eq_of_ok (h2 x List.mem_cons_self))]
      cases ht : t x with
      | false =>
        rw [if_neg (by decide), ok_of ih]
        simp [ht]
      | true =>
        rw [if_pos rfl, ok_bind, ok_of (eq_of_ok (h3 x List.mem_cons_self ht)), ok_bind, ok_of ih, ok_pure]
        simp [ht]
  exact (ok_of this).mpr h
theorem ok_with {mf : List D → M D} {ml : MA} {ρ : Env} {u : PuS} {P : D → PuS → Prop} (b : Bool) (h : Ok (ml ρ) u fun ds u1 => ∃ (l : List Int), ds = l.map D.int ∧ (Ok (mf [.pur]) (.real l) fun d _ => d = .bl b) ∧ P (.bl b) u1) : Ok (mWith mf ml ρ) u P := by
  unfold mWith
  rw [ok_bind]
  refine h.mono fun ds u1 z => ?_
  obtain ⟨l, rfl, ⟨d, u2, e, rfl⟩, p⟩ := z
  rw [ok_lft]
  refine ⟨.bl b, ?_, p⟩
  rw [intsD_map]
  show (match mf [.pur] (.real l) with
    | some (.bl b, _) => some (D.bl b)
    | _ => none) = _
  rw [e]
@[simp] theorem ok_yes {ρ : Env} {u : PuS} {P : Bool → PuS → Prop} : Ok (mYes ρ) u P ↔ P true u := ok_pure
@[simp] theorem ex_two {α β : Type} {a : α} {b : β} {Q : α → β → Prop} : (∃ x y, (a = x ∧ b = y) ∧ Q x y) ↔ Q a b := ⟨fun ⟨_, _, ⟨e1, e2⟩, h⟩ => by rw [← e1, ← e2] at h; exact h, fun h => ⟨a, b, ⟨rfl, rfl⟩, h⟩⟩
/-! data, for simp -/
section
variable {a b i j : Int} {xs ys : List D} {x y : D}
@[simp] theorem s_add : addD (.int a) (.int b) = some (.int (a + b)) := rfl
@[simp] theorem s_sub : subD (.int a) (.int b) = some (.int (a - b)) := rfl
theorem s_mul : mulD (.int a) (.int b) = if mulC a b = true then some (.int (a * b)) else none := rfl
@[simp] theorem s_neg : negD (.int a) = some (.int (-a)) := rfl
@[simp] theorem s_lt : ltD (.int a) (.int b) = some (.bl (decide (a < b))) := rfl
@[simp] theorem s_le : leD (.int a) (.int b) = some (.bl (decide (a ≤ b))) := rfl
@[simp] theorem s_gt : gtD (.int a) (.int b) = some (.bl (decide (b < a))) := rfl
@[simp] theorem s_ge : geD (.int a) (.int b) = some (.bl (decide (b ≤ a))) := rfl
@[simp] theorem e_mul {Q : D → Prop} : (∃ z, mulD (.int a) (.int b) = some z ∧ Q z) ↔ mulC a b = true ∧ Q (.int (a * b)) := by
  rw [s_mul]
  split
  · simp [*]
  · simp [*]
@[simp] theorem mulC_iff : mulC a b = true ↔ (-18446744073709551616 < a ∧ a < 18446744073709551616 ∨ -18446744073709551616 < b ∧ b < 18446744073709551616) ∨ a.natAbs.log2 + b.natAbs.log2 < 1000000 := by
  unfold mulC
  rw [Bool.or_eq_true_iff, decide_eq_true_iff, decide_eq_true_iff]
  exact Iff.rfl
@[simp] theorem e_mod {Q : D → Prop} : (∃ z, modD (.int a) (.int b) = some z ∧ Q z) ↔ 0 < b ∧ Q (.int (a % b)) := by
  show (∃ z, (if decide (0 < b) = true then some (D.int (a % b)) else none) = some z ∧ Q z) ↔ _
  by_cases h : 0 < b <;> simp [h]
theorem log_small (h : b.natAbs < 1000000000) : b.natAbs.log2 < 30 := by
  by_cases z : b.natAbs = 0
  · rw [z]; decide
  · exact (Nat.log2_lt z).mpr (by omega)
@[simp] theorem e_fdiv {Q : D → Prop} : (∃ z, fdivD (.int a) (.int b) = some z ∧ Q z) ↔ fdivC a b = true ∧ Q (.int (a / b)) := by
  show (∃ z, (if fdivC a b = true then some (D.int (a / b)) else none) = some z ∧ Q z) ↔ _
  by_cases h : fdivC a b = true <;> simp [h]
@[simp] theorem fdivC_small (h : 0 < b ∧ b < 1000000000) : fdivC a b = true := by
  unfold fdivC
  have := log_small (b := b) (by omega)
  exact decide_eq_true ⟨h.1, by omega⟩
@[simp] theorem e_pow {Q : D → Prop} : (∃ z, powD (.int a) (.int b) = some z ∧ Q z) ↔ powC a b = true ∧ Q (.int (a ^ b.toNat)) := by
  show (∃ z, (if powC a b = true then some (D.int (a ^ b.toNat)) else none) = some z ∧ Q z) ↔ _
  by_cases h : powC a b = true <;> simp [h]
@[simp] theorem e_dm {Q : D → Prop} : (∃ z, dmD [.int a, .int b] = some z ∧ Q z) ↔ dmC a b = true ∧ Q (.tup [.int (a / b), .int (a % b)]) := by
  show (∃ z, (if dmC a b = true then some (D.tup [.int (a / b), .int (a % b)]) else none) = some z ∧ Q z) ↔ _
  by_cases h : dmC a b = true <;> simp [h]
@[simp] theorem dmC_small (h : 0 < b ∧ b < 1000000000) : dmC a b = true := by
  unfold dmC
  have := log_small (b := b) (by omega)
  have e : Builtin.divisionGoesByPylong a b = false := by
    unfold Builtin.divisionGoesByPylong
    simp only []
    have hb : ¬ ((if (b == 0) = true then 0 else b.natAbs.log2 / 30 + 1) > 300) := by
      split
      · omega
      · omega
    simp only [hb, decide_false, Bool.false_and]
  rw [e, decide_eq_true h.1]; rfl
@[simp] theorem e_rng1 {Q : List D → Prop} : (∃ z, rng1 [.int j] = some z ∧ Q z) ↔ (-100000 ≤ j ∧ j ≤ 100000) ∧ Q (rngD 0 j.toNat) := by
  show (∃ z, (if -100000 ≤ j ∧ j ≤ 100000 then some (rngD 0 j.toNat) else none) = some z ∧ Q z) ↔ _
  by_cases h : -100000 ≤ j ∧ j ≤ 100000 <;> simp [h]
@[simp] theorem e_rng2 {Q : List D → Prop} : (∃ z, rng2 [.int i, .int j] = some z ∧ Q z) ↔ ((-100000 ≤ i ∧ i ≤ 100000) ∧ -100000 ≤ j ∧ j ≤ 100000) ∧ Q (rngD i (j - i).toNat) := by
  show (∃ z, (if (-100000 ≤ i ∧ i ≤ 100000) ∧ -100000 ≤ j ∧ j ≤ 100000 then some (rngD i (j - i).toNat) else none) = some z ∧ Q z) ↔ _
  by_cases h : (-100000 ≤ i ∧ i ≤ 100000) ∧ -100000 ≤ j ∧ j ≤ 100000 <;> simp [h]
@[simp] theorem s_powC : powC a b = true ↔ 0 ≤ b ∧ b ≤ 1000000 ∧ a.natAbs < 18446744073709551616 := by unfold powC; exact decide_eq_true_iff
@[simp] theorem s_ixL : ixD (.lst xs) (.int i) = atI xs i := rfl
@[simp] theorem s_ixT : ixD (.tup xs) (.int i) = atI xs i := rfl
@[simp] theorem s_slL {lo hi : Option Int} : slD (.lst xs) lo hi = some (.lst (cutD xs lo hi)) := rfl
@[simp] theorem s_slT {lo hi : Option Int} : slD (.tup xs) lo hi = some (.tup (cutD xs lo hi)) := rfl
@[simp] theorem s_rev : revD (.lst xs) = some (.lst xs.reverse) := rfl
@[simp] theorem s_setAll2 {k l : Nat} {s t : Sd} {ρ : Env} : setAll [k, l] [s, t] ρ = (ρ.set k s).set l t := rfl
@[simp] theorem s_setAll3 {k l m : Nat} {s t r : Sd} {ρ : Env} : setAll [k, l, m] [s, t, r] ρ = ((ρ.set k s).set l t).set m r := rfl
@[simp] theorem s_wipe0 {ρ : Env} : wipeE ρ [] = ρ := rfl
@[simp] theorem s_wipe {ρ : Env} {k : Nat} {ks : List Nat} : wipeE ρ (k :: ks) = (wipeE ρ ks).set k .un := rfl
@[simp] theorem s_frz {ρ : Env} {k : Nat} : frz k ρ = match vOw ρ k with
  | some ds => ρ.set k (.sh (.lst ds))
  | none => ρ := rfl
theorem at_nat {α : Type} {l : List α} {k : Nat} {x : α} (h : l[k]? = some x) : atI l (k : Int) = some x := by
  have hk : k < l.length := (List.getElem?_eq_some_iff.mp h).1
  unfold atI ixN
  rw [if_pos (by omega), if_pos (by omega)]
  simpa using h
theorem at_last {α : Type} {l : List α} {x : α} : atI (l ++ [x]) (-1) = some x := by
  unfold atI ixN
  rw [if_neg (by omega), if_pos (by simp; omega)]
  have : ((-1 : Int) + ((l.length : Int) + 1)).toNat = l.length := by omega
  simp [this]
theorem rngD_zero (n : Nat) : rngD 0 n = (List.range n).map fun k => D.int (k : Nat) := by
  unfold rngD
  simp
/-- each turn of a loop over a range -/
theorem ok_range {g : MG} {mb : MS} {P : Fl → PuS → Prop} (lo : Int) (n : Nat) (Inv : Nat → Env → PuS → Prop)
    (step : ∀ k ρ u, k < n → Inv k ρ u → ∃ ρ1, g (.int (lo + (k : Nat))) ρ = some ρ1 ∧ Ok (mb ρ1) u fun f u' => match f with
      | .nx ρ2 => Inv (k + 1) ρ2 u'
      | .ct ρ2 => Inv (k + 1) ρ2 u'
      | .bk ρ2 => P (.nx ρ2) u'
      | .rt d => P (.rt d) u'
      | .rl d => P (.rl d) u'
      | .ex ρ2 k ks ds => P (.ex ρ2 k ks ds) u')
    (stop : ∀ ρ u, Inv n ρ u → P (.nx ρ) u) (ρ : Env) (u : PuS) (h : Inv 0 ρ u) : Ok (loopD g mb (rngD lo n) ρ) u P := by
  refine ok_loop (fun ds ρ u => ∃ k, k ≤ n ∧ ds = (rngD lo n).drop k ∧ Inv k ρ u) ?_ ?_ _ ρ u ⟨0, Nat.zero_le _, rfl, h⟩
  · rintro d ds ρ u ⟨k, hk, e, hi⟩
    have hkn : k < n := by
      rcases Nat.lt_or_ge k n with z | z
      · exact z
      · rw [List.drop_eq_nil_of_le (by rw [rngD_len]; exact z)] at e; cases e
    rw [List.drop_eq_getElem_cons (by rw [rngD_len]; exact hkn)] at e
    obtain ⟨e1, e2⟩ := List.cons.inj e
    have e3 : d = .int (lo + (k : Nat)) := by rw [e1]; simp [rngD]
    subst e3
    obtain ⟨ρ1, e4, h1⟩ := step k ρ u hkn hi
    refine ⟨ρ1, e4, h1.mono fun f u' z => ?_⟩
    cases f with
    | nx ρ2 => exact ⟨k + 1, hkn, e2, z⟩
    | ct ρ2 => exact ⟨k + 1, hkn, e2, z⟩
    | _ => exact z
  · rintro ρ u ⟨k, hk, e, hi⟩
    have hkn : k = n := by
      have := congrArg List.length e
      simp [rngD_len] at this
      omega
    subst hkn
    exact stop ρ u hi
theorem toPDs_ints (ns : List Int) : toPDs (ns.map D.int) = some (ns.map PyData.int) := by
  induction ns with
  | nil => rfl
  | cons n ns ih =>
    show (match toPD (.int n), toPDs (ns.map D.int) with
      | some a, some b => some (a :: b)
      | _, _ => none) = _
    rw [ih]; rfl
theorem lay_ints (ns : List Int) : PyData.canLayAll0 (ns.map PyData.int) = true := by
  induction ns with
  | nil => rfl
  | cons n ns ih => show (true && _) = true; rw [ih]; rfl
theorem depth_ints (ns : List Int) : PyData.depthAll (ns.map PyData.int) = 0 := by
  induction ns with
  | nil => rfl
  | cons n ns ih => show max 0 (PyData.depthAll (ns.map PyData.int)) = 0; rw [ih]; rfl
theorem eqv_ints : ∀ (xs ys : List Int), PyData.eqvAll (xs.map PyData.int) (ys.map PyData.int) = decide (xs = ys)
  | [], [] => rfl
  | [], _ :: _ => rfl
  | _ :: _, [] => rfl
  | x :: xs, y :: ys => by
    show ((x == y) && PyData.eqvAll (xs.map PyData.int) (ys.map PyData.int)) = _
    rw [eqv_ints xs ys]
    by_cases h : x = y <;> by_cases h2 : xs = ys <;> simp [h, h2]
theorem eq_tups (xs ys : List Int) : eqD (.tup (xs.map D.int)) (.tup (ys.map D.int)) = some (decide (xs = ys)) := by
  have e : ∀ zs : List Int, toPD (.tup (zs.map D.int)) = some (.tuple (zs.map PyData.int)) := fun zs => by
    show (toPDs (zs.map D.int)).map PyData.tuple = _
    rw [toPDs_ints]; rfl
  have sh : ∀ zs : List Int, SeqAt.shaped (.tuple (zs.map PyData.int)) = true := fun zs => by
    show (PyData.canLayAll0 (zs.map PyData.int) && decide (PyData.depthAll (zs.map PyData.int) + 1 ≤ 64)) = true
    rw [lay_ints, depth_ints]; rfl
  unfold eqD
  rw [e, e]
  show (if _ then some (PyData.eqvAll (xs.map PyData.int) (ys.map PyData.int)) else none) = _
  rw [if_pos ⟨sh xs, sh ys⟩, eqv_ints]
theorem eq_lsts (xs ys : List Int) : eqD (.lst (xs.map D.int)) (.lst (ys.map D.int)) = some (decide (xs = ys)) := by
  have e : ∀ zs : List Int, toPD (.lst (zs.map D.int)) = some (.list (zs.map PyData.int)) := fun zs => by
    show (toPDs (zs.map D.int)).map PyData.list = _
    rw [toPDs_ints]; rfl
  have sh : ∀ zs : List Int, SeqAt.shaped (.list (zs.map PyData.int)) = true := fun zs => by
    show (PyData.canLayAll0 (zs.map PyData.int) && decide (PyData.depthAll (zs.map PyData.int) + 1 ≤ 64)) = true
    rw [lay_ints, depth_ints]; rfl
  unfold eqD
  rw [e, e]
  show (if _ then some (PyData.eqvAll (xs.map PyData.int) (ys.map PyData.int)) else none) = _
  rw [if_pos ⟨sh xs, sh ys⟩, eqv_ints]
@[simp] theorem s_eqT {xs ys : List Int} : eqMD (.tup (xs.map D.int)) (.tup (ys.map D.int)) = some (.bl (decide (xs = ys))) := by unfold eqMD; rw [eq_tups]; rfl
@[simp] theorem s_neT {xs ys : List Int} : neMD (.tup (xs.map D.int)) (.tup (ys.map D.int)) = some (.bl (!decide (xs = ys))) := by unfold neMD; rw [eq_tups]; rfl
@[simp] theorem s_eqL {xs ys : List Int} : eqMD (.lst (xs.map D.int)) (.lst (ys.map D.int)) = some (.bl (decide (xs = ys))) := by unfold eqMD; rw [eq_lsts]; rfl
@[simp] theorem s_neL {xs ys : List Int} : neMD (.lst (xs.map D.int)) (.lst (ys.map D.int)) = some (.bl (!decide (xs = ys))) := by unfold neMD; rw [eq_lsts]; rfl
@[simp] theorem s_eqL0 {xs : List Int} : eqMD (.lst (xs.map D.int)) (.lst []) = some (.bl (decide (xs = []))) := s_eqL (ys := [])
@[simp] theorem s_neL0 {xs : List Int} : neMD (.lst (xs.map D.int)) (.lst []) = some (.bl (!decide (xs = []))) := s_neL (ys := [])
@[simp] theorem s_eqI : eqMD (.int a) (.int b) = some (.bl (decide (a = b))) := by
  have : eqD (.int a) (.int b) = some (decide (a = b)) := by
    show (if SeqAt.shaped (.int a) = true ∧ SeqAt.shaped (.int b) = true then some (a == b) else none) = _
    rw [if_pos ⟨rfl, rfl⟩]; rfl
  unfold eqMD; rw [this]; rfl
@[simp] theorem s_neI : neMD (.int a) (.int b) = some (.bl (!decide (a = b))) := by
  have : eqD (.int a) (.int b) = some (decide (a = b)) := by
    show (if SeqAt.shaped (.int a) = true ∧ SeqAt.shaped (.int b) = true then some (a == b) else none) = _
    rw [if_pos ⟨rfl, rfl⟩]; rfl
  unfold neMD; rw [this]; rfl
theorem cut_from {xs : List D} {k : Nat} : cutD xs (some (k : Int)) none = xs.drop k := by
  unfold cutD
  rw [HT.sIx_nat, HT.sIx_none]
  rcases Nat.le_total k xs.length with h | h
  · rw [Nat.min_eq_left h]
    exact List.take_of_length_le (by simp)
  · rw [Nat.min_eq_right h, List.drop_eq_nil_of_le (Nat.le_refl _), List.drop_eq_nil_of_le h]
    simp
theorem cut_to {xs : List D} {k : Nat} : cutD xs none (some (k : Int)) = xs.take k := by
  unfold cutD
  rw [HT.sIx_nat, HT.sIx_none]
  simp
@[simp] theorem s_enumT : enumA [.tup xs] = some (enumD xs) := rfl
@[simp] theorem s_enumL : enumA [.lst xs] = some (enumD xs) := rfl
@[simp] theorem s_max2 : maxD [.int a, .int b] = some (.int (if b > a then b else a)) := rfl
@[simp] theorem s_min2 : minD [.int a, .int b] = some (.int (if b < a then b else a)) := rfl
theorem s_maxL {n : Int} {ns : List Int} : maxD [.lst ((n :: ns).map D.int)] = some (.int (maxL (n :: ns))) := by
  show (match intsD ((n :: ns).map D.int) with
    | some (n :: ns) => some (D.int (maxL (n :: ns)))
    | _ => none) = _
  rw [intsD_map]
@[simp] theorem s_addL (h : xs.length + ys.length ≤ 100000) : addD (.lst xs) (.lst ys) = some (.lst (xs ++ ys)) := if_pos h
@[simp] theorem s_Gt {n : Nat} {gs : List D → Env → Option Env} {ρ : Env} : mGt n gs (.tup xs) ρ = if xs.length = n then gs xs ρ else none := rfl
@[simp] theorem s_Gc {g : MG} {gs : List D → Env → Option Env} {ρ : Env} : mGcons g gs (x :: xs) ρ = (g x ρ).bind fun ρ' => gs xs ρ' := rfl
@[simp] theorem s_Gnil {ρ : Env} : mGnil [] ρ = some ρ := rfl
@[simp] theorem s_fld {k : Str} {ks : List Str} {n : Nat} : fldD k ks n (.obj k ks xs) = xs[n]? := if_pos ⟨rfl, rfl⟩
@[simp] theorem s_scrLen {ns : List Int} : lenD [.scr ns] = some (.int ns.length) := rfl
@[simp] theorem s_scrIx {ns : List Int} : ixD (.scr ns) (.int i) = (atI ns i).map .int := rfl
@[simp] theorem s_scrSl {ns : List Int} {lo hi : Option Int} : slD (.scr ns) lo hi = some (.lst (cutD (ns.map .int) lo hi)) := rfl
theorem enumD_ints {ns : List Int} {k : Nat} {d : D} (h : (enumD (ns.map D.int))[k]? = some d) : ∃ x, ns[k]? = some x ∧ d = .tup [.int (k : Nat), .int x] := by
  obtain ⟨x, e, rfl⟩ := enumD_at h
  rw [List.getElem?_map] at e
  cases e2 : ns[k]? with
  | none => rw [e2] at e; cases e
  | some y => rw [e2] at e; cases e; exact ⟨y, rfl, rfl⟩
@[simp] theorem s_vSh {ρ : Env} {n : Nat} : vSh ρ n = match ρ[n]? with
  | some (.sh d) => some d
  | _ => none := rfl
@[simp] theorem s_vOw {ρ : Env} {n : Nat} : vOw ρ n = match ρ[n]? with
  | some (.ow d) => some d
  | _ => none := rfl
@[simp] theorem s_start {n : Nat} {ds : List D} : startE n ds = ds.map Sd.sh ++ List.replicate (n - ds.length) Sd.un := rfl
@[simp] theorem s_Gn {n : Nat} {d : D} {ρ : Env} : mGn n d ρ = some (ρ.set n (.sh d)) := rfl
@[simp] theorem s_int1 : int1D [.int a] = some (.int a) := rfl
@[simp] theorem s_lenL : lenD [.lst xs] = some (.int xs.length) := rfl
@[simp] theorem s_lenT : lenD [.tup xs] = some (.int xs.length) := rfl
@[simp] theorem s_tupL : tupD [.lst xs] = some (.tup xs) := rfl
@[simp] theorem s_getP {l : List Int} {P : D → PuS → Prop} : Ok (getP .pur (.int j)) (.real l) P ↔ ∃ n, atI l j = some n ∧ P (.int n) (.real l) := by
  cases e : atI l j with
  | none =>
    constructor
    · rintro ⟨d, u', e2, p⟩
      have e3 : (atI l j).map (fun n => (D.int n, PuS.real l)) = some (d, u') := e2
      rw [e] at e3; cases e3
    · rintro ⟨n, e2, _⟩; cases e2
  | some n =>
    have e3 : getP .pur (.int j) (.real l) = some (.int n, .real l) := by
      show (atI l j).map (fun n => (D.int n, PuS.real l)) = _
      rw [e]; rfl
    rw [ok_of e3]; simp
@[simp] theorem s_putP {l : List Int} {P : Unit → PuS → Prop} : Ok (putP .pur (.int j) (.int a)) (.real l) P ↔ ∃ n, ixN l.length j = some n ∧ P () (.real (l.set n a)) := by
  cases e : ixN l.length j with
  | none =>
    constructor
    · rintro ⟨d, u', e2, p⟩
      have e3 : (ixN l.length j).map (fun n => ((), PuS.real (l.set n a))) = some (d, u') := e2
      rw [e] at e3; cases e3
    · rintro ⟨n, e2, _⟩; cases e2
  | some n =>
    have e3 : putP .pur (.int j) (.int a) (.real l) = some ((), .real (l.set n a)) := by
      show (ixN l.length j).map (fun n => ((), PuS.real (l.set n a))) = _
      rw [e]; rfl
    rw [ok_of e3]; simp
@[simp] theorem ok_dmP {ρ : Env} {u : PuS} {mi m : ME} {n k : Nat} {PS : Fl → PuS → Prop} : Ok (mDmP n mi k m ρ) u PS ↔ Ok (m ρ) u fun v u1 => ∃ a b, v = .tup [.int a, .int b] ∧ Ok (mi ρ) u1 fun kk u2 => ∃ d, vSh ρ n = some d ∧ Ok (putP d kk (.int a)) u2 fun _ u3 => PS (.nx (ρ.set k (.sh (.int b)))) u3 := by
  unfold mDmP; simp only [ok_bind]
  constructor
  · refine fun h => h.mono fun f u' z => ?_
    split at z
    · exact ⟨_, _, rfl, by simpa only [ok_bind, ok_lft, ok_pure] using z⟩
    · exact (ok_none.mp z).elim
  · refine fun h => h.mono fun f u' z => ?_
    obtain ⟨a, b, rfl, z⟩ := z
    simpa only [ok_bind, ok_lft, ok_pure] using z
end
end Mi

set_option Elab.async false
set_option linter.all false
set_option maxRecDepth 100000
set_option maxHeartbeats 4000000
/-! MiG: chained comparisons, += on names, fresh concatenations, range with a step, f-strings. -/
namespace Mi
open PySem PySem.Spec PyProof.Rows L2
variable [TB : Tabl]
/-! ### chained comparisons -/
section
variable {X : Cx} {c : Cf} {pos : Pos} {a b d : Expr} {ma mb mc : ME} {r r' : R2} {f g : D → D → Option D}
end
/-! ### += on a name -/
theorem m_ip {W : Wo} {f : Int → Int → Int} : IpM W (ipI f) (int2 fun i j => some (.int (f i j))) := by
  intro p F H u x y a b Q gd rx ry h
  obtain ⟨d, e, _⟩ := lft_some h
  obtain ⟨i, j, rfl, rfl, e2⟩ := int2_some e
  exact ⟨i, j, rx.int_, ry.int_, OpM.ret gd h rfl (.int _)⟩
def addI : D → D → Option D := int2 fun i j => some (.int (i + j))
theorem m_addI {W : Wo} : IpM W (ipI fun i j => i + j) addI := m_ip
@[simp] theorem s_addI {a b : Int} : addI (.int a) (.int b) = some (.int (a + b)) := rfl
@[simp] theorem ok_aug {ρ : Env} {u : PuS} {i : Nat} {f : D → D → Option D} {m : ME} {P : Fl → PuS → Prop} : Ok (mAug i f m ρ) u P ↔ ∃ x, vSh ρ i = some x ∧ Ok (m ρ) u fun y u1 => ∃ z, f x y = some z ∧ P (.nx (ρ.set i (.sh z))) u1 := by
  unfold mAug; simp only [ok_bind, ok_lft, ok_pure]
/-! ### fresh lists by + -/
def catO : D → D → Option (List D)
  | .lst xs, .lst ys => if xs.length + ys.length ≤ 100000 then some (xs ++ ys) else none
  | _, _ => none
def mBinO (f : D → D → Option (List D)) (ma mb : ME) : MA := fun ρ => M.bind (ma ρ) fun x => M.bind (mb ρ) fun y => lft (f x y)
theorem dCatO {X : Cx} {c : Cf} {pos : Pos} {a b : Expr} {ma mb : ME} (ha : DE X c a ma) (hb : DE X c b mb) : DL X c (.BinOp a .Add b pos) (mBinO catO ma mb) :=
  (pe_op op_cat ha hb).imp fun σ H Q ⟨F, u, ρ, S, h⟩ => ⟨F, u, ρ, S, (After.split h).imp fun x u1 F1 H1 _ s1 g1 h1 v rv => ⟨F1, u1, ρ, S.step s1 g1, (After.split h1).imp fun y u2 F2 H2 _ s2 g2 h2 w rw => by
    obtain ⟨ds, e, h3⟩ := lft_some h2
    unfold catO at e
    split at e
    · split at e
      · rename_i xs ys hl
        cases e
        obtain ⟨p1, v1, rfl, f1, q1⟩ := (rv.mono s2.ef).lst_
        obtain ⟨p2, v2, rfl, f2, q2⟩ := rw.lst_
        refine ⟨p1, p2, v1, v2, rfl, rfl, g2.ex _ _ f1, g2.ex _ _ f2, sz5 (by rw [q1.1, q2.1]; exact hl), fun q hq => ?_⟩
        exact h3 _ _ (Stp.own hq) (g2.own hq) q _ (g2.fresh hq) (s1.back g1.ne (s2.back g2.ne hq)) upd_same (q1.append q2)
      · cases e
    · cases e⟩⟩
@[simp] theorem ok_binO {ρ : Env} {u : PuS} {f : D → D → Option (List D)} {ma mb : ME} {P : List D → PuS → Prop} : Ok (mBinO f ma mb ρ) u P ↔ Ok (ma ρ) u fun x u1 => Ok (mb ρ) u1 fun y u2 => ∃ z, f x y = some z ∧ P z u2 := by
  unfold mBinO; simp only [ok_bind, ok_lft]
@[simp] theorem e_catO {xs ys : List D} {Q : List D → Prop} : (∃ z, catO (.lst xs) (.lst ys) = some z ∧ Q z) ↔ xs.length + ys.length ≤ 100000 ∧ Q (xs ++ ys) := by
  show (∃ z, (if xs.length + ys.length ≤ 100000 then some (xs ++ ys) else none) = some z ∧ Q z) ↔ _
  by_cases h : xs.length + ys.length ≤ 100000 <;> simp [h]
/-! ### while -/
@[simp] theorem ok_mWhile {n : Nat} {t : MT} {mb : MS} {ρ : Env} {u : PuS} {P : Fl → PuS → Prop} : Ok (mWhile n t mb ρ) u P ↔ Ok (loopW t mb n ρ) u P := Iff.rfl
end Mi

set_option Elab.async false
set_option linter.all false
set_option maxRecDepth 100000
set_option maxHeartbeats 4000000
/-! MiQ: == and != of data that stand for plain things. -/
namespace Mi
open PySem L2
variable [TB : Tabl]
/-- one statement, what follows is hidden -/
theorem seq_step {m n : MS} {ρ : Env} {u : PuS} {P : Fl → PuS → Prop} (h : ∀ k : MS, (∀ ρ1 u1, Ok (n ρ1) u1 P → Ok (k ρ1) u1 P) → Ok (m ρ) u fun f u1 => match f with
    | .nx ρ1 => Ok (k ρ1) u1 P
    | f' => P f' u1) : Ok (mSeq m n ρ) u P := ok_seq.mpr (h n fun _ _ => id)
/-- one statement, with what holds behind it -/
theorem seq_cut {m n : MS} {ρ : Env} {u : PuS} {P : Fl → PuS → Prop} (Q : Env → PuS → Prop) (h1 : Ok (m ρ) u fun f u1 => match f with
    | .nx ρ1 => Q ρ1 u1
    | f' => P f' u1) (h2 : ∀ ρ1 u1, Q ρ1 u1 → Ok (n ρ1) u1 P) : Ok (mSeq m n ρ) u P := ok_seq.mpr (h1.mono fun f u1 z => by
  cases f with
  | nx ρ1 => exact h2 _ _ z
  | _ => exact z)
structure EqT {α : Type} [DecidableEq α] (f : α → D) (g : α → PyData) (k : Nat) : Prop where
  to : ∀ x, toPD (f x) = some (g x)
  lay : ∀ x, PyData.canLay0 (g x) = true
  dep : ∀ x, PyData.depth (g x) ≤ k
  eqv : ∀ x y, PyData.eqv (g x) (g y) = decide (x = y)
section
variable {α β : Type} [DecidableEq α] [DecidableEq β] {f : α → D} {g : α → PyData} {k : Nat}
theorem EqT.shaped (h : EqT f g k) (hk : k ≤ 64) (x : α) : SeqAt.shaped (g x) = true := by
  unfold SeqAt.shaped
  rw [h.lay x, decide_eq_true (Nat.le_trans (h.dep x) hk)]; rfl
theorem EqT.eqD (h : EqT f g k) (hk : k ≤ 64) (x y : α) : Mi.eqD (f x) (f y) = some (decide (x = y)) := by
  unfold Mi.eqD
  rw [h.to, h.to]
  show (if SeqAt.shaped (g x) = true ∧ SeqAt.shaped (g y) = true then some (PyData.eqv (g x) (g y)) else none) = _
  rw [if_pos ⟨h.shaped hk x, h.shaped hk y⟩, h.eqv]
theorem EqT.eq (h : EqT f g k) (hk : k ≤ 64) (x y : α) : eqMD (f x) (f y) = some (.bl (decide (x = y))) := by unfold eqMD; rw [h.eqD hk]; rfl
theorem EqT.ne (h : EqT f g k) (hk : k ≤ 64) (x y : α) : neMD (f x) (f y) = some (.bl (!decide (x = y))) := by unfold neMD; rw [h.eqD hk]; rfl
theorem EqT.int : EqT D.int PyData.int 0 := ⟨fun _ => rfl, fun _ => rfl, fun _ => Nat.le_refl 0, fun x y => by
  show (x == y) = _
  by_cases h : x = y <;> simp [h]⟩
theorem EqT.bl : EqT D.bl PyData.bool 0 := ⟨fun _ => rfl, fun _ => rfl, fun _ => Nat.le_refl 0, fun x y => by
  show (x == y) = _
  by_cases h : x = y <;> simp [h]⟩
theorem EqT.toPDs (h : EqT f g k) : ∀ xs : List α, Mi.toPDs (xs.map f) = some (xs.map g)
  | [] => rfl
  | x :: xs => by
    show (match toPD (f x), Mi.toPDs (xs.map f) with
      | some a, some b => some (a :: b)
      | _, _ => none) = _
    rw [h.toPDs xs, h.to]; rfl
theorem EqT.lays (h : EqT f g k) : ∀ xs : List α, PyData.canLayAll0 (xs.map g) = true
  | [] => rfl
  | x :: xs => by show (PyData.canLay0 (g x) && _) = true; rw [h.lays xs, h.lay]; rfl
theorem EqT.deps (h : EqT f g k) : ∀ xs : List α, PyData.depthAll (xs.map g) ≤ k
  | [] => Nat.zero_le _
  | x :: xs => Nat.max_le.mpr ⟨h.dep x, h.deps xs⟩
theorem EqT.eqvs (h : EqT f g k) : ∀ xs ys : List α, PyData.eqvAll (xs.map g) (ys.map g) = decide (xs = ys)
  | [], [] => rfl
  | [], _ :: _ => rfl
  | _ :: _, [] => rfl
  | x :: xs, y :: ys => by
    show (PyData.eqv (g x) (g y) && PyData.eqvAll (xs.map g) (ys.map g)) = _
    rw [h.eqvs xs ys, h.eqv]
    by_cases h1 : x = y <;> by_cases h2 : xs = ys <;> simp [h1, h2]
theorem EqT.lst (h : EqT f g k) : EqT (fun xs : List α => .lst (xs.map f)) (fun xs => .list (xs.map g)) (k + 1) :=
  ⟨fun xs => by show (Mi.toPDs (xs.map f)).map PyData.list = _; rw [h.toPDs]; rfl, fun xs => h.lays xs, fun xs => Nat.succ_le_succ (h.deps xs), fun xs ys => h.eqvs xs ys⟩
theorem EqT.tup (h : EqT f g k) : EqT (fun xs : List α => .tup (xs.map f)) (fun xs => .tuple (xs.map g)) (k + 1) :=
  ⟨fun xs => by show (Mi.toPDs (xs.map f)).map PyData.tuple = _; rw [h.toPDs]; rfl, fun xs => h.lays xs, fun xs => Nat.succ_le_succ (h.deps xs), fun xs ys => h.eqvs xs ys⟩
/-- a thing or None -/
def opD (f : α → D) : Option α → D
  | some x => f x
  | none => .non
def opP (g : α → PyData) : Option α → PyData
  | some x => g x
  | none => .none
theorem eqv_none_l {p : PyData} (h : p ≠ .none) : PyData.eqv .none p = false := by
  cases p <;> first | exact absurd rfl h | rfl
theorem eqv_none_r {p : PyData} (h : p ≠ .none) : PyData.eqv p .none = false := by
  cases p <;> first | exact absurd rfl h | rfl
theorem EqT.opt (h : EqT f g k) (hn : ∀ x, g x ≠ .none) : EqT (opD f) (opP g) k :=
  ⟨fun x => by cases x with
    | none => rfl
    | some x => exact h.to x,
   fun x => by cases x with
    | none => rfl
    | some x => exact h.lay x,
   fun x => by cases x with
    | none => exact Nat.zero_le _
    | some x => exact h.dep x,
   fun x y => by
    cases x with
    | none =>
      cases y with
      | none => rfl
      | some y => show PyData.eqv .none (g y) = _; rw [eqv_none_l (hn y)]; simp
    | some x =>
      cases y with
      | none => show PyData.eqv (g x) .none = _; rw [eqv_none_r (hn x)]; simp
      | some y => show PyData.eqv (g x) (g y) = _; rw [h.eqv]; by_cases e : x = y <;> simp [e]⟩
/-- rows of ints or None -/
theorem EqT.row : EqT (opD fun xs : List Int => .tup (xs.map D.int)) (opP fun xs => .tuple (xs.map PyData.int)) 1 := EqT.opt (EqT.tup EqT.int) fun x h => by cases h
theorem EqT.rowL : EqT (opD fun xs : List Int => .lst (xs.map D.int)) (opP fun xs => .list (xs.map PyData.int)) 1 := EqT.opt (EqT.lst EqT.int) fun x h => by cases h
end
end Mi

set_option Elab.async false
set_option linter.all false
set_option maxRecDepth 100000
set_option maxHeartbeats 4000000
/-! MiR: list(enumerate(x)): an iterator whose tuples are kept. -/
namespace PySem
open PySem PySem.Spec PySem.Calls PyProof.Rows
/-- an iterator that hands out new tuples, which are kept; lo: the list that takes them -/
structure Outs (prog : Program) (w : World) (A : Around) (I : Addr) (fp wr : List Addr) (lo : Addr) (n : Nat) (P : Nat → Array Value → Prop) (St : Nat → Heap → Prop) : Prop where
  sub : ∀ b ∈ wr, b < lo
  frame : ∀ i h h', St i h → (∀ b, b ≠ lo → ∀ o, h.get? b = some o → h'.get? b = some o) → St i h'
  item : ∀ i (s : Shared) (Q : Option Value → Shared → Prop) (E : Value → Shared → Prop), i < n → St i s.heap → lo < s.heap.objs.size →
    (∀ vals h' tk, P i vals → h'.get? s.heap.objs.size = some { cls := .type "tuple", data := .seq vals } → h'.objs.size = s.heap.objs.size + 1 → St (i + 1) h' → (∀ b o, b ∉ wr → s.heap.get? b = some o → h'.get? b = some o) →
      Q (some (.ref s.heap.objs.size)) { s with heap := h', toks := tk }) → wpAny (model prog w) A (pyNext (.ref I)) Q E s
  done : ∀ (s : Shared) (Q : Option Value → Shared → Prop) (E : Value → Shared → Prop), St n s.heap →
    (∀ h' tk, (∀ b o, b ∉ wr → s.heap.get? b = some o → h'.get? b = some o) → Q none { s with heap := h', toks := tk }) → wpAny (model prog w) A (pyNext (.ref I)) Q E s
structure OutG (P : Nat → Array Value → Prop) (lo : Addr) (h : Heap) (as : List Addr) : Prop where
  rise : as.Pairwise (· < ·)
  above : ∀ a ∈ as, lo < a
  tups : ∀ (j : Nat) (a : Addr), as[j]? = some a → ∃ vals, P j vals ∧ h.get? a = some { cls := .type "tuple", data := .seq vals }
section
variable {prog : Program} {w : World} {A : Around} {s : Shared} {R : Result → Shared → Prop} {I S : Addr} {fp wr : List Addr} {n : Nat} {P : Nat → Array Value → Prop} {St : Nat → Heap → Prop}
theorem OutG.there {h : Heap} {as : List Addr} (g : OutG P S h as) {a : Addr} (ha : a ∈ as) : a < h.objs.size := by
  obtain ⟨j, hj⟩ := List.mem_iff_getElem?.mp ha
  obtain ⟨_, _, e⟩ := g.tups j a hj
  exact Heap.lt_size e
theorem outs_loop (O : Outs prog w A.in1 I fp wr S n P St) (hn : n ≤ sizeLine) (res : Value) {h₁ : Heap}
    (hR : ∀ h' tk acc c as, (∀ b o, b ≠ S → b ∉ wr → h₁.get? b = some o → h'.get? b = some o) → h'.get? S = some { cls := .type "list", dict := none, data := .seq acc c, slots := #[] } → as.length = n → OutG P S h' as →
      acc.toList = as.map Value.ref → R (.ok (.ret res)) { s with heap := h', toks := tk }) :
    ∀ (k i : Nat) (h : Heap) (tk c : Nat) (acc : Array Value) (as : List Addr), n - i = k → i ≤ n → St i h → (∀ b o, b ≠ S → b ∉ wr → h₁.get? b = some o → h.get? b = some o) →
      h.get? S = some { cls := .type "list", dict := none, data := .seq acc c, slots := #[] } → acc.toList = as.map Value.ref → as.length = i → OutG P S h as →
      codeAny (model prog w) A (.builtin "list.extend.loop" ⟨[.ref S, .ref I, res], []⟩) R { s with heap := h, toks := tk } := by
  have hSw : S ∉ wr := fun z => Nat.lt_irrefl _ (O.sub S z)
  have hup : ∀ b, S < b → b ∉ wr := fun b hb z => Nat.lt_irrefl _ (Nat.lt_trans hb (O.sub b z))
  intro k
  induction k with
  | zero =>
    intro i h tk c acc as hk hi hst hkeep hS hacc hal hG
    have hin : i = n := by omega
    subst hin
    refine codeAny_builtin PySem.F.entry_extend_loop ?_
    rw [Around.under_plainId PySem.F.plain_extend_loop _]
    show wpAny _ A.in1 (pyNext (.ref I) >>= _) _ _ _
    refine wpAny_bind (O.done { s with heap := h, toks := tk } _ _ hst fun h' tk' he => ?_)
    refine wpAny_pure (hR h' tk' acc c as (fun b o h1 h2 e => he b o h2 (hkeep b o h1 h2 e)) (he S _ hSw hS) (by omega) ⟨hG.rise, hG.above, fun j a hj => ?_⟩ hacc)
    obtain ⟨vals, e1, e2⟩ := hG.tups j a hj
    exact ⟨vals, e1, he a _ (hup a (hG.above a (List.mem_of_getElem? hj))) e2⟩
  | succ k ih =>
    intro i h tk c acc as hk hi hst hkeep hS hacc hal hG
    have hlt : i < n := by omega
    have hsz : acc.size = i := by rw [← Array.length_toList, hacc, List.length_map, hal]
    refine codeAny_builtin PySem.F.entry_extend_loop ?_
    rw [Around.under_plainId PySem.F.plain_extend_loop _]
    show wpAny _ A.in1 (pyNext (.ref I) >>= _) _ _ _
    refine wpAny_bind (O.item i { s with heap := h, toks := tk } _ _ hlt hst (Heap.lt_size hS) fun vals h' tk' hv ht hz hst' hkp => ?_)
    dsimp only at ht hz hkp ⊢
    have hS' := hkp S _ hSw hS
    have up : ∀ b, b ≠ S → ∀ o, h'.get? b = some o → (h'.update S (Obj.mapSeq (·.push (Value.ref h.objs.size)))).get? b = some o := fun b hb o e => (Heap.get?_update_other _ _ (Ne.symm hb)).trans e
    have hSl : S < h.objs.size := Heap.lt_size hS
    show wpAny _ A.in1 (updateSeq S (·.push (Value.ref h.objs.size)) >>= _) _ _ _
    refine wpAny_bind ?_
    refine wpAny_updateSeq hS' rfl (wpAny_pure ⟨plainId_quiet PySem.F.plain_extend_loop _, ih (i + 1) _ tk' _ (acc.push (Value.ref h.objs.size)) (as ++ [h.objs.size]) (by omega) hlt (O.frame _ _ _ hst' up)
      (fun b o h1 h2 e => up b h1 o (hkp b o h2 (hkeep b o h1 h2 e))) (Heap.get?_update_self _ hS' rfl) (by rw [Array.toList_push, hacc, List.map_append]; rfl) (by rw [List.length_append, hal]; rfl) ⟨?_, ?_, ?_⟩⟩) (by rw [hsz]; omega) (by show (acc.push (Value.ref h.objs.size)).size ≤ sizeLine + 1; rw [Array.size_push, hsz]; omega)
    · refine List.pairwise_append.mpr ⟨hG.rise, List.pairwise_singleton _ _, fun a ha b hb => ?_⟩
      rw [List.mem_singleton.mp hb]
      exact hG.there ha
    · intro a ha
      rcases List.mem_append.mp ha with ha | ha
      · exact hG.above a ha
      · rw [List.mem_singleton.mp ha]; exact hSl
    · intro j b hj
      rcases Nat.lt_trichotomy j as.length with h1 | h1 | h1
      · rw [List.getElem?_append_left h1] at hj
        obtain ⟨vals', e1, e2⟩ := hG.tups j b hj
        have hb := hG.above b (List.mem_of_getElem? hj)
        exact ⟨vals', e1, up b (Nat.ne_of_gt hb) _ (hkp b _ (hup b hb) e2)⟩
      · subst h1
        have hb : h.objs.size = b := by simpa using hj
        subst hb
        exact ⟨vals, by rw [hal]; exact hv, up _ (Nat.ne_of_gt hSl) _ ht⟩
      · have hnone : (as ++ [h.objs.size])[j]? = none := List.getElem?_eq_none (by rw [List.length_append, List.length_singleton]; omega)
        rw [hnone] at hj; cases hj
/-- a type without a length -/
structure NoLen (T : String) : Prop where
  len : typeLookup (.type T) "__len__" = pure none
  hint : typeLookup (.type T) "__length_hint__" = pure none
  nl : (Value.type T == Value.type "list") = false
  nt : (Value.type T == Value.type "tuple") = false
theorem outs_extend {T : String} (F : NoLen T) (O : Outs prog w A.in1 I fp wr S n P St) (hT : s.TypeIs (.ref I) T) (hself : ∀ (A : Around) (s' : Shared) (Q : Value → Shared → Prop) (E : Value → Shared → Prop), St 0 s'.heap → Q (.ref I) s' → wpAny (model prog w) A (pyIter (.ref I)) Q E s') (hst : St 0 s.heap) (hSI : S ≠ I) (res : Value) (c₀ : Nat)
    (hS : s.heap.get? S = some { cls := .type "list", data := .seq #[] c₀ })
    (hR : ∀ h' tk acc c as, (∀ b o, b ≠ S → b ∉ wr → s.heap.get? b = some o → h'.get? b = some o) → h'.get? S = some { cls := .type "list", dict := none, data := .seq acc c, slots := #[] } → as.length = n → OutG P S h' as →
      acc.toList = as.map Value.ref → R (.ok (.ret res)) { s with heap := h', toks := tk }) (hn : n ≤ sizeLine) :
    wpAny (model prog w) A.in1 (Builtin.List.listExtendWith (.ref S) (.ref I) res)
      (fun fin s' => match fin with | .done f => R (.ok f) s' | .again c' => c'.quiet = true ∧ codeAny (model prog w) A c' R s') (fun e s' => R (.error e) s') s := by
  unfold Builtin.List.listExtendWith
  refine wpAny_bind (wpAny_typeOf hT ?_)
  have h1 : Builtin.List.listSameRef (.ref S) (.ref I) = false := by simp [Builtin.List.listSameRef, hSI]
  simp only [h1, F.nl, F.nt, Bool.or_false, Bool.false_eq_true, if_false]
  refine wpAny_bind (hself _ _ _ _ hst ?_)
  refine wpAny_bind (wpAny_holding ?_)
  unfold Builtin.List.listLengthHint
  refine wpAny_bind (wpAny_specialOf hT F.len ?_)
  show wpAny _ A.in1 (specialOf (Value.ref I) (Str.ofString "__length_hint__") >>= _) _ _ _
  refine wpAny_bind (wpAny_specialOf hT F.hint ?_)
  refine wpAny_pure ?_
  show wpAny _ A.in1 (rule "list.extend.makes-room" >>= fun _ => Builtin.List.listTouch (.ref S) >>= fun _ =>
    again (.builtin "list.extend.loop" ⟨[.ref S, .ref I, res], []⟩)) _ _ _
  refine wpAny_bind (wpAny_rule ?_)
  refine wpAny_bind ?_
  show wpAny _ A.in1 (updateSeq S (·.push .none) >>= fun _ => updateSeq S (·.pop)) _ _ _
  refine wpAny_bind (wpAny_updateSeq hS rfl ?_)
  have hS₂ := Heap.get?_update_self (Obj.mapSeq (·.push Value.none)) hS rfl
  refine wpAny_updateSeq (hz := by seq_fits) hS₂ rfl ?_
  have hS₃ := Heap.get?_update_self (Obj.mapSeq (·.pop)) hS₂ rfl
  have oth : ∀ b, b ≠ S → ∀ o, s.heap.get? b = some o → ((s.heap.update S (Obj.mapSeq (·.push Value.none))).update S (Obj.mapSeq (·.pop))).get? b = some o :=
    fun b hb o e => (Heap.get?_update_other _ _ (Ne.symm hb)).trans ((Heap.get?_update_other _ _ (Ne.symm hb)).trans e)
  refine wpAny_pure ⟨plainId_quiet PySem.F.plain_extend_loop _, outs_loop (s := s) (h₁ := s.heap) O hn res hR n 0 _ _ _ #[] [] (Nat.sub_zero _) (Nat.zero_le _) (O.frame 0 _ _ hst oth) (fun b o hb _ e => oth b hb o e) hS₃ rfl rfl ⟨List.Pairwise.nil, (fun _ ha => nomatch ha), (fun j a hj => by simp at hj)⟩⟩
theorem outs_call {T : String} {E : Value → Shared → Prop} {Q : Value → Shared → Prop} (F : NoLen T) (O : Outs prog w A.in1.in1 I fp wr s.heap.objs.size n P St) (hT : s.TypeIs (.ref I) T) (hself : ∀ (A : Around) (s' : Shared) (Q : Value → Shared → Prop) (E : Value → Shared → Prop), St 0 s'.heap → Q (.ref I) s' → wpAny (model prog w) A (pyIter (.ref I)) Q E s') (hst : St 0 s.heap) (hn : n ≤ sizeLine)
    (hQ : ∀ h' tk acc c as, (∀ b o, b ∉ wr → s.heap.get? b = some o → h'.get? b = some o) → h'.get? s.heap.objs.size = some { cls := .type "list", dict := none, data := .seq acc c, slots := #[] } → as.length = n → OutG P s.heap.objs.size h' as →
      acc.toList = as.map Value.ref → Q (.ref s.heap.objs.size) { s with heap := h', toks := tk }) :
    wpAny (model prog w) A (call (.type "list") [.ref I]) Q E s := by
  refine callType_codes (Q₁ := fun obj s₁ => obj = .ref s.heap.objs.size ∧ s₁ = { s with heap := s.heap.push { cls := .type "list", data := .seq #[] } }) PySem.F.called_list (PySem.F.typeCall_list_1 _) PySem.F.entry_list_init
    (code_list_new _ ⟨rfl, rfl⟩) fun obj s₁ h₁ => ?_
  obtain ⟨rfl, rfl⟩ := h₁
  have hS : (s.heap.push { cls := .type "list", data := .seq #[] }).get? s.heap.objs.size = some { cls := .type "list", data := .seq #[] } := Heap.get?_push_size _ rfl
  have hIl : I < s.heap.objs.size := let ⟨_, ho, _⟩ := hT; Heap.lt_size ho
  refine ⟨⟨_, hS, rfl⟩, PySem.F.args_list_init_2 _ _, ?_⟩
  show wpAny _ _ (do let old ← Builtin.List.listItems (.ref s.heap.objs.size); Builtin.List.listUpdate (.ref s.heap.objs.size) (fun _ => #[]); letGo old.toList.reverse; Builtin.List.listExtendWith (.ref s.heap.objs.size) (.ref I) .none) _ _ _
  refine wpAny_bind ?_
  unfold Builtin.List.listItems
  refine wpAny_bind (wpAny_seqItems hS rfl (wpAny_pure ?_))
  show wpAny _ _ (updateSeq s.heap.objs.size (fun _ => #[]) >>= fun _ => letGo (#[] : Array Value).toList.reverse >>= fun _ => Builtin.List.listExtendWith (.ref s.heap.objs.size) (.ref I) .none) _ _ _
  refine wpAny_bind (wpAny_updateSeq hS rfl ?_)
  have hS₂ := Heap.get?_update_self (Obj.mapSeq (fun _ => (#[] : Array Value))) hS rfl
  have oth : ∀ b, b ≠ s.heap.objs.size → ∀ o, s.heap.get? b = some o → ((s.heap.push { cls := .type "list", data := .seq #[] }).update s.heap.objs.size (Obj.mapSeq (fun _ => (#[] : Array Value)))).get? b = some o :=
    fun b hb o e => (Heap.get?_update_other _ _ (Ne.symm hb)).trans (Heap.get?_push_of_some _ e)
  refine wpAny_bind (wpAny_letGo ?_)
  obtain ⟨oI, hoI, hcI⟩ := id hT
  refine outs_extend F O ⟨oI, oth I (Nat.ne_of_lt hIl) oI hoI, hcI⟩ hself (O.frame 0 _ _ hst fun b hb o e => oth b hb o e) (Nat.ne_of_gt hIl) .none _ hS₂ (fun h' tk acc c as hk hS' hl hG hacc => ?_) hn
  exact ⟨rfl, hQ h' tk acc c as (fun b o hb e => hk b o (Nat.ne_of_lt (Heap.lt_size e)) hb (oth b (Nat.ne_of_lt (Heap.lt_size e)) o e)) hS' hl hG hacc⟩
end
/-! ### enumerate -/
abbrev IsEnumO (h : Heap) (e it : Addr) (i : Int) (item : Value) (a : Addr) (f : Bool) : Prop :=
  h.get? e = some { cls := .type "enumerate", dict := none, data := .fields #[rawInt a, .bool f, .ref it, rawInt i, .none, item], slots := #[] }
section
variable {prog : Program} {w : World} {A : Around} {E : Value → Shared → Prop} {s : Shared}
theorem enum_next_out {e it a : Addr} {f : Bool} {oa : Obj} {fp : List Addr} {n i : Nat} {P : Nat → Value → Prop} {St : Nat → Heap → Prop} {item : Value} {Q : Value → Shared → Prop}
    (D : Draws prog w A it fp n P St) (he : IsEnumO s.heap e it i item a f) (ha : s.heap.get? a = some oa) (hae : a ≠ e) (hai : a ≠ it) (hst : St i s.heap) (hlt : i < n) (hne : e ≠ it) (hef : e ∉ fp)
    (hQ : ∀ x h' tk, P i x → IsEnumO h' e it ((i : Int) + 1) item a true → St (i + 1) h' →
      h'.get? s.heap.objs.size = some { cls := .type "tuple", data := .seq #[.int i tk, x] } → h'.objs.size = s.heap.objs.size + 1 →
      (∀ b o, b ≠ e → b ≠ it → s.heap.get? b = some o → h'.get? b = some o) → Q (.ref s.heap.objs.size) { s with heap := h', toks := tk + 1 }) :
    wpAny (model prog w) A (Builtin.«enumerate.__next__» ⟨[.ref e], []⟩) (fun fin s' => ∃ v, fin = .done (.ret v) ∧ Q v s') E s := by
  obtain ⟨hp, g, d, tk₀, os⟩ := s
  show wpAny _ _ (field (.ref e) 2 >>= _) _ _ _
  refine wpAny_bind (wpAny_field he rfl (x := .ref it) rfl ?_)
  refine wpAny_bind (D.item i _ _ _ hlt hst fun x h₁ tk hPx hit₁ hs₁ => ?_)
  replace hs₁ : Heap.SameBut it hp h₁ := hs₁
  have he₁ : IsEnumO h₁ e it i item a f := (hs₁.2 e hne).trans he
  show wpAny _ _ (field (.ref e) 3 >>= _) _ _ ⟨h₁, g, d, tk, os⟩
  refine wpAny_bind (wpAny_field he₁ rfl (x := rawInt i) rfl ?_)
  show wpAny _ _ (field (.ref e) 4 >>= _) _ _ ⟨h₁, g, d, tk, os⟩
  refine wpAny_bind (wpAny_field he₁ rfl (x := .none) rfl ?_)
  show wpAny _ _ (mkInt i >>= _) _ _ ⟨h₁, g, d, tk, os⟩
  refine wpAny_bind (wpAny_mkInt ?_)
  show wpAny _ _ (setField (.ref e) 3 (rawInt ((i : Int) + 1)) >>= _) _ _ ⟨h₁, g, d, tk + 1, os⟩
  refine wpAny_bind (wpAny_setField_rec he₁ (by simp) fun h₂ he₂ hs₂ => ?_)
  replace hs₂ : Heap.SameBut e h₁ h₂ := hs₂
  replace he₂ : IsEnumO h₂ e it ((i : Int) + 1) item a f := he₂
  show wpAny _ _ (setField (.ref e) 4 .none >>= _) _ _ ⟨h₂, g, d, tk + 1, os⟩
  refine wpAny_bind (wpAny_setField_rec he₂ (by simp) fun h₃ he₃ hs₃ => ?_)
  replace hs₃ : Heap.SameBut e h₂ h₃ := hs₃
  replace he₃ : IsEnumO h₃ e it ((i : Int) + 1) item a f := he₃
  show wpAny _ _ (newTuple [.int i tk, x] >>= _) _ _ ⟨h₃, g, d, tk + 1, os⟩
  refine wpAny_bind (wpAny_newTuple ?_)
  have he₄ : IsEnumO (h₃.push { cls := .type "tuple", data := .seq #[.int i tk, x] }) e it ((i : Int) + 1) item a f := Heap.get?_push_of_some _ he₃
  generalize hh₄ : h₃.push { cls := .type "tuple", data := .seq #[.int i tk, x] } = h₄ at he₄
  have hsz : h₃.objs.size = hp.objs.size := by rw [hs₃.1, hs₂.1, hs₁.1]
  have hel : e < hp.objs.size := Heap.lt_size he
  have ht₄ : h₄.get? hp.objs.size = some { cls := .type "tuple", data := .seq #[.int i tk, x] } := by rw [← hh₄, ← hsz]; exact Heap.get?_push_size _ rfl
  have hz₄ : h₄.objs.size = hp.objs.size + 1 := by rw [← hh₄, Heap.size_push, hsz]
  have hk₄ : ∀ b o, b ≠ e → b ≠ it → hp.get? b = some o → h₄.get? b = some o := fun b o hbe hbi hb => by
    rw [← hh₄]; exact Heap.get?_push_of_some _ (hs₃.extBut b o hbe (hs₂.extBut b o hbe (hs₁.extBut b o hbi hb)))
  have hit₄ : St (i + 1) h₄ := D.frame _ _ _ hit₁ fun b hb o y => by
    have hbe : b ≠ e := fun q => hef (q ▸ hb)
    rw [← hh₄]; exact Heap.get?_push_of_some _ (hs₃.extBut b o hbe (hs₂.extBut b o hbe y))
  have ha₄ : h₄.get? a = some oa := hk₄ a oa hae hai ha
  show wpAny _ _ (Builtin.SmallTypes.ownedTupleIsFree (.ref e) >>= _) _ _ ⟨h₄, g, d, tk + 1, os⟩
  rw [hsz]
  clear hh₄ he₃ hs₃ he₂ hs₂ he₁ hs₁ hit₁ hsz h₃ h₂ h₁
  refine wpAny_bind ?_
  unfold Builtin.SmallTypes.ownedTupleIsFree
  refine wpAny_bind (wpAny_field he₄ rfl (x := rawInt a) rfl ?_)
  show wpAny _ _ (loadIfAlive ((a : Int).toNat) >>= _) _ _ _
  rw [Int.toNat_natCast]
  refine wpAny_bind (PySem.W.kdx_alive ha₄ ?_)
  simp only [Option.isNone_some, Bool.false_eq_true, if_false]
  refine wpAny_bind (wpAny_field he₄ rfl (x := .bool f) rfl ?_)
  have fin : ∀ h₅ : Heap, IsEnumO h₅ e it ((i : Int) + 1) item a true → Heap.SameBut e h₄ h₅ → Q (.ref hp.objs.size) ⟨h₅, g, d, tk + 1, os⟩ := fun h₅ he₅ hs₅ =>
    hQ x h₅ tk hPx he₅ (D.frame _ _ _ hit₄ fun b hb o y => hs₅.extBut b o (fun q => hef (q ▸ hb)) y) (hs₅.extBut _ _ (Nat.ne_of_gt hel) ht₄) (by show h₅.objs.size = hp.objs.size + 1; rw [hs₅.1, hz₄]) fun b o hbe hbi hb => hs₅.extBut b o hbe (hk₄ b o hbe hbi hb)
  cases f with
  | true =>
    rw [if_neg (show ¬ ((Value.bool true != Value.bool true) = true) from Bool.false_ne_true)]
    refine wpAny_pure ?_
    simp only [Bool.false_eq_true, if_false]
    exact wpAny_pure ⟨_, rfl, fin h₄ he₄ (Heap.SameBut.refl _ _)⟩
  | false =>
    rw [if_pos (show (Value.bool false != Value.bool true) = true from rfl)]
    refine wpAny_bind (wpAny_setField_rec he₄ (by simp) fun h₅ he₅ hs₅ => ?_)
    replace hs₅ : Heap.SameBut e h₄ h₅ := hs₅
    replace he₅ : IsEnumO h₅ e it ((i : Int) + 1) item a true := he₅
    refine wpAny_pure ?_
    simp only [Bool.false_eq_true, if_false]
    exact wpAny_pure ⟨_, rfl, fin h₅ he₅ hs₅⟩
theorem enum_end_any {e it : Addr} {o0 o1 o3 o4 o5 : Value} {fp : List Addr} {n : Nat} {P : Nat → Value → Prop} {St : Nat → Heap → Prop} {Q : Option Value → Shared → Prop}
    (D : Draws prog w A.in1 it fp n P St) (he : s.heap.get? e = some { cls := .type "enumerate", dict := none, data := .fields #[o0, o1, .ref it, o3, o4, o5], slots := #[] }) (hst : St n s.heap)
    (hQ : ∀ h', Heap.ExtBut it s.heap h' → Q none { s with heap := h' }) : wpAny (model prog w) A (pyNext (.ref e)) Q E s := by
  have hT : s.TypeIs (.ref e) "enumerate" := ⟨_, he, rfl⟩
  unfold pyNext
  refine wpAny_bind (wpAny_attempt (wpAny_callSpecial?_slot (name := Str.ofString "__next__") hT F.slot_enumerate_next
    (wpAny_call_entry F.slot_enumerate_next hT F.entry_enumerate_next ?_ (F.args_enumerate_next_1 _))))
  show wpAny _ _ (field (.ref e) 2 >>= _) _ _ _
  refine wpAny_bind (wpAny_field he rfl (x := .ref it) rfl ?_)
  refine wpAny_bind (D.done _ _ _ hst fun h' x he' hx' => ?_)
  obtain ⟨o, ho, hc⟩ := hx'
  refine wpAny_bind (wpAny_isInstance (T := "StopIteration") (b := true) ⟨o, ho, hc⟩ isSubtype_stop ?_)
  exact wpAny_pure (hQ _ he')
/-- where an enumerate stands whose tuples are kept -/
def EnSt (St : Nat → Heap → Prop) (e it lo : Addr) (i : Nat) (h : Heap) : Prop :=
  St i h ∧ ((i = 0 ∧ ∃ old, IsEnum h e it 0 old) ∨ ∃ item a f oa, 0 < i ∧ IsEnumO h e it (i : Int) item a f ∧ h.get? a = some oa ∧ lo < a)
theorem outs_enum {e it lo : Addr} {fp : List Addr} {n : Nat} {P : Nat → Value → Prop} {St : Nat → Heap → Prop} (D : Draws prog w A.in1 it fp n P St) (hne : e ≠ it) (hef : e ∉ fp) (hlf : lo ∉ fp) (hel : e < lo) (hil : it < lo) :
    Outs prog w A e fp [e, it] lo n (fun i vals => ∃ t x, P i x ∧ vals = #[.int i t, x]) (EnSt St e it lo) where
  sub := fun b hb => by
    have : b = e ∨ b = it := by simpa using hb
    rcases this with rfl | rfl
    · exact hel
    · exact hil
  frame := fun i h h' st hk => by
    refine ⟨D.frame _ _ _ st.1 fun b hb o e => hk b (fun z => hlf (z ▸ hb)) o e, ?_⟩
    rcases st.2 with ⟨h0, old, he⟩ | ⟨item, a, f, oa, hi0, he, ha, hla⟩
    · exact .inl ⟨h0, old, hk e (Nat.ne_of_lt hel) _ he⟩
    · exact .inr ⟨item, a, f, oa, hi0, hk e (Nat.ne_of_lt hel) _ he, hk a (Nat.ne_of_gt hla) _ ha, hla⟩
  item := fun i s Q E hi st hlo hQ => by
    obtain ⟨st1, st2⟩ := st
    rcases st2 with ⟨rfl, old, he⟩ | ⟨item, a, f, oa, hi0, he, ha, hla⟩
    · refine wpAny_pyNext_enum_itemD D he st1 hi hne hef fun x h' tk hP ho hst' hT hsz hk => ?_
      exact hQ _ h' (tk + 1) ⟨tk, x, hP, rfl⟩ hT hsz ⟨hst', .inr ⟨x, _, false, _, Nat.succ_pos _, ho, hT, hlo⟩⟩ fun b o hb y => hk b o (fun z => hb (by simp [z])) (fun z => hb (by simp [z])) y
    · have hT : s.TypeIs (.ref e) "enumerate" := ⟨_, he, rfl⟩
      have hae : a ≠ e := Nat.ne_of_gt (Nat.lt_trans hel hla)
      have hai : a ≠ it := Nat.ne_of_gt (Nat.lt_trans hil hla)
      unfold pyNext
      refine wpAny_bind (wpAny_attempt (wpAny_callSpecial?_slot (name := Str.ofString "__next__") hT F.slot_enumerate_next
        (wpAny_call_entry F.slot_enumerate_next hT F.entry_enumerate_next
          (enum_next_out D he ha hae hai st1 hi hne hef fun x h' tk hP ho hst' hT hsz hk => wpAny_pure ?_) (F.args_enumerate_next_1 _))))
      exact hQ _ h' (tk + 1) ⟨tk, x, hP, rfl⟩ hT hsz ⟨hst', .inr ⟨item, a, true, oa, Nat.succ_pos _, ho, hk a oa hae hai ha, hla⟩⟩ fun b o hb y => hk b o (fun z => hb (by simp [z])) (fun z => hb (by simp [z])) y
  done := fun s Q E st hQ => by
    obtain ⟨st1, st2⟩ := st
    rcases st2 with ⟨h0, old, he⟩ | ⟨item, a, f, oa, hi0, he, ha, hla⟩
    · exact enum_end_any D he st1 fun h' hx => hQ h' s.toks fun b o hb y => hx b o (fun z => hb (by simp [z])) y
    · exact enum_end_any D he st1 fun h' hx => hQ h' s.toks fun b o hb y => hx b o (fun z => hb (by simp [z])) y
theorem nolen_enum : NoLen "enumerate" := ⟨by rw [typeLookup_type, builtinLookup_eq_fast]; kernel_rfl, by rw [typeLookup_type, builtinLookup_eq_fast]; kernel_rfl, by decide, by decide⟩
end
end PySem

set_option Elab.async false
set_option linter.all false
set_option maxRecDepth 100000
set_option maxHeartbeats 4000000
/-! MiS: list(enumerate(x)) as a rule. -/
namespace Mi
open PySem PySem.Spec PyProof.Rows L2
variable [TB : Tabl]
/-- tuples tracked at their addresses -/
def putV : Hp → List Addr → List (List V) → Hp
  | H, a :: as, p :: kvs => putV (upd H a (.tup p)) as kvs
  | H, _, _ => H
theorem putV_off {b : Addr} : ∀ (as : List Addr) (kvs : List (List V)) (H : Hp), b ∉ as → putV H as kvs b = H b
  | [], _, _, _ => rfl
  | _ :: _, [], _, _ => rfl
  | a :: as, p :: kvs, H, h => by
    show putV (upd H a (.tup p)) as kvs b = H b
    rw [putV_off as kvs _ (fun z => h (List.mem_cons_of_mem _ z)), upd_ne (fun z => h (by rw [z]; exact List.mem_cons_self))]
theorem putV_at : ∀ (as : List Addr) (kvs : List (List V)) (H : Hp), as.length = kvs.length → as.Nodup → ∀ (j : Nat) (a : Addr) (vs : List V), as[j]? = some a → kvs[j]? = some vs → putV H as kvs a = some (.tup vs)
  | [], _, _, _, _, j, a, vs, h, _ => by cases h
  | _ :: _, [], _, h, _, _, _, _, _, _ => by cases h
  | a :: as, p :: kvs, H, h, hn, 0, b, vs, e1, e2 => by
    have hn' := List.nodup_cons.mp hn
    cases e1
    cases e2
    show putV (upd H a (.tup p)) as kvs a = some (.tup p)
    rw [putV_off as kvs _ hn'.1, upd_same]
  | a :: as, p :: kvs, H, h, hn, j + 1, b, vs, e1, e2 => putV_at as kvs (upd H a (.tup p)) (Nat.succ.inj h) (List.nodup_cons.mp hn).2 j b vs e1 e2
section
variable {X : Cx}
theorem outs_laid {pins : List (Addr × Obj)} {σ : L2.St} {H : Hp} {s : Shared} {h' : Heap} {tk : Nat} {vss : List (List V)} {acc : Array Value} {c : Nat} {as : List Addr} {S : Addr} {P : Nat → Array Value → Prop} (I : Inv X pins σ H s) (hz : vss.length ≤ sizeLine) (hv : ∀ j vals, P j vals → ∃ vs, vss[j]? = some vs ∧ vs.length ≤ sizeLine ∧ Vals vs vals.toList)
    (hk : ∀ b o, s.heap.get? b = some o → h'.get? b = some o) (hSs : s.heap.objs.size ≤ S) (hS : h'.get? S = some { cls := .type "list", dict := none, data := .seq acc c, slots := #[] }) (hl : as.length = vss.length) (hG : OutG P S h' as) (hacc : acc.toList = as.map Value.ref) :
    ∃ H' : Hp, (∀ b o, H b = some o → H' b = some o) ∧ H S = none ∧ (∀ t ∈ as, H t = none) ∧ S ∉ as ∧ H' S = some (.lst (as.map V.ref)) ∧ (∀ (j : Nat) (a : Addr) (vs : List V), as[j]? = some a → vss[j]? = some vs → H' a = some (.tup vs)) ∧ Inv X pins σ H' { s with heap := h', toks := tk } := by
  have hSn : S ∉ as := fun z => Nat.lt_irrefl _ (hG.above _ z)
  have nd : as.Nodup := List.Pairwise.imp (fun {a b} (h : a < b) => Nat.ne_of_lt h) hG.rise
  have abv : ∀ t ∈ as, s.heap.objs.size ≤ t := fun t ht => Nat.le_of_lt (Nat.lt_of_le_of_lt hSs (hG.above t ht))
  have new : ∀ t ∈ as, H t = none := fun t ht => I.hok.fresh (abv t ht)
  have newS : H S = none := I.hok.fresh hSs
  have atP := putV_at as vss (upd H S (.lst (as.map V.ref))) hl nd
  have off : ∀ b, b ∉ as → b ≠ S → putV (upd H S (.lst (as.map V.ref))) as vss b = H b := fun b h1 h2 => by rw [putV_off as vss _ h1, upd_ne h2]
  have low : ∀ b o, s.heap.get? b = some o → b ∉ as ∧ b ≠ S := fun b o e => ⟨fun z => absurd (Heap.lt_size e) (Nat.not_lt.mpr (abv b z)), fun z => absurd (Heap.lt_size e) (Nat.not_lt.mpr (z ▸ hSs))⟩
  have kp : ∀ b u, H b = some u → (putV (upd H S (.lst (as.map V.ref))) as vss) b = some u := fun b u e => by
    rw [off b (fun z => by rw [new b z] at e; cases e) (fun z => by rw [z, newS] at e; cases e)]
    exact e
  have eS : putV (upd H S (.lst (as.map V.ref))) as vss S = some (.lst (as.map V.ref)) := by rw [putV_off as vss _ hSn, upd_same]
  refine ⟨putV (upd H S (.lst (as.map V.ref))) as vss, kp, newS, new, hSn, eS, atP, ?_⟩
  refine I.call' (ch := []) rfl ⟨fun b o q _ _ _ => hk b o q, fun b o q _ _ _ => ⟨o.slots, hk b o q⟩, fun b o q n _ => ?_, fun b o q _ => ⟨o, hk b o q⟩, fun b xs q => kp b _ q, fun b o u q => kp b _ q, fun b ps q => ⟨#[], by rw [kp b _ q]; simp⟩⟩ (fun b u q => ?_) I.bare fun b z => by simp at z
  · obtain ⟨z1, z2⟩ := low b o q
    rw [off b z1 z2]
    exact n
  · by_cases hb : b ∈ as
    · obtain ⟨j, hj⟩ := List.mem_iff_getElem?.mp hb
      obtain ⟨vals, f1, f2⟩ := hG.tups j b hj
      obtain ⟨vs, g1, g2, g3⟩ := hv j vals f1
      rw [atP j b vs hj g1] at q
      cases q
      exact ⟨g2, vals.toList, g3, ⟨_, f2, rfl, 0, by rw [Array.toArray_toList]⟩⟩
    · by_cases hb2 : b = S
      · rw [hb2] at q ⊢
        rw [eS] at q
        cases q
        refine ⟨by rw [List.length_map]; omega, acc.toList, c, by rw [hacc]; exact LiI.vals_refs as, ?_⟩
        rw [Array.toArray_toList]
        exact hS
      · rw [off b hb hb2] at q
        exact (I.hok b u q).stay (fun d v _ y => hk d v y) (fun d y => kp d _ y) fun d xs y => kp d _ y
/-- a new list of new tuples -/
def NewTs (H : Hp) (vss : List (List V)) (Q : VK) : Prop := ∀ (H' : Hp) (p : Addr) (ts : List Addr), (∀ b o, H b = some o → H' b = some o) → H p = none → (∀ t ∈ ts, H t = none) → p ∉ ts → ts.length = vss.length → H' p = some (.lst (ts.map V.ref)) →
  (∀ (j : Nat) (a : Addr) (vs : List V), ts[j]? = some a → vss[j]? = some vs → H' a = some (.tup vs)) → Q (.ref p) H'
def enV (xs : List V) : List (List V) := xs.mapIdx fun i x => [.int (i : Nat), x]
theorem enV_at {xs : List V} {i : Nat} {x : V} (h : xs[i]? = some x) : (enV xs)[i]? = some [.int (i : Nat), x] := by
  unfold enV
  rw [List.getElem?_mapIdx, h]; rfl
theorem enV_len (xs : List V) : (enV xs).length = xs.length := by simp [enV]
def tLstEn (K : PySem.W.Frag) (ta : TA) : TE := fun σ H Q => ta σ H fun vs H1 => ∃ a xs, vs = [.ref a] ∧ (SqT K H1 a xs ∨ SqL K H1 a xs) ∧ NewTs H1 (enV xs) Q
theorem pe_listEn {e : Expr} {ta : TA} {p p2 pos pos2 : Pos} (hc : X.calm = true) (hg : Gl X "list") (hm : X.mg "list" = none) (hg2 : Gl X "enumerate") (hm2 : X.mg "enumerate" = none) (ha : PA X [e] ta)
    (hs : starEach [e] X.env = [(false, eval e X.env)] := by rfl)
    (hs2 : starEach [.Call (.Name "enumerate" p2) [e] [] pos2] X.env = (false, eval (.Call (.Name "enumerate" p2) [e] [] pos2) X.env) :: starEach [] X.env := by rfl) :
    PE X (.Call (.Name "list" p) [.Call (.Name "enumerate" p2) [e] [] pos2] [] pos) (tLstEn X.K ta) := by
  refine ⟨fun pins s σ H Q I h => ?_⟩
  refine Call_ (ld_blt I hg hm boot_list (PyProof.Rows.callWith_type1 (args_cons (Call_ (ld_blt I hg2 hm2 boot_enumerate (PyProof.Rows.callWith_type1 (thn (ha.run pos2 pins s σ H _ I h) fun us s1 ⟨vs, H1, I1, r1, q1⟩ => ?_) hs rfl))) hs2) hs2 rfl))
  obtain ⟨a, xs, ex, hq, q⟩ := q1
  subst ex
  cases r1 with
  | cons r rr =>
    cases rr
    cases r
    have key : ∀ (its : List Value) (h' : Heap) (fp : List Addr) (St : Nat → Heap → Prop), Vals xs its → xs.length ≤ sizeLine → (D : Draws X.prog X.w X.A.in1.in1.in1 s1.heap.objs.size fp its.toArray.size (fun i v => its.toArray[i]? = some v) St) → (∀ b ∈ fp, b < s1.heap.objs.size + 1) → IsEnum h' (s1.heap.objs.size + 1) s1.heap.objs.size 0 .none → St 0 h' → h'.objs.size = s1.heap.objs.size + 2 →
        (∀ b o, s1.heap.get? b = some o → h'.get? b = some o) → wpAny (model X.prog X.w) X.A (call (.type "list") [.ref (s1.heap.objs.size + 1)]) (EP X pins σ Q) X.xe { s1 with heap := h' } := fun its h' fp St rv hz D hfp he hst hsz hk => by
      have hnf : s1.heap.objs.size + 1 ∉ fp := fun z => Nat.lt_irrefl _ (hfp _ z)
      have hlf : h'.objs.size ∉ fp := fun z => by have q : @LT.lt Nat _ h'.objs.size (s1.heap.objs.size + 1) := hfp _ z; omega
      refine outs_call (s := { s1 with heap := h' }) nolen_enum (outs_enum D (Nat.succ_ne_self _) hnf hlf (by show s1.heap.objs.size + 1 < h'.objs.size; omega) (by show s1.heap.objs.size < h'.objs.size; omega)) ⟨_, he, rfl⟩
        (fun A s' Q E st hQ => ?_) ⟨hst, .inl ⟨rfl, .none, he⟩⟩ (by rw [List.size_toArray, ← rv.length]; exact hz) fun h2 tk acc c as hk2 hS hl hG hacc => ?_
      · rcases st.2 with ⟨_, old, he⟩ | ⟨item, a, f, oa, hi0, _, _, _⟩
        · exact wpAny_pyIter_enum he hQ
        · exact absurd hi0 (Nat.lt_irrefl 0)
      · have hkk : ∀ b o, s1.heap.get? b = some o → h2.get? b = some o := fun b o e => hk2 b o (fun z => by
          have hb : @LT.lt Nat _ b s1.heap.objs.size := Heap.lt_size e
          have : b = s1.heap.objs.size + 1 ∨ b = s1.heap.objs.size := by simpa using z
          rcases this with z | z
          · exact absurd hb (by rw [z]; exact Nat.not_lt.mpr (Nat.le_succ _))
          · exact absurd hb (by rw [z]; exact Nat.lt_irrefl _)) (hk b o e)
        obtain ⟨H', k1, k2, k3, k4, k5, k6, J⟩ := outs_laid (tk := tk) (vss := enV xs) I1 (by rw [enV_len]; exact hz) (fun j vals hP => by
          obtain ⟨t, x, h1, rfl⟩ := hP
          have hj : its[j]? = some x := by simpa using h1
          obtain ⟨v, ev, rvv⟩ : ∃ v, xs[j]? = some v ∧ RelV v x := by
            rcases vals_get rv j with ⟨v, u, e1, e2, r⟩ | ⟨e1, e2⟩
            · rw [hj] at e2; cases e2; exact ⟨v, e1, r⟩
            · rw [hj] at e2; cases e2
          exact ⟨_, enV_at ev, by show 2 ≤ sizeLine; decide, .cons ⟨_, rfl⟩ (.cons rvv .nil)⟩) hkk (by show s1.heap.objs.size ≤ h'.objs.size; omega) hS (by rw [hl, List.size_toArray, enV_len, rv.length]) hG hacc
        exact ⟨.ref _, H', J, rfl, q H' _ as k1 k2 k3 k4 (by rw [hl, List.size_toArray, enV_len, rv.length]) k5 k6⟩
    rcases hq with hq | hq
    · obtain ⟨its, rv, p', hz⟩ := I1.tuple hq
      have la : a < s1.heap.objs.size := p'.lt
      refine mi_enum_begins1 (begins_tuple a its.toArray) p' fun h' he hit hsz hk => args_nil ?_
      exact key its h' _ _ rv hz (Draws.tuple (A := X.A.in1.in1.in1) (I1.ok.hd hc) s1.heap.objs.size a (Nat.ne_of_lt la) its.toArray) (fun b hb => by
        have : b = s1.heap.objs.size ∨ b = a := by simpa using hb
        rcases this with rfl | rfl
        · exact Nat.lt_succ_self _
        · exact Nat.lt_succ_of_lt la) he ⟨⟨_, hit, rfl, rfl⟩, let ⟨o, ho, r⟩ := p'; ⟨o, hk _ _ ho, r⟩⟩ hsz hk
    · obtain ⟨its, rv, p', hz⟩ := I1.list hq
      refine call_enumerate_list p'.isList fun h' he hit hsz hk => args_nil ?_
      have la : a < s1.heap.objs.size := let ⟨_, ho, _⟩ := p'.isList; Heap.lt_size ho
      exact key its h' _ _ rv hz (Draws.list (A := X.A.in1.in1.in1) (I1.ok.hd hc) s1.heap.objs.size a (Nat.ne_of_lt la) its.toArray) (fun b hb => by
        have : b = s1.heap.objs.size ∨ b = a := by simpa using hb
        rcases this with rfl | rfl
        · exact Nat.lt_succ_self _
        · exact Nat.lt_succ_of_lt la) he ⟨hit, p'.isList.at fun o e => hk _ _ e⟩ hsz hk
/-- .. frozen -/
theorem newTs_ok {W : Wo} {p : Addr} {F H : Hp} {u : PuS} {vss : List (List V)} {dss : List (List D)} {Q : VK} (g : Gd p u F H) (hl : vss.length = dss.length) (hr : ∀ (j : Nat) (vs : List V) (ds : List D), vss[j]? = some vs → dss[j]? = some ds → Reps W p F vs ds)
    (h : After p F H (some (D.lst (dss.map D.tup), u)) fun d _ F' H' => ∀ v, Rep W p F' v d → Q v H') : NewTs H vss Q := by
  intro H' q ts hk hq hts hqn htl hH hT
  have hF : ∀ b o, F b = some o → b ≠ q ∧ b ∉ ts := fun b o e => by
    have e' := g.ex _ _ e
    refine ⟨fun z => ?_, fun z => ?_⟩
    · rw [z, hq] at e'; cases e'
    · rw [hts b z] at e'; cases e'
  have hp : p ≠ q ∧ p ∉ ts := ⟨fun z => g.ne (z ▸ hq), fun z => g.ne (hts p z)⟩
  let F' : Hp := fun b => if b = q ∨ b ∈ ts then H' b else F b
  have f1 : ∀ b, b = q ∨ b ∈ ts → F' b = H' b := fun b hb => if_pos hb
  have f2 : ∀ b, ¬ (b = q ∨ b ∈ ts) → F' b = F b := fun b hb => if_neg hb
  have sm : Same F F' := fun b o e => by
    obtain ⟨z1, z2⟩ := hF b o e
    rw [f2 b (fun z => z.elim z1 z2)]; exact e
  have nt : ∀ a ps, F' a ≠ some (.tbl ps) := fun a ps z => by
    by_cases za : a = q ∨ a ∈ ts
    · rw [f1 a za] at z
      rcases za with rfl | za
      · rw [hH] at z; cases z
      · obtain ⟨j, hj⟩ := List.getElem?_of_mem za
        have hi : j < vss.length := by rw [← htl]; exact (List.getElem?_eq_some_iff.mp hj).1
        rw [hT j a _ hj (List.getElem?_eq_getElem hi)] at z; cases z
    · rw [f2 a za] at z; exact g.nt a ps z
  refine h F' H' ⟨sm, fun a o _ e _ => hk a o e, fun a ps _ e => ⟨ps, hk a _ e⟩, fun a o e => ?_⟩ ⟨fun a o e => ?_, ?_, fun l e => ?_, nt, g.tb.ext hk, g.hp⟩ (.ref q) (Rep.mkL (vs := ts.map V.ref) (by rw [f1 q (.inl rfl)]; exact hH) ⟨by simp [htl, hl], fun i v d e1 e2 => ?_⟩)
  · by_cases z : a = q ∨ a ∈ ts
    · rcases z with z | z
      · rw [z]; exact .inr hq
      · exact .inr (hts a z)
    · rw [f2 a z] at e; exact .inl e
  · by_cases z : a = q ∨ a ∈ ts
    · rw [f1 a z] at e; exact e
    · rw [f2 a z] at e; exact hk a o (g.ex a o e)
  · exact hk p _ g.pu
  · rw [f2 p (fun z => z.elim hp.1 hp.2)]; exact g.off l e
  · rw [List.getElem?_map] at e1 e2
    cases e3 : ts[i]? with
    | none => rw [e3] at e1; cases e1
    | some t =>
      rw [e3] at e1
      cases e1
      cases e4 : dss[i]? with
      | none => rw [e4] at e2; cases e2
      | some ds =>
        rw [e4] at e2
        cases e2
        have hi : i < vss.length := by rw [hl]; exact (List.getElem?_eq_some_iff.mp e4).1
        have e5 : vss[i]? = some vss[i] := List.getElem?_eq_getElem hi
        have e6 := hT i t _ e3 e5
        exact Rep.mkT (by rw [f1 t (.inr (List.mem_of_getElem? e3))]; exact e6) ((hr i _ ds e5 e4).mono sm)
/-- list(enumerate(e)) -/
def enL : List D → Option D := fun ds => (enumA ds).map .lst
theorem dLstEn {X : Cx} {c : Cf} {e : Expr} {ms : MA} {p p2 pos pos2 : Pos} (hc : X.calm = true) (hg : Gl X "list") (hm : X.mg "list" = none) (hg2 : Gl X "enumerate") (hm2 : X.mg "enumerate" = none) (ha : DA X c [e] ms)
    (hs : starEach [e] X.env = [(false, eval e X.env)] := by rfl)
    (hs2 : starEach [.Call (.Name "enumerate" p2) [e] [] pos2] X.env = (false, eval (.Call (.Name "enumerate" p2) [e] [] pos2) X.env) :: starEach [] X.env := by rfl) (hK : X.K = c.W.K := by rfl) :
    DE X c (.Call (.Name "list" p) [.Call (.Name "enumerate" p2) [e] [] pos2] [] pos) (mCB enL ms) :=
  (pe_listEn hc hg hm hg2 hm2 ha hs hs2).imp fun σ H Q ⟨F, u, ρ, S, h⟩ => ⟨F, u, ρ, S, (After.split h).imp fun xs u1 F1 H1 _ s1 g1 h1 vs rvs => by
    obtain ⟨d, e1, h2⟩ := lft_some h1
    have key : ∀ (v : V) (ds : List D) (a : Addr) (ws : List V), Reps c.W c.p F1 ws ds → d = .lst (enumD ds) → NewTs H1 (enV ws) Q := fun v ds a ws rs ed => by
      have ed2 : d = .lst ((ds.mapIdx fun i x => [D.int (i : Nat), x]).map D.tup) := by
        rw [ed]; unfold enumD
        congr 1
        apply List.ext_getElem?
        intro i
        rw [List.getElem?_map, List.getElem?_mapIdx, List.getElem?_mapIdx, Option.map_map]
        rfl
      rw [ed2] at h2
      refine newTs_ok g1 (by simp [enV_len, rs.1]) (fun j vs ds' e3 e4 => ?_) h2
      rw [List.getElem?_mapIdx] at e4
      unfold enV at e3
      rw [List.getElem?_mapIdx] at e3
      cases e5 : ds[j]? with
      | none => rw [e5] at e4; cases e4
      | some x =>
        rw [e5] at e4
        cases e4
        obtain ⟨y, ey, ry⟩ := rs.get e5
        rw [ey] at e3
        cases e3
        exact Reps.cons (.int _) (Reps.cons ry Reps.nil)
    unfold enL enumA at e1
    split at e1
    · cases e1
      obtain ⟨v, rfl, rv⟩ := rvs.one
      obtain ⟨a, ws, rfl, ha, rs⟩ := rv.lst_
      exact ⟨a, ws, rfl, .inr (by rw [hK]; exact SqL.of (g1.ex _ _ ha)), key (.ref a) _ a ws rs rfl⟩
    · cases e1
      obtain ⟨v, rfl, rv⟩ := rvs.one
      obtain ⟨a, ws, rfl, ha, rs⟩ := rv.tup_
      exact ⟨a, ws, rfl, .inl (by rw [hK]; exact sq_t g1.ex ha), key (.ref a) _ a ws rs rfl⟩
    · cases e1⟩
end
end Mi

set_option Elab.async false
set_option linter.all false
set_option maxRecDepth 100000
set_option maxHeartbeats 4000000
/-! MiT: reversed, range downwards, sorted ints, f-strings. -/
namespace Mi
open PySem PySem.Spec PyProof.Rows L2
variable [TB : Tabl]
/-! ### reversed(list) -/
def revL : List D → Option (List D) := fun ds => match ds with
  | [.lst xs] => some xs.reverse
  | _ => none
@[simp] theorem s_revL {xs : List D} : revL [.lst xs] = some xs.reverse := rfl
def mIrev (ms : MA) : MA := fun ρ => M.bind (ms ρ) fun ds => lft (revL ds)
theorem dIrev {X : Cx} {c : Cf} {tg e : Expr} {ms : MA} {pos q : Pos} (hg : Gl X "reversed") (hm : X.mg "reversed" = none) (ha : DA X c [e] ms) (hs : starEach [e] X.env = [(false, eval e X.env)] := by rfl) (hK : X.K = c.W.K := by rfl) : DI X c tg (.Call (.Name "reversed" q) [e] [] pos) (mIrev ms) :=
  (pi_reversed hg hm ha hs).imp fun σ H R ⟨F, u, ρ, S, h⟩ => ⟨F, u, ρ, S, (After.split h).imp fun ds u1 F1 H1 _ s1 g1 h1 vs rvs => by
    obtain ⟨es, e1, h2⟩ := lft_some h1
    unfold revL at e1
    split at e1
    · rename_i xs _
      cases e1
      obtain ⟨v, rfl, rv⟩ := rvs.one
      obtain ⟨a, ws, rfl, ha, rs⟩ := rv.lst_
      refine ⟨a, ws, rfl, by rw [hK]; exact SqL.of (g1.ex _ _ ha), ?_⟩
      rw [hK]
      refine After.now g1 h2 _ ⟨_, _, by rw [List.length_reverse, ← rs.1]; exact walk_rev, fun H e => SqL.of (e _ _ ha), fun i H x H' F2 u d hd e g hy => ?_⟩
      obtain ⟨rfl, hx⟩ := hy
      refine ⟨F2, Stp.refl, g, ?_⟩
      have hi : i < xs.length := by
        have := (List.getElem?_eq_some_iff.mp hd).1
        simpa using this
      rw [List.getElem?_reverse hi] at hd
      rw [rs.1] at hx
      exact (rs.2 _ x d hx hd).mono e
    · cases e1⟩
@[simp] theorem ok_Irev {ρ : Env} {u : PuS} {ms : MA} {P : List D → PuS → Prop} : Ok (mIrev ms ρ) u P ↔ Ok (ms ρ) u fun ds u1 => ∃ z, revL ds = some z ∧ P z u1 := by unfold mIrev; simp only [ok_bind, ok_lft]
/-! ### range(a, b, -1) -/
/-! ### sorted ints -/
def srtI (b : Bool) (ns : List Int) : List Int := ns.mergeSort fun x y => if b = true then decide (y ≤ x) else decide (x ≤ y)
theorem srtI_perm (b : Bool) (ns : List Int) : (srtI b ns).Perm ns := List.mergeSort_perm _ _
theorem srtI_ord (b : Bool) (ns : List Int) : OrdB b (srtI b ns) := by
  have h := List.pairwise_mergeSort (le := fun x y : Int => if b = true then decide (y ≤ x) else decide (x ≤ y)) (by
    intro x y z h1 h2
    cases b with
    | true =>
      have h1 := of_decide_eq_true h1
      have h2 := of_decide_eq_true h2
      exact decide_eq_true (by omega)
    | false =>
      have h1 := of_decide_eq_true h1
      have h2 := of_decide_eq_true h2
      exact decide_eq_true (by omega)) (by
    intro x y
    cases b with
    | true =>
      show (decide (y ≤ x) || decide (x ≤ y)) = true
      by_cases z : y ≤ x
      · simp [z]
      · have : x ≤ y := by omega
        simp [this]
    | false =>
      show (decide (x ≤ y) || decide (y ≤ x)) = true
      by_cases z : y ≤ x
      · simp [z]
      · have : x ≤ y := by omega
        simp [this]) ns
  unfold OrdB srtI
  cases b with
  | true => exact h.imp fun {x y} z => of_decide_eq_true z
  | false => exact h.imp fun {x y} z => of_decide_eq_true z
theorem ordB_uniq {b : Bool} {xs ys : List Int} (h1 : OrdB b xs) (h2 : OrdB b ys) (p : xs.Perm ys) : xs = ys := by
  unfold OrdB at h1 h2
  cases b with
  | true => exact List.Perm.eq_of_pairwise (le := fun x y : Int => x ≥ y) (fun x y _ _ z1 z2 => by omega) h1 h2 p
  | false => exact List.Perm.eq_of_pairwise (le := fun x y : Int => x ≤ y) (fun x y _ _ z1 z2 => by omega) h1 h2 p
theorem bb_sorted : bootBuiltins "sorted" = some (.builtin "sorted") := by decide +kernel
def srtO (b : Bool) : List D → Option (List D) := fun ds => match ds with
  | [.lst xs] => (intsD xs).map fun ns => (srtI b ns).map D.int
  | _ => none
theorem srt_ok {W : Wo} {p : Addr} {F H H00 : Hp} {u : PuS} {vs : List V} {as es : List D} {b : Bool} {Q : VK} (g : Gd p u F H) (bk : ∀ q, H q = none → H00 q = none) (r : Reps W p F vs as) (e : srtO b as = some es)
    (h : After p F H (some (es, u)) fun ds _ F' H' => ∀ q vs, F' q = none → H00 q = none → H' q = some (.lst vs) → Reps W p F' vs ds → Q (.ref q) H') :
    ∃ (a : Addr) (ns : List Int), vs = [V.ref a] ∧ SqL W.K H a (ns.map V.int) ∧ ∀ (ns' : List Int) (q : Addr), ns'.Perm ns → OrdB b ns' → H q = none → Q (.ref q) (upd H q (.lst (ns'.map V.int))) := by
  unfold srtO at e
  split at e
  · rename_i xs
    cases e1 : intsD xs with
    | none => rw [e1] at e; cases e
    | some ns =>
      rw [e1] at e
      cases e
      obtain ⟨v, rfl, rv⟩ := r.one
      obtain ⟨a, ws, rfl, ha, rs⟩ := rv.lst_
      have ew := intsD_rep rs e1
      subst ew
      refine ⟨a, ns, rfl, SqL.of (g.ex _ _ ha), fun ns' q hp ho hq => ?_⟩
      have en : ns' = srtI b ns := ordB_uniq ho (srtI_ord b ns) (hp.trans (srtI_perm b ns).symm)
      subst en
      exact h _ _ (Stp.own hq) (g.own hq) q _ (g.fresh hq) (bk q hq) upd_same (reps_ints _)
  · cases e
theorem dSort {X : Cx} {c : Cf} {e : Expr} {ms : MA} {p pos : Pos} (hg : Gl X "sorted") (hm : X.mg "sorted" = none) (ha : DA X c [e] ms) (hK : X.K = c.W.K := by rfl)
    (he : starEach (e :: []) X.env = (false, eval e X.env) :: starEach [] X.env := by rfl) : DL X c (.Call (.Name "sorted" p) [e] [] pos) (mCBO (srtO false) ms) :=
  (pe_callB cr_sortedI hg hm bb_sorted ha (by decide) (by decide) he).imp fun σ H Q ⟨F, u, ρ, S, h⟩ => ⟨F, u, ρ, S, (After.split h).imp fun xs u1 F1 H1 _ s1 g1 h1 vs rvs => by
    obtain ⟨es, e1, h2⟩ := lft_some h1
    obtain ⟨a, ns, e2, e3, e4⟩ := srt_ok g1 (fun q hq => s1.back g1.ne hq) rvs e1 h2
    exact ⟨a, ns, e2, by rw [hK]; exact e3, fun ns' q hp ho hq => e4 ns' q hp ho hq⟩⟩
/-! ### f-strings -/
end Mi

set_option Elab.async false
set_option linter.all false
set_option maxRecDepth 100000
set_option maxHeartbeats 4000000
namespace Mi
open PySem L2
variable [TB : Tabl]
/-- one statement; what follows and what is wanted are hidden -/
theorem seq_go {m n : MS} {ρ : Env} {u : PuS} {P : Fl → PuS → Prop} (h : ∀ (K : Env → PuS → Prop) (R : Fl → PuS → Prop), (∀ ρ1 u1, Ok (n ρ1) u1 P → K ρ1 u1) → (∀ f u1, P f u1 → R f u1) → Ok (m ρ) u fun f u1 => match f with
    | .nx ρ1 => K ρ1 u1
    | f' => R f' u1) : Ok (mSeq m n ρ) u P := ok_seq.mpr ((h (fun ρ1 u1 => Ok (n ρ1) u1 P) P (fun _ _ => id) (fun _ _ => id)).mono fun f u1 z => by
  cases f with
  | nx ρ1 => exact z
  | _ => exact z)
/-- a statement; what is wanted is hidden -/
theorem st_go {m : MS} {ρ : Env} {u : PuS} {P : Fl → PuS → Prop} (h : ∀ (R : Fl → PuS → Prop), (∀ f u1, P f u1 → R f u1) → Ok (m ρ) u R) : Ok (m ρ) u P := h P fun _ _ => id
end Mi

set_option Elab.async false
set_option linter.all false
set_option maxRecDepth 100000
set_option maxHeartbeats 4000000
/-! MiV: a, b, c, d = .., fresh lists among them. -/
namespace Mi
open PySem PySem.Spec PyProof.Rows L2
variable [TB : Tabl]
def gNames : List Nat → TGs
  | [] => gNil
  | i :: is => gCons (gName i) (gNames is)
theorem gNames_ok : ∀ {is : List Nat} {vs : List V} {σ : L2.St} {H : Hp} {Q : L2.St → Hp → Prop}, is.length = vs.length → Q (setV is vs σ) H → gNames is vs σ H Q
  | [], [], σ, H, Q, _, h => ⟨rfl, h⟩
  | [], _ :: _, σ, H, Q, hl, h => by cases hl
  | _ :: _, [], σ, H, Q, hl, h => by cases hl
  | i :: is, v :: vs, σ, H, Q, hl, h => ⟨v, vs, rfl, gNames_ok (by simpa using hl) h⟩
section
variable {X : Cx} {c : Cf} {pos : Pos} {ms : MM}
theorem dNnil : PGs X [] (gNames []) := pgs_nil
theorem dNcons {i : Nat} {is : List Nat} {x : Str} {es : List Expr} {p : Pos} (hN : X.N.Nodup) (hi : X.N[i]? = some x) (hx : Loc X.env.scope x) (hr : PGs X es (gNames is))
    (hf : X.fn x = true ∨ X.env.scope.names.lookup x = some .local := by first | exact .inl rfl | exact .inr rfl | assumption)
    (hs : (assignEach (.Name x p :: es) X.env).map (·.2) = assign (.Name x p) X.env :: (assignEach es X.env).map (·.2) := by rfl) : PGs X (.Name x p :: es) (gNames (i :: is)) := pgs_cons (pg_name hN hi hx hf) hr hs
theorem dParT {is : List Nat} {es vals : List Expr} {k x1 : Nat} {tpos vpos : Pos} (hc : X.calm = true) (hg : PGs X es (gNames is)) (ha : DM X c vals ms) (hle : is.length ≤ 100 := by decide) (hn : (assignEach es X.env).length = is.length := by rfl) (hst : (assignEach es X.env).findIdx? (·.1) = none := by rfl)
    (hs : swapsWithSole [.Tuple es k tpos] (.Tuple vals x1 vpos) pos.line X.env = pure false := by rfl) (hw : swappedStores [.Tuple es k tpos] (.Tuple vals x1 vpos) X.env = pure none := by rfl)
    (h1 : (assignEach [.Tuple es k tpos] X.env).map (·.2) = [assign (.Tuple es k tpos) X.env] := by rfl) : DS X c (.Assign [.Tuple es k tpos] (.Tuple vals x1 vpos) pos) (mPar is ms) :=
  (ps_asg (pe_tup ha) (pg_tup hc hg hn hst) hs hw h1).imp fun Dn σ H ⟨F, u, ρ, S, h⟩ => ⟨F, u, ρ, S, (flowO.after S h).imp fun sds u1 F1 H1 _ s1 g1 h1 vs R => by
    have h2 := h1.2
    split at h2
    · rename_i hl
      have hlv := R.len
      refine ⟨sz5 (by omega), fun p hp => ⟨p, vs, rfl, SqT.of upd_same, by omega, gNames_ok (by omega) ?_⟩⟩
      have R' : Mats c.W c.p F1 (upd H1 p (.tup vs)) H vs sds := ⟨R.len, fun i v sd ea eb => by
        have := R.at_ i v sd ea eb
        cases sd with
        | sh d => exact this
        | ow ds =>
          obtain ⟨q, ws, e1, e2, e3, e4, e5⟩ := this
          exact ⟨q, ws, e1, by rw [upd_ne (ne_of_none e2 hp)]; exact e2, e3, e4, e5⟩
        | _ => exact this, R.ne⟩
      exact h2 _ F1 _ (Same.refl _) (Sta.setAll S (h1.1.step (Stp.own hp) (g1.own hp)) R' (by omega) (Mats.fresh S R))
    · exact False.elim h2⟩
end
@[simp] theorem s_setAll4 {k l m n : Nat} {s t r q : Sd} {ρ : Env} : setAll [k, l, m, n] [s, t, r, q] ρ = (((ρ.set k s).set l t).set m r).set n q := rfl
@[simp] theorem s_setAll5 {k l m n o : Nat} {s t r q p : Sd} {ρ : Env} : setAll [k, l, m, n, o] [s, t, r, q, p] ρ = ((((ρ.set k s).set l t).set m r).set n q).set o p := rfl
end Mi


set_option Elab.async false
set_option linter.all false
set_option maxRecDepth 100000
set_option maxHeartbeats 4000000
/-! MiEa: own errors of one field, of any base, are made. -/
namespace Mi
open PySem PySem.W PySem.Spec PySem.Calls PyProof.Rows L2 PySem.Builtin PySem.Builtin.ObjectAttr
/-- the text of an error's __init__: self.f = f -/
def eA (f : Str) (p1 p2 : Pos) : Arguments := { posonlyargs := [], args := [{ arg := "self", annotation := none, pos := p1 }, { arg := f, annotation := none, pos := p2 }], vararg := none, kwonlyargs := [], kw_defaults := [], kwarg := none, defaults := [] }
def eB (f : Str) (q1 q2 q3 q4 : Pos) : List Stmt := [.Assign [.Attribute (.Name "self" q1) f q2] (.Name f q3) q4]
def eS (f : Str) : Scope := { kind := .function, names := [(PySem.Str.ofString "self", .local), (f, .local)], isGenerator := false, isCoroutine := false, more := [] }
def FldN (f : Str) : Prop := f = "given" ∨ f = "index" ∨ f = "bill" ∨ f = "bound"
/-- what the written part says of an error class at C, its __init__ at fI -/
structure ErT (K : Frag) (C fI : Addr) (f : Str) : Prop where
  base : ∃ B newId initId bmB, ExcBaseFacts B newId initId bmB ∧ StoreFacts B bmB "object.__setattr__" "object" ∧ excInitIn K C bmB newId = true ∧ excOver K C bmB = true
  sa : findIn K (.ref C) "__setattr__" = some (some (.builtin "object.__setattr__"))
  noF : takerIn K C f = some none
  iC : findIn K (.ref C) "__init__" = some (some (.ref fI))
  tI : typeIn K (.ref fI) = some (.type "function")
  kC : keepIn K (.ref C) = true
  exC : subIn K (.ref C) (.type "BaseException") = some true
  tyC : typeIn K (.ref C) = some (.type "type")
  hdC : hasDictIn K C = true
  fn : ∃ (q : Str) (oc : Value) (od : Option Addr) (kV doc pm : Value) (an : Option Addr) (cdv ct : Value) (osl : Array (Option Value)) (p1 p2 q1 q2 q3 q4 : Pos),
    K.lookup fI = some ⟨oc, od, .func (fnOf "__init__" q (eA f p1 p2) (eB f q1 q2 q3 q4) (eS f) .none kV doc pm an cdv ct), osl⟩ ∧ codeIn K cdv q = true
theorem one_sz (v : Value) : [v].length ≤ sizeLine := by rw [sizeLine_eq]; exact (by decide : 1 ≤ 16777216)
theorem ldE {M : Model} {s : Shared} {name : Str} {scope : Scope} {L a : Addr} {cd : Value} {m : Str → Option Value} {x : Str} {pos : Pos} {v : Value} {Q : Value → Shared → Prop} {A : Around} {E : Value → Shared → Prop} (hn : s.heap.Ns L m) (hv : m x = some v) (h : Q v s)
    (hk : scope.kind = .function) (hl : (envOfC name scope L a cd).kindOf x = some .local) (hd : (x == ("__debug__" : Str)) = false) :
    wpAny M A (eval (.Name x pos) (envOfC name scope L a cd)) Q E s := wpAny_Name (wpAny_loadName_local hk hl hn hv h) hd
/-- what is left of a fresh error at x -/
structure ErEnd (h h' : Heap) (x C dx t1 : Addr) (f : Str) (v : Value) : Prop where
  keep : ∀ b o, b ≠ x → h.get? b = some o → h'.get? b = some o
  obj : h'.get? x = some { cls := .ref C, dict := some dx, data := .fields #[.ref t1, .none, .none, .none, .bool false, .none] }
  dbig : h.objs.size ≤ dx
  dne : dx ≠ x
  ns : h'.Ns1 dx (fun y => if y = f then some v else none)
section
variable {prog : Program} {w : World} {A : Around} {E : Value → Shared → Prop} {R : Result → Shared → Prop} {K : Frag} {C fI : Addr} {f : Str}
/-- the first store in an error without a dict -/
theorem er_store {s : Shared} {tk : Tok} {v : Value} {x t0 : Addr} (T : ErT K C fI f) (X : K.In s.heap) (hx : s.heap.get? x = some (PySem.HandSPX.excO C t0))
    (hq : ∀ h' tk' dx, ErEnd s.heap h' x C dx t0 f v → R (.ok (.ret .none)) { s with heap := h', toks := tk' }) :
    codeAny (model prog w) A (.call (.builtin "object.__setattr__") ⟨[.ref x, .str f tk, v], []⟩) R s := by
  obtain ⟨B, newId, initId, bmB, _, SF, _, ho⟩ := T.base
  have I : InstAt s.heap x (PySem.HandSPX.excO C t0) C none := ⟨hx, rfl, rfl, trivial⟩
  refine osa_openX SF X I ho T.noF fun b => ?_
  obtain ⟨cd, hc, hd'⟩ := any_some (show (clsIn K C).any (·.hasDict) = true from T.hdC)
  obtain ⟨hp, g, d, t, os⟩ := s
  have hcls : Looks (model prog w) hp (classData C) cd := looks_clsIn X hc
  obtain ⟨nm, bs, mro, ns, qn, hdd, sn, sb, ab, col, del⟩ := cd
  dsimp only at hd'
  subst hd'
  have hxs : x ≠ hp.objs.size := Nat.ne_of_lt (Heap.lt_size hx)
  show wpAny _ _ (storeInOwnDict (.ref x) (.ref C) (.str f tk) f v b) _ _ _
  unfold storeInOwnDict ownDictForStores
  repeat (first | with_reducible refine PySem.HandSPX.store_in_new ?_ ?_ | with_reducible refine wpAny_loadPart_at hx ?_ | with_reducible refine hcls.at ?_ | wp_step)
  · exact ⟨_, #[], _, (Heap.get?_update_ne _ _ _ _ hxs.symm).trans (Heap.get?_push_at rfl rfl), rfl, fun e he => absurd he (by simp), fun _ => rfl⟩
  · intro h' tk' hn' hs
    have hx1 := Heap.get?_push_of_some ({ cls := .type "dict", data := .dict #[] } : Obj) hx
    refine hq h' tk' hp.objs.size ⟨fun c o hb ho => ?_, ?_, Nat.le_refl _, hxs.symm, hn'⟩
    · have hne : c ≠ hp.objs.size := Nat.ne_of_lt (Heap.lt_size ho)
      rw [hs.2 c hne, Heap.get?_update_ne _ _ _ _ hb]
      exact Heap.get?_push_of_some _ ho
    · rw [hs.2 x hxs]
      exact Heap.get?_update_self _ hx1 rfl
theorem er_init {s : Shared} {v : Value} {x t0 : Addr} (hf : FldN f) (T : ErT K C fI f) (X : K.In s.heap) (hlim : s.heap.NoLimit) (hx : s.heap.get? x = some (PySem.HandSPX.excO C t0)) (hroom : A.depth < recursionLimit)
    (hq : ∀ h' tk dx, ErEnd s.heap h' x C dx t0 f v → R (.ok (.ret .none)) { s with heap := h', toks := tk }) : codeAny (model prog w) A (.call (.ref fI) ⟨[.ref x, v], []⟩) R s := by
  obtain ⟨q, oc, od, kV, doc, pm, an, cdv, ct, osl, p1, p2, q1, q2, q3, q4, ho, hcd⟩ := T.fn
  have body : ∀ (s₁ : Shared) (cd : Value), (∃ h1 tk1, s₁ = { s with heap := h1, toks := tk1 }) → (∀ b o, s.heap.get? b = some o → s₁.heap.get? b = some o) → s.heap.objs.size < s₁.heap.objs.size →
      (∃ m, s₁.heap.Ns s.heap.objs.size m ∧ m "self" = some (.ref x) ∧ m f = some v) → (hsf : (envOfC q (eS f) s.heap.objs.size fI cd).kindOf "self" = some .local) → ((envOfC q (eS f) s.heap.objs.size fI cd).kindOf f = some .local) → (f == ("__debug__" : Str)) = false →
      ∀ {A' : Around} {Q : Flow → Shared → Prop} {E' : Value → Shared → Prop}, (∀ h' tk dx, ErEnd s.heap h' x C dx t0 f v → Q .next { s with heap := h', toks := tk }) → wpAny (model prog w) A' (execs (eB f q1 q2 q3 q4) (envOfC q (eS f) s.heap.objs.size fI cd)) Q E' s₁ := by
    intro s₁ cd hs₁ k hlt hn h1 h2 h3 A' Q E' hQ
    obtain ⟨h₁, tk₁, rfl⟩ := hs₁
    obtain ⟨m, hn, hm1, hm2⟩ := hn
    have X₁ : K.In h₁ := X.keeps k
    have hx₁ := k _ _ hx
    refine wpAny_execs_cons (plainObj_wpAny_Assign_Attribute ?_)
    refine ldE (v := v) hn hm2 (ldE (v := .ref x) hn hm1 ?_ rfl h1 (by decide)) rfl h2 h3
    refine set_plain X₁ (ox := PySem.HandSPX.excO C t0) (od := none) ⟨hx₁, rfl, rfl, trivial⟩ T.sa ?_
    refine er_store (s := { s with heap := h₁, toks := _ }) T X₁ hx₁ fun h3 tk3 dx en => ?_
    exact wpAny_execs_nil (hQ h3 tk3 dx ⟨fun b o hb e => en.keep b o hb (k b o e), en.obj, Nat.le_trans (Nat.le_of_lt hlt) en.dbig, en.dne, en.ns⟩)
  rcases hf with rfl | rfl | rfl | rfl <;>
  · refine Att.call_fn (binds := [("self", .ref x), (_, v)]) X hlim ho hcd hroom (BindsTo.of_eq (by first | rfl | with_unfolding_all rfl)) (by first | rfl | decide | with_unfolding_all rfl) (fun s₁ IC => ?_) rfl rfl rfl
    refine body s₁ _ IC.toInCall.same IC.toInCall.keep IC.toInCall.ns.lt ⟨_, IC.toInCall.ns, by first | rfl | with_unfolding_all rfl | kernel_rfl, by first | rfl | with_unfolding_all rfl | kernel_rfl⟩ rfl rfl (by decide) fun h' tk dx en => ?_
    exact hq h' tk dx en
/-- a made error -/
structure ErMade (h h' : Heap) (e C d : Addr) (f : Str) (v : Value) : Prop where
  keep : ∀ b o, h.get? b = some o → h'.get? b = some o
  new : h.objs.size ≤ e
  obj : ∃ t1, h'.get? e = some { cls := .ref C, dict := some d, data := .fields #[.ref t1, .none, .none, .none, .bool false, .none] }
  dbig : h.objs.size ≤ d
  dne : d ≠ e
  ns : h'.Ns1 d (fun y => if y = f then some v else none)
theorem er_made {s : Shared} {v : Value} (hf : FldN f) (T : ErT K C fI f) (X : K.In s.heap) (hlim : s.heap.NoLimit) (hroom : A.depth + 1 < recursionLimit)
    (hq : ∀ h' tk e d, ErMade s.heap h' e C d f v → R (.ok (.ret (.ref e))) { s with heap := h', toks := tk }) : codeAny (model prog w) A (.call (.ref C) ⟨[v], []⟩) R s := by
  obtain ⟨B, newId, initId, bmB, FB, _, hq1, _⟩ := T.base
  obtain ⟨nm, N, qn, bs, bm, hdct, sn, sub, ab, col, dd, k0, k1, k2, k3, k5, hC, hT⟩ := excInit_of X hq1
  obtain ⟨hp, g, dr, tk, os⟩ := s
  have k : ∀ b o, hp.get? b = some o → ((hp.push (kdv_tup [v])).push (PySem.HandSPX.excO C hp.objs.size)).get? b = some o := fun b o e => Heap.get?_push_of_some _ (Heap.get?_push_of_some _ e)
  have hget : ((hp.push (kdv_tup [v])).push (PySem.HandSPX.excO C hp.objs.size)).get? (hp.objs.size + 1) = some (PySem.HandSPX.excO C hp.objs.size) := by heap_get
  refine PySem.HandSPX.call_own FB hT hC (looks_findIn X T.iC) (fun self => bind_fn X self T.tI) (one_sz v) ?_
  refine er_init (s := ⟨(hp.push (kdv_tup [v])).push (PySem.HandSPX.excO C hp.objs.size), g, dr, tk, os⟩) hf T (X.keeps k) (hlim.keeps k) hget ?_ fun h' tk' dx en => ?_
  · show A.depth + 1 < recursionLimit
    exact hroom
  · have z : hp.objs.size + 1 + 1 ≤ dx := by
      have q := en.dbig
      rw [Heap.size_push, Heap.size_push] at q
      exact q
    exact ⟨rfl, hq h' tk' (hp.objs.size + 1) dx ⟨fun b o e => en.keep b o (Nat.ne_of_lt (Nat.lt_succ_of_lt (Heap.lt_size e))) (k b o e), Nat.le_succ _, ⟨_, en.obj⟩, Nat.le_trans (Nat.le_trans (Nat.le_succ _) (Nat.le_succ _)) z, en.dne, en.ns⟩⟩
end
/-- C(e) -/
def tMkE (C : Addr) (f : Str) (ta : TA) : L2.St → Hp → XK → Prop := fun σ H Q => ta σ H fun vs H1 => ∃ v, vs = [v] ∧ ∀ d, H1 d = none → Q (.ref C) (some d) (upd H1 d (.xd [(f, v)]))
theorem relO_one {f : Str} {v : V} {u : Value} (r : RelV v u) (g : Str) : RelO (List.lookup g [(f, v)]) (if g = f then some u else none) := by
  by_cases h : g = f
  · subst h
    rw [if_pos rfl]
    have : List.lookup g [(g, v)] = some v := by simp [List.lookup]
    rw [this]; exact r
  · rw [if_neg h]
    have : List.lookup g [(f, v)] = none := by
      have hb : (g == f) = false := by simpa using h
      simp [List.lookup, hb]
    rw [this]; trivial
theorem pmk_er {X : Cx} {C fI : Addr} {x f : Str} {a : Expr} {ta : TA} {p pos : Pos} {k : Nat} (hf : FldN f) (T : ErT X.K C fI f) (hr : Room k X.A) (hg : Gl X x) (gC : X.mg x = some (.ref C)) (ha : PA X [a] ta) (hdb : (x == ("__debug__" : Str)) = false := by decide)
    (he : starEach (a :: []) X.env = (false, eval a X.env) :: starEach [] X.env := by rfl) (hpl : (backTo pos (starEach [] X.env)).any (·.1) = false := by rfl) : L2N.PMk X (.Call (.Name x p) [a] [] pos) (tMkE C f ta) := by
  intro pins s σ H Q I h
  refine wpAny_Call_Name_kw (ld_glob I hg gC ?_ hdb)
  refine PySem.W.callWith_K (h₀ := X.base) I.ok.mod.kin T.kC (thn (ha.run pos pins s σ H _ I h) fun us s1 ⟨vs, H1, I1, r1, v, ev, q1⟩ => ?_) he hpl
  subst ev
  refine ⟨I1.kIn, ?_⟩
  obtain ⟨u, rfl, rv⟩ := Vals.one r1
  have hlim := I1.nolimit
  obtain ⟨hp, g, dr, tk, os⟩ := s1
  show wpAny _ _ (call (.ref C) [u]) _ _ _
  refine wpAny_call (er_made hf T I1.kIn hlim (by have := hr.dp; omega) fun h' tk' e d M => ?_)
  show L2N.MkP X pins σ Q (.ref e) ⟨h', g, dr, tk', os⟩
  obtain ⟨t1, hoe⟩ := M.obj
  have hns := M.ns
  obtain ⟨G, g1, g2⟩ := restrict h' fun b => decide (b ≠ e)
  have gk : ∀ b, b ≠ e → G.get? b = h'.get? b := fun b hb => g1 b (decide_eq_true hb)
  have ge : G.get? e = none := g2 e (by simp)
  have old : ∀ b o, hp.get? b = some o → G.get? b = some o := fun b o q => (gk b (Nat.ne_of_lt (Nat.lt_of_lt_of_le (Heap.lt_size q) M.new))).trans (M.keep b o q)
  have ob : ObjOk X.prog X.w (upd H1 d (.xd [(f, v)])) G d (.xd [(f, v)]) := ⟨_, hns.at (fun o q => (gk d M.dne).trans q), fun f => relO_one rv f⟩
  have J : Inv X pins σ (upd H1 d (.xd [(f, v)])) ⟨G, g, dr, tk', os⟩ := I1.laid (t' := tk') old M.dbig ob
  refine ⟨e, _, _, ⟨G, g, dr, tk', os⟩, _, .ref C, some d, rfl, J, fun b o q => ?_, ge, hoe, ⟨rfl, rfl, fun vs hv => ?_⟩, rfl, rfl, ?_, rfl, I1.bare, raises_own T.exC T.tyC, q1 d (I1.hok.fresh M.dbig)⟩
  · by_cases hb : b = e
    · have q' : G.get? b = some o := q
      rw [hb, ge] at q'; cases q'
    · exact (gk b hb).symm.trans q
  · cases hv; rfl
  · rw [upd_ne (Ne.symm M.dne)]
    exact I1.hok.fresh M.new
end Mi

set_option Elab.async false
set_option linter.all false
set_option maxRecDepth 100000
set_option maxHeartbeats 4000000
/-! MiY: == of equal tuples that hold objects with an own ==. -/
namespace Mi
open PySem PySem.Spec PyProof.Rows L2
variable [TB : Tabl]
theorem Gd.ext {p : Addr} {u : PuS} {F H H' : Hp} (g : Gd p u F H) (e : L2.Ext H H') : Gd p u F H' := ⟨fun a o h => e a o (g.ex a o h), e _ _ g.pu, g.off, g.nt, g.tb.ext e, g.hp⟩
section
variable {X : Cx} {W : Wo} {k : Nat} {f C : Addr} {fd : FuncData} {ps : List Str} {mf : List D → M D} {b : D → Bool}
end
end Mi


set_option Elab.async false
set_option linter.all false
set_option maxRecDepth 100000
set_option maxHeartbeats 4000000
/-! MiP: facts about own methods. -/
namespace Mi
open PySem PySem.Spec PyProof.Rows L2 He
variable [TB : Tabl]
/-! ### facts -/
structure OwnM (K : PySem.W.Frag) (C f : Addr) (n : Str) : Prop where
  has : PySem.W.findIn K (.ref C) n = some (some (.ref f))
  fn : PySem.W.isFn K (.ref f) = true
/-! checks of own == and other own operators, of truth -/
end Mi



set_option Elab.async false
set_option linter.all false
set_option maxRecDepth 100000
set_option maxHeartbeats 4000000
/-! MiJ: max(xs, default=d) of ints; [x] * n as a fresh list. -/
namespace L2
open PySem PySem.Spec PyProof.Rows
/-- the greatest one, d if there is none -/
def mxD (d : Int) : List Int → Int
  | [] => d
  | n :: ns => Mi.maxL (n :: ns)
theorem maxOf_int : ∀ (xs : List Int) (x : Int), PySem.W.maxOf x xs ∈ x :: xs ∧ ∀ y ∈ x :: xs, y ≤ PySem.W.maxOf x xs
  | [], x => ⟨by simp [PySem.W.maxOf], fun y hy => by simp [PySem.W.maxOf] at hy ⊢; omega⟩
  | z :: xs, x => by
    have e : PySem.W.maxOf x (z :: xs) = PySem.W.maxOf (if PySem.W.DatumOrd.lt x z = true then z else x) xs := rfl
    have hl : (PySem.W.DatumOrd.lt x z = true) ↔ x < z := by
      show decide (x < z) = true ↔ _
      exact decide_eq_true_iff
    rw [e]
    by_cases h : x < z
    · rw [if_pos (hl.mpr h)]
      obtain ⟨h1, h2⟩ := maxOf_int xs z
      refine ⟨List.mem_cons_of_mem _ h1, fun y hy => ?_⟩
      rcases List.mem_cons.mp hy with rfl | hy
      · have := h2 z List.mem_cons_self; omega
      · exact h2 y hy
    · rw [if_neg (fun q => h (hl.mp q))]
      obtain ⟨h1, h2⟩ := maxOf_int xs x
      refine ⟨?_, fun y hy => ?_⟩
      · rcases List.mem_cons.mp h1 with h1 | h1
        · rw [h1]; exact List.mem_cons_self
        · exact List.mem_cons_of_mem _ (List.mem_cons_of_mem _ h1)
      · rcases List.mem_cons.mp hy with rfl | hy
        · exact h2 _ List.mem_cons_self
        · rcases List.mem_cons.mp hy with rfl | hy
          · have := h2 x List.mem_cons_self; omega
          · exact h2 y (List.mem_cons_of_mem _ hy)
def rMaxDf (K : PySem.W.Frag) (d : Int) : List V → List V → Hp → VK → Prop := fun vs zs H Q => ∃ (a : Addr) (ns : List Int), vs = [V.ref a] ∧ zs = [.int d] ∧ SqL K H a (ns.map V.int) ∧ Q (.int (mxD d ns)) H
section
variable {X : Cx}
theorem dpAll_ints {K : PySem.W.Frag} {H : Hp} : ∀ ns : List Int, DpAll K H (ns.map V.int) (ns.map PyData.int)
  | [] => .nil
  | n :: ns => .cons (.int n) (dpAll_ints ns)
theorem cr_maxDf {d : Int} (hc : X.calm = true) (hu : X.A.units + 65 < cLine) : CallRK X (.builtin "max") [Str.ofString "default"] (rMaxDf X.K d) := by
  intro pins s σ H vs zs us ws Q I r rz h
  obtain ⟨a, ns, rfl, rfl, hs, q⟩ := h
  obtain rfl := Vals.ref1 r
  obtain ⟨w1, rfl, t1, rfl⟩ := vals1 rz
  obtain ⟨its, rv, hl, hz⟩ := I.list hs
  obtain ⟨as, hr⟩ := Dp.readsAll I (ns.map PyData.int) (ns.map V.int) its (dpAll_ints ns) rv
  refine PySem.W.max_list_datum_default (α := Int) (xs := ns) (vs := its.toArray) (I.ok.hd hc) hl.isList ⟨as, hr⟩ ?_ (fun e h' tk hk => ?_) (fun y ys i v h' tk e hi hv hk => ?_)
  · show X.A.units + 1 + 0 < cLine
    omega
  · subst e
    exact ⟨.int d, H, I.kept (t' := tk) hk, ⟨_, rfl⟩, q⟩
  · subst e
    obtain ⟨bs, hv⟩ := hv
    obtain ⟨h1, h2⟩ := maxOf_int ys y
    have em : mxD d (y :: ys) = PySem.W.maxOf y ys := Mi.maxL_is h1 h2
    rw [em] at q
    have hv' : Reads h' v (PyData.int (PySem.W.maxOf y ys)) bs := hv
    cases hv' with
    | int i t => exact ⟨.int _, H, I.kept (t' := tk) hk, ⟨_, rfl⟩, q⟩
end
end L2
namespace Mi
open PySem PySem.Spec PyProof.Rows L2
variable [TB : Tabl]
def maxDf (d : Int) : List D → Option D := fun ds => match ds with
  | [.lst xs] => (intsD xs).map fun ns => .int (mxD d ns)
  | _ => none
theorem room65' {k : Nat} {A : Around} (r : Room k A) : A.units + 65 < cLine := by have := r.un; omega
theorem dMaxDf {X : Cx} {c : Cf} {e : Expr} {ms : MA} {d : Int} {p pos kpos cp : Pos} {kk : Nat} (hc : X.calm = true) (hu : X.A.units + 65 < cLine) (hg : Gl X "max") (hm : X.mg "max" = none) (ha : DA X c [e] ms) (hK : X.K = c.W.K := by rfl)
    (he : backTo pos (starEach (e :: []) X.env) = (false, eval e X.env) :: backTo pos (starEach [] X.env) := by rfl) (hpl : (backTo pos (starEach (e :: []) X.env)).any (fun x => x.fst) = false := by rfl) : DE X c (.Call (.Name "max" p) [e] [⟨some "default", .Constant (.int d) kk cp, kpos⟩] pos) (mCB (maxDf d) ms) :=
  (pe_callBK (ks := [Str.ofString "default"]) (cr_maxDf (d := d) hc hu) hg hm bb_max ha (dKcons (c := c) (me := mC (.int d)) dInt dKnil) (by decide) (by decide) he hpl).imp fun σ H Q ⟨F, u, ρ, S, h⟩ => ⟨F, u, ρ, S, (After.split h).imp fun xs u1 F1 H1 _ s1 g1 h1 vs rvs => by
    obtain ⟨es, e1, h2⟩ := lft_some h1
    refine ⟨F1, u1, ρ, S.step s1 g1, ?_⟩
    show After c.p F1 H1 (some ([D.int d], u1)) _
    intro F2 H2 s2 g2 zs rz
    obtain ⟨z, rfl, rzz⟩ := rz.one
    unfold maxDf at e1
    split at e1
    · rename_i ys _h
      cases e2 : intsD ys with
      | none => rw [e2] at e1; cases e1
      | some ns =>
        rw [e2] at e1
        cases e1
        obtain ⟨v, rfl, rv⟩ := rvs.one
        obtain ⟨a, ws, rfl, ha', rs⟩ := rv.lst_
        have ew := intsD_rep rs e2
        subst ew
        refine ⟨a, ns, rfl, by rw [rzz.int_], by rw [hK]; exact SqL.of (g2.ex _ _ (s2.ef _ _ ha')), ?_⟩
        exact h2 F2 H2 s2 g2 (.int (mxD d ns)) (.int _)
    · cases e1⟩
/-! ### int of a bool -/
def intBD : List D → Option D := fun ds => match ds with
  | [.bl k] => some (.int (if k then 1 else 0))
  | _ => none
theorem m_intB {W : Wo} : CallM W (fun xs H Q => (∃ i, xs = [.int i] ∧ Q (.int i) H) ∨ ∃ k, xs = [.bl k] ∧ Q (.int (if k then 1 else 0)) H) intBD := by
  intro p F H u xs as Q gd r h
  obtain ⟨d, e, _⟩ := lft_some h
  have e0 := e
  unfold intBD at e
  split at e
  · rename_i k
    cases e
    obtain ⟨v, rfl, rv⟩ := r.one
    exact .inr ⟨k, by rw [rv.bl_], OpM.ret gd h e0 (.int _)⟩
  · cases e
@[simp] theorem s_intB {k : Bool} : intBD [.bl k] = some (.int (if k then 1 else 0)) := rfl
/-! ### [x] * n -/
def repO : D → D → Option (List D)
  | .lst a, .int k => if k ≤ 100000 ∧ -100000 ≤ k ∧ a.length * k.toNat ≤ 100000 then some (List.replicate k.toNat a).flatten else none
  | _, _ => none
theorem dRepO {X : Cx} {c : Cf} {pos : Pos} {a b : Expr} {ma mb : ME} (ha : DE X c a ma) (hb : DE X c b mb) : DL X c (.BinOp a .Mult b pos) (mBinO repO ma mb) :=
  (pe_op op_rep ha hb).imp fun σ H Q ⟨F, u, ρ, S, h⟩ => ⟨F, u, ρ, S, (After.split h).imp fun x u1 F1 H1 _ s1 g1 h1 v rv => ⟨F1, u1, ρ, S.step s1 g1, (After.split h1).imp fun y u2 F2 H2 _ s2 g2 h2 w rw => by
    obtain ⟨ds, e, h3⟩ := lft_some h2
    unfold repO at e
    split at e
    · rename_i xs k _h _h2
      split at e
      · rename_i hl
        cases e
        obtain ⟨p1, v1, rfl, f1, q1⟩ := (rv.mono s2.ef).lst_
        refine ⟨p1, k, v1, rfl, rw.int_, g2.ex _ _ f1, by omega, by omega, sz5 (by rw [q1.1]; exact hl.2.2), fun q hq => ?_⟩
        exact h3 _ _ (Stp.own hq) (g2.own hq) q _ (g2.fresh hq) (s1.back g1.ne (s2.back g2.ne hq)) upd_same (q1.rep _)
      · cases e
    · cases e⟩⟩
end Mi

set_option Elab.async false
set_option linter.all false
set_option maxRecDepth 100000
set_option maxHeartbeats 4000000
/-! MiI: repr(..), str(..) by own methods, sep.join(list of texts). -/
namespace Mi
open PySem PySem.Spec PyProof.Rows L2 He
variable [TB : Tabl]
/-! ### str of an instance -/
/-! ### repr, str of what is an instance, None or a truth -/
def rTxt (C : Addr) (sp : Sp) : List V → Hp → VK → Prop := fun xs H Q => ∃ a dx fs, xs = [.ref a] ∧ H a = some (.ins C dx fs) ∧ sp [.ref a] H (fun v H' => ∃ n : Str, v = .str n ∧ Q (.str n) H') E0
section
variable {X : Cx} {c : Cf} {k : Nat} {f C : Addr} {fd : FuncData} {ps : List Str} {sp : Sp} {mf : List D → M D} {ck : Str} {a : Expr} {ma : ME} {pos : Pos}
theorem call_reprOb (G : FnOk X.prog X.w X.K X.mg X.base CX0 k f fd ps sp) (hr : Room (k + 1) X.A) (hb : Binds X.K fd ps []) (hc : OwnM X.K C f "__repr__") : CallR X (.builtin "repr") (rTxt C sp) := by
  intro pins s σ H vs us Q I r h
  obtain ⟨a, dx, fs, rfl, ha, q⟩ := h
  obtain ⟨u1, rfl, ru⟩ := Vals.one r
  cases ru
  obtain ⟨mA, J, _⟩ := ins_get I.hok ha
  obtain ⟨od, J, _⟩ := J.look
  obtain ⟨m, hF⟩ := I.fr
  refine PySem.W.repr_K hr.in1.units0 hF I.ok.mod.kin J hc.has hc.fn ?_
  refine wpAny_mono (call_at (vs := [.ref a]) G hr.in1 rfl hb I (.cons rfl .nil) q) (fun v s' z => ?_) fun _ _ z => z
  obtain ⟨w, H', I', rw, n, ew, qq⟩ := z
  subst ew
  obtain ⟨t, rfl⟩ := rw
  exact ⟨.str n, H', I', ⟨_, rfl⟩, qq⟩
def bTx (b : Bool) : Str := if b then "True" else "False"
def rRep (C : Addr) (sp : Sp) : List V → Hp → VK → Prop := fun xs H Q => rTxt C sp xs H Q ∨ (xs = [.non] ∧ Q (.str "None") H) ∨ ∃ b, xs = [.bl b] ∧ Q (.str (bTx b)) H
def mTxt (mf : List D → M D) (ds : List D) : M D := M.bind (mf ds) fun r => match r with
  | .str n => M.pure (.str n)
  | _ => lft none
theorem txt_go {c : Cf} {F1 H1 : Hp} {u1 : PuS} {p1 : Addr} {dx : Addr} {vs : List V} {ks : List Str} {ds : List D} {Q : VK} (g1 : Gd c.p u1 F1 H1) (h3 : F1 p1 = some (.ins (c.W.cl ck) dx (ks.zip vs))) (rv : Rep c.W c.p F1 (.ref p1) (.obj ck ks ds))
    (h1 : After c.p F1 H1 (mTxt mf [.obj ck ks ds] u1) (fun d _ F' H' => ∀ v, Rep c.W c.p F' v d → Q v H')) : rTxt (c.W.cl ck) (spM c.W 1 mf) [.ref p1] H1 Q := by
  refine ⟨p1, dx, _, rfl, g1.ex _ _ h3, rfl, c.p, F1, u1, [_], g1, Reps.cons rv Reps.nil, (After.split h1).imp fun d u3 F3 H3 _ s3 g3 h5 z rz => ?_⟩
  split at h5
  · rename_i n _h
    have h6 : After c.p F3 H3 (some (D.str n, u3)) (fun d _ F' H' => ∀ v, Rep c.W c.p F' v d → Q v H') := h5
    exact ⟨n, rz.str_, After.now g3 h6 _ (.str n)⟩
  · exact False.elim h5
theorem bb_repr : bootBuiltins "repr" = some (.builtin "repr") := by decide +kernel
/-! ### join -/
end
@[simp] theorem ok_txt {mf : List D → M D} {ds : List D} {u : PuS} {P : D → PuS → Prop} : Ok (mTxt mf ds) u P ↔ Ok (mf ds) u fun d u1 => ∃ n, d = .str n ∧ P (.str n) u1 := by
  unfold mTxt
  rw [ok_bind]
  constructor
  · refine fun h => h.mono fun d u1 z => ?_
    cases d with
    | str y => exact ⟨y, rfl, ok_pure.mp z⟩
    | _ => exact (ok_none.mp z).elim
  · refine fun h => h.mono fun d u1 z => ?_
    obtain ⟨n, rfl, z⟩ := z
    exact ok_pure.mpr z
/-! ### == of texts -/
def neSD : D → D → Option D
  | .str a, .str b => some (.bl (!decide (a = b)))
  | _, _ => none
theorem m_neS {W : Wo} : OpM W rNe neSD := by
  intro p F H u x y a b Q gd rx ry h
  obtain ⟨d, e, _⟩ := lft_some h
  have e0 := e
  unfold neSD at e
  split at e
  · cases e
    rename_i a b _hh
    rw [rx.str_, ry.str_]
    refine ⟨rfl, ?_⟩
    have e1 : decide (V.str a = V.str b) = decide (a = b) := by rw [Bool.eq_iff_iff]; simp
    rw [e1]
    exact OpM.ret gd h e0 (.bl _)
  · cases e
@[simp] theorem s_neS' {a b : Str} : neSD (.str a) (.str b) = some (.bl (!decide (a = b))) := rfl
/-! ### recursion -/
end Mi


set_option Elab.async false
set_option linter.all false
set_option maxRecDepth 100000
set_option maxHeartbeats 4000000
/-! MiGa: defs that run where no repr is under way; repr of lists and tuples of plain data. -/
namespace Mi
open PySem PySem.Spec PyProof.Rows L2 He
variable [TB : Tabl]
/-- what a def promises where no repr is under way -/
structure FnG (P : Program) (w : World) (K : PySem.W.Frag) (mg : Str → Option Value) (base : Heap) (k : Nat) (f : Addr) (fd : FuncData) (ps : List Str) (sp : Sp) : Prop where
  len : ∀ vs H Q E, sp vs H Q E → vs.length = ps.length
  run : ∀ (A : Around) (outer : List PySem.Env) (s : Shared) (H : Hp) (args : Args) (us : List Value) (vs : List V) (Q : VK) (E : XK), A.guards = some [] → Room k A → Env0 P w K mg base A outer s H → BindsTo s fd args (ps.zip us) → Vals vs us → sp vs H Q E →
    codeAny (model P w) A (.call (.ref f) args) (CR CX0 outer P w H s Q E) s
section
variable {P : Program} {w : World} {K : PySem.W.Frag} {mg : Str → Option Value} {base : Heap} {x qual : Str} {params : Arguments} {body : List Stmt} {scope : Scope} {dvs : List V} {kws : List (Str × V)} {f : Addr} {fd : FuncData} {W : Wo} {N ps : List Str} {k : Nat} {mb : MS}
theorem fn_mirG (F : FunD K x qual params body scope dvs kws f fd) (S : FnScope N ps scope)
    (hb : ∀ (cdv : Value) (A : Around) (outer : List PySem.Env) (s : Shared) (H : Hp) (E : XK) (p : Addr) (F0 : Hp), A.guards = some [] → Room k (A.deeper (envOfC qual scope s.heap.objs.size f cdv)) → DB (cxOf CX0 P w K mg base N qual scope f cdv A outer s H E).nox ⟨W, p, F0, H, 0, noX⟩ body mb) :
    FnG P w K mg base (k + 1) f fd ps (spM W ps.length (mFn N.length mb)) := by
  refine ⟨fun vs H Q E h => h.1, fun A outer s H args us vs Q E hg hr e0 hbd r hsp => ?_⟩
  obtain ⟨oc, od, dV, kV, doc, pm, an, cdv, ct, osl, rfl, lk, hcd, _, _⟩ := F.ex
  refine StX.run_bnd (G := fun xs H2 => xs = vs ∧ H2 = H) lk hcd S hr e0 (fun A' Ex Q' h => hbd _ _ _ _ (h s H vs us e0 Un.refl rfl (fun _ _ z => z) r hsp.1 ⟨rfl, rfl⟩)) fun s2 H2 xs ⟨ex, eH⟩ hr' => ?_
  subst ex eH
  obtain ⟨hl, p, F0, u, ds, g, r, h⟩ := hsp
  refine ⟨_, PSs.nox (hb cdv A outer s2 _ E p F0 hg hr'), F0, u, startE N.length ds, ⟨Stp.refl, g, env_start r⟩, ?_⟩
  unfold mFn at h
  cases e : mb (startE N.length ds) u with
  | none => rw [e] at h; exact h
  | some y =>
    obtain ⟨fl, u1⟩ := y
    rw [e] at h
    cases fl with
    | rt d =>
      intro v F' H' s' g' rv
      have h2 : After p F0 _ (some (d, u1)) (fun d _ F' H' => ∀ v, Rep W p F' v d → Q v H') := h
      exact h2 F' H' s' g' v rv
    | rl ds' => exact False.elim h
    | nx ρ' =>
      intro σ' F' H' _ S'
      have h2 : After p F0 _ (some (D.non, u1)) (fun d _ F' H' => ∀ v, Rep W p F' v d → Q v H') := h
      exact h2 F' H' S'.ent S'.gd .non .non
    | bk ρ' => exact False.elim h
    | ct ρ' => exact False.elim h
    | ex ρ' k' ks' ds' => exact False.elim h
end
section
variable {X : Cx} {k : Nat} {f : Addr} {fd : FuncData} {ps : List Str} {sp : Sp} {dvs : List V} {ds : List Value} {E : XK} {x : Str} {p pos : Pos} {e : Expr} {es : List Expr} {t : TA}
theorem pe_callG (F : FnG X.prog X.w X.K X.mg X.base k f fd ps sp) (hgd : X.A.guards = some []) (hr : Room k X.A) (hg : Gl X x) (hm : X.mg x = some (.ref f)) (hk : PySem.W.keepIn X.K (.ref f) = true) (hb : Binds X.K fd ps ds) (hd : Vals dvs ds) (hx : Passes CX0 X E)
    (ha : PA X (e :: es) t) (hdb : (x == ("__debug__" : Str)) = false := by decide) (he : starEach (e :: es) X.env = (false, eval e X.env) :: starEach es X.env := by rfl) (hpl : (backTo pos (starEach es X.env)).any (·.1) = false := by rfl) :
    PE X (.Call (.Name x p) (e :: es) [] pos) (tCall sp dvs E t) := by
  refine ⟨fun pins s σ H Q I h => wpAny_Call_Name_kw (ld_glob I hg hm ?_ hdb)⟩
  refine PySem.W.callWith_K (h₀ := X.base) I.ok.mod.kin hk (thn (ha.run pos pins s σ H _ I h) fun us s1 ⟨vs, H1, I1, r, q⟩ => ⟨I1.kIn, wpAny_call ?_⟩) he hpl
  have r2 : Vals (vs ++ dvs) (us ++ ds) := r.append hd
  have hl : (us ++ ds).length = ps.length := r2.length ▸ F.len _ _ _ _ q
  refine codeAny_mono (F.run X.A X.stack s1 H1 ⟨us, []⟩ (us ++ ds) (vs ++ dvs) Q E hgd hr I1.env0 (hb s1 us I1.kIn hl) r2 q) fun z s2 hq => ?_
  match z, hq with
  | .error er, hq => exact hx pins σ H1 s1 er s2 I1 hq
  | .ok (.ret u), hq => exact I1.after hq
end
section
variable {X : Cx} {c : Cf} {k n : Nat} {f : Addr} {fd : FuncData} {ps : List Str} {x : Str} {p pos : Pos} {e : Expr} {es : List Expr} {ms : MA} {mf : List D → M D}
theorem dCallG (G : FnG X.prog X.w X.K X.mg X.base k f fd ps (spM c.W n mf)) (hgd : X.A.guards = some []) (hr : Room k X.A) (hg : Gl X x) (hm : X.mg x = some (.ref f)) (hk : PySem.W.keepIn X.K (.ref f) = true) (hb : Binds X.K fd ps [])
    (ha : DA X c (e :: es) ms) (hdb : (x == ("__debug__" : Str)) = false := by decide) (he : starEach (e :: es) X.env = (false, eval e X.env) :: starEach es X.env := by rfl) (hpl : (backTo pos (starEach es X.env)).any (·.1) = false := by rfl) :
    DE X c (.Call (.Name x p) (e :: es) [] pos) (mCall n mf ms) :=
  (pe_callG G hgd hr hg hm hk hb .nil pass0 ha hdb he hpl).imp fun σ H Q ⟨F, u, ρ, S, h⟩ => ⟨F, u, ρ, S, (After.split h).imp fun ds u1 F1 H1 _ s1 g1 h1 vs rvs => by
    show spM c.W n mf (vs ++ []) H1 Q E0
    rw [List.append_nil]
    exact call_ok g1 rvs h1⟩
end
section
variable {X : Cx} {c : Cf} {k n : Nat} {f : Addr} {fd : FuncData} {ps : List Str} {x : Str} {p pos : Pos} {e : Expr} {es : List Expr} {ms : MA}
theorem dWithG {mf : List D → M D} {ml : MA} (G : FnG X.prog X.w X.K X.mg X.base k f fd ps (spM c.W 1 mf)) (hgd : X.A.guards = some []) (hr : Room k X.A) (hg : Gl X x) (hm : X.mg x = some (.ref f)) (hk : PySem.W.keepIn X.K (.ref f) = true) (hb : Binds X.K fd ps [])
    (ha : DL X c e ml) (hdb : (x == ("__debug__" : Str)) = false := by decide) (he : starEach [e] X.env = (false, eval e X.env) :: starEach [] X.env := by rfl) (hpl : (backTo pos (starEach [] X.env)).any (·.1) = false := by rfl) :
    DE X c (.Call (.Name x p) [e] [] pos) (mWith mf ml) :=
  (pe_callG G hgd hr hg hm hk hb .nil pass0 (pa_cons ha pa_nil he) hdb he hpl).imp fun σ H Q ⟨F, u, ρ, S, h⟩ => ⟨F, u, ρ, S, by
    unfold mWith M.bind at h
    cases e0 : ml ρ u with
    | none => rw [e0] at h; exact False.elim h
    | some y0 =>
      obtain ⟨ds, u1⟩ := y0
      rw [e0] at h
      intro F1 H1 s1 g1 q vs hF hn hq r
      have hqp : q ≠ c.p := fun z => S.gd.ne (z ▸ hn)
      obtain ⟨d, e1, h2⟩ := lft_some h
      cases e2 : intsD ds with
      | none => rw [e2] at e1; cases e1
      | some l =>
        rw [e2] at e1
        have hv := intsD_rep r e2
        subst hv
        show spM c.W 1 mf ([.ref q] ++ []) H1 Q E0
        rw [List.append_nil]
        refine ⟨rfl, q, F1, .real l, [.pur], ⟨g1.ex, hq, fun _ _ => hF, g1.nt, g1.tb, (by intro _ z; cases z)⟩, Reps.cons .pur Reps.nil, ?_⟩
        cases e3 : mf [.pur] (.real l) with
        | none => simp [e3] at e1
        | some y =>
          obtain ⟨r3, u3⟩ := y
          cases r3 with
          | bl b =>
            simp [e3] at e1
            subst e1
            intro F' H' s' g' v rv
            rw [rv.bl_]
            refine h2 F' H' ⟨s1.ef.trans s'.ef, fun a o ha e n => ?_, fun a ps ha e => (let ⟨qs, e1⟩ := s1.et a ps ha e; s'.et a qs (fun z => by rw [z, hn] at e; cases e) e1), fun a o e => ?_⟩ ⟨g'.ex, ?_, fun l' e => ?_, g'.nt, g'.tb, g1.hp⟩ (.bl b) (.bl b)
            · exact s'.eh a o (fun z => by rw [z, hn] at e; cases e) (s1.eh a o ha e n) n
            · rcases s'.nw a o e with z | z
              · exact s1.nw a o z
              · exact .inr (s1.back g1.ne z)
            · exact s'.eh c.p _ (Ne.symm hqp) g1.pu (.inr g1.hp)
            · exact s'.off (g1.off l' e) g1.ne
          | _ => simp [e3] at e1⟩
end
/-! ### repr of lists and tuples of plain data -/
def seqQ : D → Bool
  | .lst _ => true
  | .tup _ => true
  | _ => false
section
variable {X : Cx} {c : Cf} {a : Expr} {ma : ME} {pos : Pos}
theorem call_reprD (hgd : X.A.guards = some []) (hu : X.A.units + 65 < cLine) : CallR X (.builtin "repr") (fun xs H Q => ∃ q d, xs = [.ref q] ∧ Dp X.K H (.ref q) d ∧ d.showable = true ∧ d.hasDict = false ∧ d.depth ≤ 60 ∧ d.shown.length ≤ 100000 ∧ Q (.str d.shown) H) := by
  intro pins s σ H vs us Q I r h
  obtain ⟨q, d, rfl, hd, h1, h2, h3, h4, qq⟩ := h
  obtain ⟨u1, rfl, ru⟩ := Vals.one r
  obtain ⟨as, r1⟩ := Dp.reads I d _ _ hd ru
  cases ru
  exact repr_of_reads' r1 h1 (fun z => by rw [h2] at z; cases z) hgd (by omega) (fun b o e => e) (fun h' u tk hk => ⟨.str _, H, I.kept hk, ⟨_, rfl⟩, qq⟩) (sz5 h4)
end
end Mi

set_option Elab.async false
set_option linter.all false
set_option maxRecDepth 100000
set_option maxHeartbeats 4000000
/-! MiGb: a law from a promise that holds where no repr is under way. -/
namespace Mi
open PySem PySem.Spec PyProof.Rows L2 He
variable [TB : Tabl]
/-- the script's object, if it is none of the module's own -/
def scrH (K : PySem.W.Frag) (a : Addr) (ob : Obj) (ns : List Int) : Hp := fun b => if K.lookup a = none ∧ b = a then some (.frz ob (.lst (ns.map V.int))) else none
theorem scrH_some {K : PySem.W.Frag} {a b : Addr} {ob : Obj} {ns : List Int} {u : HO} (h : scrH K a ob ns b = some u) : K.lookup a = none ∧ b = a ∧ u = .frz ob (.lst (ns.map V.int)) := by
  unfold scrH at h
  split at h
  · rename_i hc
    cases h
    exact ⟨hc.1, hc.2, rfl⟩
  · cases h
end Mi

set_option Elab.async false
set_option linter.all false
set_option maxRecDepth 100000
set_option maxHeartbeats 4000000
/-! MiGc: o.m(k = v), tuple(reversed(x)), x op= y by own methods, defs where no repr is under way. -/
namespace Mi
open PySem PySem.Spec PyProof.Rows L2 He
variable [TB : Tabl]
abbrev FOG (cs : List Str) (P : Program) (w : World) (K : PySem.W.Frag) (mg : Str → Option Value) (base : Heap) (k : Nat) (pl : Pl) (ps : List Str) (n : Nat) (mf : List D → M D) : Prop := FnG P w K mg base k (pl.ad K) (fdOf K (pl.ad K)) ps (spM (WW cs K) n mf)
/-! ### o.m(k = v, ..) -/
section
variable {X : Cx} {c : Cf} {k np : Nat} {f C : Addr} {fd : FuncData} {ps ks : List Str} {pos apos : Pos} {o : Expr} {kws : List Keyword} {mk : MA} {mf : List D → M D} {perm : List Nat} {m : Str} {pl : Sem Bool}
end
/-! ### tuple(reversed(x)) -/
section
variable {X : Cx} {c : Cf} {a : Expr} {ma : ME} {p0 p2 pos pos2 : Pos}
end
/-! ### x op= y by an own method -/
section
open PySem.W
variable {prog : Program} {w : World} {Mo : Model} {A : Around} {E : Value → Shared → Prop} {s : Shared} {K : PySem.W.Frag} {x C L f : Addr} {h₀ : Heap} {m : Str → Option Value} {ox : Obj} {od : Option Obj} {nm : String}
end
section
variable {X : Cx} {k : Nat} {f C : Addr} {fd : FuncData} {ps : List Str} {sp : Sp}
end
section
variable {X : Cx} {c : Cf} {k i : Nat} {f : Addr} {fd : FuncData} {ps : List Str} {mf : List D → M D} {ck x : Str} {e : Expr} {me : ME} {pos pos' : Pos}
end
end Mi


set_option Elab.async false
set_option linter.all false
set_option maxRecDepth 100000
set_option maxHeartbeats 4000000
/-! MiTx: s.split(t), s.partition(t), int(text); C(k = v); class methods without a star. -/
namespace Mi
open PySem PySem.Spec PyProof.Rows L2 He StX
variable [TB : Tabl]
section
variable {X : Cx} {c : Cf} {o e : Expr} {mo me : ME} {pos apos : Pos}
end
/-! ### C(k = v, ..) -/
def mMakeK (ck : Str) (nk n : Nat) (perm : List Nat) (mf : List D → M (List Str × List D)) (mk : MA) : ME := fun ρ => M.bind (mk ρ) fun es => if es.length = nk then (if (gI perm [] es).length = n then M.bind (mf (gI perm [] es)) fun r => M.pure (.obj ck r.1 r.2) else lft none) else lft none
section
variable {X : Cx} {c : Cf} {k n : Nat} {f : Addr} {fd : FuncData} {ps ks : List Str} {x ck : Str} {p pos : Pos} {kws : List Keyword} {mk : MA} {mf : List D → M (List Str × List D)} {perm perm' : List Nat}
theorem dMakeK (hc : ck ∈ c.W.cs) (Mk' : Mk X.K (c.W.cl ck) f) (G : FnOk X.prog X.w X.K X.mg X.base CX0 k f fd ps (spI c.W ck n mf)) (hr : Room (k + 1) X.A) (hg : Gl X x) (hm : X.mg x = some (.ref (c.W.cl ck))) (hb : KBn X.K fd ps 1 ks (gI perm) (gI perm)) (hkw : DK X c kws mk) (hpm : ∀ (a : V) (zs : List V), gI perm [a] zs = a :: gI perm' [] zs)
    (hall : (backToKw pos (keywordEach kws X.env)).all (·.1.isSome) = true := by rfl) (hks : (backToKw pos (keywordEach kws X.env)).filterMap (·.1) = ks := by rfl) (hdb : (x == ("__debug__" : Str)) = false := by decide)
    (hpl : ((backTo pos (starEach [] X.env)).any (·.1) || (backToKw pos (keywordEach kws X.env)).any (·.1.isNone)) = false := by rfl) :
    DE X c (.Call (.Name x p) [] kws pos) (mMakeK ck ks.length n perm' mf mk) :=
  (pe_makeK0 Mk' G hr hg hm hb pass0 hkw hall hks hdb hpl).imp fun σ H Q ⟨F, u, ρ, S, h⟩ => ⟨F, u, ρ, S, (After.split h).imp fun es u1 F1 H1 _ s1 g1 h1 zs rzs => by
    have h2 : After c.p F1 H1 ((if es.length = ks.length then (if (gI perm' [] es).length = n then M.bind (mf (gI perm' [] es)) fun r => M.pure (D.obj ck r.1 r.2) else lft none) else lft none) u1) (fun d _ F' H' => ∀ v, Rep c.W c.p F' v d → Q v H') := h1
    split at h2
    · rename_i hl
      refine ⟨rfl, rzs.1.trans hl, fun a dx ha hdx hne => ?_⟩
      have rr := gI_reps (perm := perm') (Reps.nil (W := c.W) (p := c.p) (F := F1)) rzs
      show spI c.W ck n mf (gI perm [.ref a] zs) _ _ _
      rw [hpm]
      exact make_ok hc g1 rr h2 a dx ha hdx hne
    · exact False.elim h2⟩
end
@[simp] theorem ok_makeK {ck : Str} {nk n : Nat} {perm : List Nat} {mf : List D → M (List Str × List D)} {mk : MA} {ρ : Env} {u : PuS} {P : D → PuS → Prop} : Ok (mMakeK ck nk n perm mf mk ρ) u P ↔ Ok (mk ρ) u fun es u1 => es.length = nk ∧ (gI perm [] es).length = n ∧ Ok (mf (gI perm [] es)) u1 fun r u2 => P (.obj ck r.1 r.2) u2 := by
  unfold mMakeK; simp only [ok_bind]
  constructor
  · refine fun h => h.mono fun a u' z => ?_
    simp only [ok_ite] at z
    split at z
    · rename_i h1
      split at z
      · rename_i h2
        exact ⟨h1, h2, (ok_bind.mp z).mono fun _ _ z => ok_pure.mp z⟩
      · exact (ok_none.mp z).elim
    · exact (ok_none.mp z).elim
  · refine fun h => h.mono fun a u' z => ?_
    obtain ⟨h1, h2, z⟩ := z
    simp only [ok_ite]
    rw [if_pos h1, if_pos h2]
    exact ok_bind.mpr (z.mono fun _ _ z => ok_pure.mpr z)
/-! ### C.m(..), m a class method without a star -/
section
variable {X : Cx} {c : Cf} {k n : Nat} {p g : Addr} {mc : Value} {fd : FuncData} {ps : List Str} {o e : Expr} {es : List Expr} {m ck : Str} {pos apos : Pos} {mo : ME} {ms : MA} {pl : Sem Bool} {mf : List D → M D}
end
/-! ### C.m(k = v, ..), m a class method -/
section
variable {X : Cx} {c : Cf} {k n : Nat} {p g C : Addr} {mc : Value} {fd : FuncData} {ps ks : List Str} {o : Expr} {kws : List Keyword} {m ck : Str} {pos apos : Pos} {mo : ME} {mk : MA} {pl : Sem Bool} {mf : List D → M D} {perm : List Nat}
end
/-! ### f"{x}" by an own __str__ -/
section
variable {X : Cx} {c : Cf} {k : Nat} {f C : Addr} {fd : FuncData} {ps : List Str} {sp : Sp} {mf : List D → M D} {ck : Str} {a : Expr} {ma : ME} {pos : Pos}
end
/-! ### a, b = xs, xs a list -/
section
variable {X : Cx} {c : Cf} {es : List Expr} {is : List Nat} {gs : List D → Env → Option Env} {pos : Pos}
end
end Mi


set_option Elab.async false
set_option linter.all false
set_option maxRecDepth 100000
set_option maxHeartbeats 4000000
/-! MiEb: what may raise: mirrors that answer a value or an error. -/
namespace Mi
open PySem PySem.Spec PyProof.Rows L2
variable [TB : Tabl]
inductive RX where
  | ok (d : D) | er (c : Str) (ks : List Str) (ds : List D)
abbrev MX := Env → M RX
/-- what is wished of such an answer -/
def resX (W : Wo) (p : Addr) (Q : VK) (E : XK) : RX → PuS → Hp → Hp → Prop := fun r _ F' H' => match r with
  | .ok d => ∀ v, Rep W p F' v d → Q v H'
  | .er k ks ds => ∀ cls od, ExRep W p F' k ks ds cls od → E cls od H'
def rdX (c : Cf) (m : MX) : TE := fun σ H Q => ∃ F u ρ, Sta c u F H σ ρ ∧ After c.p F H (m ρ u) (resX c.W c.p Q fun cls od H' => c.xw cls od σ H')
abbrev DX (X : Cx) (c : Cf) (e : Expr) (m : MX) : Prop := PE X e (rdX c m)
/-- a def's promise by such a mirror -/
def spX (W : Wo) (n : Nat) (mf : List D → M RX) : Sp := fun vs H Q E => vs.length = n ∧ ∃ p F u ds, Gd p u F H ∧ Reps W p F vs ds ∧ After p F H (mf ds u) (resX W p Q E)
/-! ### raise -/
def mRaise (k f : Str) (ms : MA) : MS := fun ρ => M.bind (ms ρ) fun ds => M.pure (.ex ρ k [f] ds)
theorem dRaise {X : Cx} {c : Cf} {k f : Str} {fI : Addr} {a : Expr} {ms : MA} {p pos pos2 : Pos} {r : Nat} (hc : X.calm = true) (tk : L2N.Takes X c.xw) (hk : k ∈ errs) (hf : FldN f) (T : ErT X.K (c.W.cl k) fI f) (hr : Room r X.A) (hg : Gl X k) (gC : X.mg k = some (.ref (c.W.cl k))) (ha : DA X c [a] ms)
    (hl : ∀ ρ u ds u', ms ρ u = some (ds, u') → ds.length = 1) (hdb : (k == ("__debug__" : Str)) = false := by decide)
    (he : starEach (a :: []) X.env = (false, eval a X.env) :: starEach [] X.env := by rfl) (hpl : (backTo pos (starEach [] X.env)).any (·.1) = false := by rfl) : DS X c (.Raise (some (.Call (.Name k p) [a] [] pos)) none pos2) (mRaise k f ms) :=
  (L2N.ps_raise hc tk (pmk_er hf T hr hg gC ha hdb he hpl)).imp fun Dn σ H ⟨F, u, ρ, S, h⟩ => ⟨F, u, ρ, S, by
    have h1 := flowO.after (f := fun ds => M.pure (Fl.ex ρ k [f] ds)) S h
    refine h1.imp fun ds u1 F1 H1 e1 s1 g1 h2 vs rvs => ?_
    have hl1 := hl ρ u ds u1 e1
    obtain ⟨d, rfl⟩ : ∃ d, ds = [d] := by
      match ds, hl1 with
      | [d], _ => exact ⟨d, rfl⟩
    obtain ⟨v, vr, rfl, rv, rn⟩ := rvs.uncons
    obtain rfl := rn.none
    refine ⟨v, rfl, fun dx hdx => ?_⟩
    have s2 : Stp c.p F1 H1 (upd F1 dx (.xd [(f, v)])) (upd H1 dx (.xd [(f, v)])) := Stp.new g1 hdx
    have g2 : Gd c.p u1 (upd F1 dx (.xd [(f, v)])) (upd H1 dx (.xd [(f, v)])) := g1.new hdx
    exact h2.2 σ _ _ (.ref (c.W.cl k)) (some dx) s2.ef (h2.1.step s2 g2) ⟨rfl, hk, [v], rfl, Reps.cons (rv.mono s2.ef) Reps.nil, .inl ⟨dx, rfl, upd_same⟩⟩⟩
theorem len1 {m : ME} : ∀ ρ u ds u', (mCons m mNil) ρ u = some (ds, u') → ds.length = 1 := fun ρ u ds u' h => by
  unfold mCons mNil M.bind M.pure at h
  cases e : m ρ u with
  | none => rw [e] at h; cases h
  | some x => obtain ⟨d, u1⟩ := x; rw [e] at h; cases h; rfl
/-! ### statements whose expression may raise -/
/-- the error of an expression is the statement's -/
def mX (m : MX) (k : D → Env → M Fl) : MS := fun ρ => M.bind (m ρ) fun r => match r with
  | .ok d => k d ρ
  | .er c ks ds => M.pure (.ex ρ c ks ds)
def mSetX (i : Nat) (m : MX) : MS := mX m fun d ρ => M.pure (.nx (ρ.set i (.sh d)))
section
variable {X : Cx} {c : Cf} {pos : Pos} {e : Expr} {m : MX} {i : Nat}
theorem mX_at {F H : Hp} {Dn : Ends} {u : PuS} {ρ : Env} {σ : L2.St} {k : D → Env → M Fl} {Q : VK} (S : Sta c u F H σ ρ) (h : flowO c F Dn (mX m k ρ u))
    (q : ∀ d u1 F1 H1 v, Sta c u1 F1 H1 σ ρ → Stp c.p F H F1 H1 → flowO c F1 Dn (k d ρ u1) → Rep c.W c.p F1 v d → Q v H1) : After c.p F H (m ρ u) (resX c.W c.p Q fun cls od H' => c.xw cls od σ H') :=
  (flowO.after S h).imp fun r u1 F1 H1 _ s1 g1 h1 => by
    cases r with
    | ok d => exact fun v rv => q d u1 F1 H1 v h1.1 s1 h1.2 rv
    | er k' ks ds => exact fun cls od er => h1.2 σ F1 H1 cls od (Same.refl _) h1.1 er
theorem dSetX {x : Str} {pos' : Pos} (hN : X.N.Nodup) (hi : X.N[i]? = some x) (hx : Loc X.env.scope x) (he : DX X c e m) (hs : swapsWith e (some (.Name x pos')) pos.line X.env = pure false := by rfl)
    (hf : X.fn x = true ∨ X.env.scope.names.lookup x = some .local := by first | exact .inl rfl | exact .inr rfl | assumption) : DS X c (.Assign [.Name x pos'] e pos) (mSetX i m) :=
  (ps_set hN hi hx he hs hf).imp fun Dn σ H ⟨F, u, ρ, S, h⟩ => ⟨F, u, ρ, S, mX_at S h fun d u1 F1 H1 v S1 _ h1 rv => h1 _ F1 H1 (Same.refl _) (S1.set rv)⟩
end
/-! ### a def that may raise -/
def mFnX (n : Nat) (mb : MS) : List D → M RX := fun ds u => match mb (startE n ds) u with
  | some (.rt d, u') => some (.ok d, u')
  | some (.nx _, u') => some (.ok .non, u')
  | some (.ex _ k ks es, u') => some (.er k ks es, u')
  | _ => none
section
variable {P : Program} {w : World} {K : PySem.W.Frag} {mg : Str → Option Value} {base : Heap} {x qual : Str} {params : Arguments} {body : List Stmt} {scope : Scope} {dvs : List V} {kws : List (Str × V)} {f : Addr} {fd : FuncData} {W : Wo} {N ps : List Str} {k : Nat} {mb : MS}
/-- the wish of a def's frame about errors -/
abbrev wE (E : XK) : WX := fun cls od _ H => E cls od H
theorem takes_def {N : List Str} {qual : Str} {scope : Scope} {f : Addr} {cdv : Value} {A : Around} {outer : List PySem.Env} {s : Shared} {H : Hp} {E : XK} : L2N.Takes (cxOf (L2N.CX P w) P w K mg base N qual scope f cdv A outer s H E) (wE E) :=
  L2N.takes_of (X := cxOf (L2N.CX P w) P w K mg base N qual scope f cdv A outer s H E) (E := E) rfl rfl rfl rfl
theorem fn_mirX (F : FunD K x qual params body scope dvs kws f fd) (S : FnScope N ps scope)
    (hb : ∀ (cdv : Value) (A : Around) (outer : List PySem.Env) (s : Shared) (H : Hp) (E : XK) (p : Addr) (F0 : Hp), Room k (A.deeper (envOfC qual scope s.heap.objs.size f cdv)) →
      L2N.Takes (cxOf (L2N.CX P w) P w K mg base N qual scope f cdv A outer s H E) (wE E) → DB (cxOf (L2N.CX P w) P w K mg base N qual scope f cdv A outer s H E) ⟨W, p, F0, H, 0, wE E⟩ body mb) :
    FnOk P w K mg base (L2N.CX P w) (k + 1) f fd ps (spX W ps.length (mFnX N.length mb)) := by
  refine F.ok S (fun vs H Q E h => h.1) (fun cdv A outer s H vs Q E hr h => ?_)
  obtain ⟨hl, p, F0, u, ds, g, r, h⟩ := h
  refine ⟨_, hb cdv A outer s H E p F0 hr takes_def, F0, u, startE N.length ds, ⟨Stp.refl, g, env_start r⟩, ?_⟩
  unfold mFnX at h
  cases e : mb (startE N.length ds) u with
  | none => rw [e] at h; exact h
  | some y =>
    obtain ⟨fl, u1⟩ := y
    rw [e] at h
    cases fl with
    | rt d =>
      intro v F' H' s' g' rv
      have h2 : After p F0 H (some (RX.ok d, u1)) (resX W p Q E) := h
      exact h2 F' H' s' g' v rv
    | rl ds' => exact False.elim h
    | nx ρ' =>
      intro σ' F' H' _ S'
      have h2 : After p F0 H (some (RX.ok D.non, u1)) (resX W p Q E) := h
      exact h2 F' H' S'.ent S'.gd .non .non
    | bk ρ' => exact False.elim h
    | ct ρ' => exact False.elim h
    | ex ρ' k' ks' ds' =>
      intro σ' F' H' cls od _ S' er
      have h2 : After p F0 H (some (RX.er k' ks' ds', u1)) (resX W p Q E) := h
      exact h2 F' H' S'.ent S'.gd cls od er
end
/-! ### calls -/
def mCallX (n : Nat) (mf : List D → M RX) (ms : MA) : MX := fun ρ => M.bind (ms ρ) fun ds => if ds.length = n then mf ds else lft none
section
variable {X : Cx} {c : Cf} {k n : Nat} {f : Addr} {fd : FuncData} {ps : List Str} {x m : Str} {p pos apos : Pos} {e o : Expr} {es : List Expr} {ms : MA} {mo : ME} {mf : List D → M RX}
theorem callX_ok {p : Addr} {F H : Hp} {u : PuS} {vs : List V} {ds : List D} {W : Wo} {Q : VK} {E : XK} (g : Gd p u F H) (r : Reps W p F vs ds) (h : After p F H ((if ds.length = n then mf ds else lft none) u) (resX W p Q E)) : spX W n mf vs H Q E := by
  by_cases hl : ds.length = n
  · rw [if_pos hl] at h
    exact ⟨r.1.trans hl, p, F, u, ds, g, r, h⟩
  · rw [if_neg hl] at h; exact False.elim h
/-- the errors of a callee are taken -/
theorem psX (tk : L2N.Takes X c.xw) (σ : L2.St) : PassesAt (L2N.CX X.prog X.w) X σ (WE c.xw σ) := L2N.passAt tk σ
theorem dCallX (tk : L2N.Takes X c.xw) (G : FnOk X.prog X.w X.K X.mg X.base (L2N.CX X.prog X.w) k f fd ps (spX c.W n mf)) (hr : Room k X.A) (hg : Gl X x) (hm : X.mg x = some (.ref f)) (hk : PySem.W.keepIn X.K (.ref f) = true) (hb : Binds X.K fd ps [])
    (ha : DA X c (e :: es) ms) (hdb : (x == ("__debug__" : Str)) = false := by decide) (he : starEach (e :: es) X.env = (false, eval e X.env) :: starEach es X.env := by rfl) (hpl : (backTo pos (starEach es X.env)).any (·.1) = false := by rfl) :
    DX X c (.Call (.Name x p) (e :: es) [] pos) (mCallX n mf ms) :=
  (pe_callS G hr hg hm hk hb (psX tk) ha hdb he hpl).imp fun σ H Q ⟨F, u, ρ, S, h⟩ => ⟨F, u, ρ, S, (After.split h).imp fun ds u1 F1 H1 _ s1 g1 h1 vs rvs => callX_ok g1 rvs h1⟩
end
end Mi

set_option Elab.async false
set_option linter.all false
set_option maxRecDepth 100000
set_option maxHeartbeats 4000000
/-! MiEc: calls that may raise: objects made, methods, class methods. -/
namespace Mi
open PySem PySem.Spec PyProof.Rows L2
variable [TB : Tabl]
/-! ### an __init__ that may raise -/
section
variable {P : Program} {w : World} {K : PySem.W.Frag} {mg : Str → Option Value} {base : Heap} {x qual : Str} {params : Arguments} {body : List Stmt} {scope : Scope} {dvs : List V} {kws : List (Str × V)} {f : Addr} {fd : FuncData} {W : Wo} {N ps : List Str} {k n : Nat} {mb : MS} {ck nm : Str}
end
section
variable {X : Cx} {c : Cf} {k n : Nat} {f : Addr} {fd : FuncData} {ps ks : List Str} {x ck : Str} {p pos : Pos} {e : Expr} {es : List Expr} {ms mk : MA} {mf : List D → M RX} {kws : List Keyword} {perm perm' : List Nat} {E : XK}
end
/-! ### methods -/
def mMethX (k m : Str) (n : Nat) (mf : List D → M RX) (mo : ME) (ms : MA) : MX := fun ρ => M.bind (mo ρ) fun d => match d with
  | .obj c ks ds => if c = k ∧ m ∉ ks then M.bind (ms ρ) fun es => if es.length = n then mf (.obj c ks ds :: es) else lft none else lft none
  | _ => lft none
section
variable {X : Cx} {c : Cf} {k n : Nat} {f : Addr} {fd : FuncData} {ps : List Str} {m ck : Str} {pos apos : Pos} {e o : Expr} {es : List Expr} {ms : MA} {mo : ME} {mf : List D → M RX} {E : XK}
theorem dMethX {pl : Sem Bool} (hx : c.xw = wE E) (tk : L2N.Takes X c.xw) (he : DE X c o mo) (hc : Cls X.K (c.W.cl ck)) (hm : Meth X.K (c.W.cl ck) m f) (G : FnOk X.prog X.w X.K X.mg X.base (L2N.CX X.prog X.w) k f fd ps (spX c.W (n + 1) mf)) (hr : Room k X.A) (hb : L2.Binds X.K fd ps []) (ha : DA X c (e :: es) ms)
    (hst : starEach (e :: es) X.env = (false, eval e X.env) :: starEach es X.env := by rfl) (hpl : (backTo pos (starEach es X.env)).any (·.1) = false := by rfl)
    (ht : eval (.Call (.Attribute o m apos) (e :: es) [] pos) X.env = (do
      let ov ← eval o X.env
      standAt apos.atName
      let (f, first) ← holding [ov] (getMethod ov m pl)
      callWith pos f first (backTo pos (starEach (e :: es) X.env)) (backToKw pos (keywordEach [] X.env))) := by rfl) :
    DX X c (.Call (.Attribute o m apos) (e :: es) [] pos) (mMethX ck m n mf mo ms) :=
  (pe_meth (E := E) he hc hm G hr hb .nil (L2N.passes_call tk fun cls d σ H h => by rw [hx]; exact h) ha hst hpl ht).imp fun σ H Q ⟨F, u, ρ, S, h⟩ => ⟨F, u, ρ, S, (After.split h).imp fun d u1 F1 H1 _ s1 g1 h1 v rv => by
    rw [hx] at h1
    split at h1
    · rename_i c' ks' ds _h
      split at h1
      · rename_i hh
        obtain ⟨hh, hnm⟩ := hh
        subst hh
        obtain ⟨a, dx, vs, rfl, ha, lk, r⟩ := id rv.obj_
        refine ⟨a, dx, _, rfl, g1.ex _ _ ha, zip_none hnm, F1, u1, ρ, S.step s1 g1, (After.split h1).imp fun xs u2 F2 H2 _ s2 g2 h2 ws rws => ?_⟩
        split at h2
        · rename_i hl
          show spX c.W (n + 1) mf (.ref a :: (ws ++ [])) H2 Q E
          rw [List.append_nil]
          exact ⟨by simp [rws.1, hl], c.p, F2, u2, _ :: xs, g2, Reps.cons (rv.mono s2.ef) rws, h2⟩
        · exact False.elim h2
      · exact False.elim h1
    · exact False.elim h1⟩
end
/-! ### class methods -/
section
variable {X : Cx} {c : Cf} {k n : Nat} {p g : Addr} {mc : Value} {fd : FuncData} {ps ks : List Str} {o e : Expr} {es : List Expr} {m ck : Str} {pos apos : Pos} {mo : ME} {ms mk : MA} {pl : Sem Bool} {mf : List D → M RX} {E : XK} {kws : List Keyword} {perm : List Nat}
end
end Mi

set_option Elab.async false
set_option linter.all false
set_option maxRecDepth 100000
set_option maxHeartbeats 4000000
/-! MiEd: try with one clause of three classes; the caught error is known to the abstract heap. -/
namespace Mi
open PySem PySem.Spec PyProof.Rows L2
/-- a thing that stands as it is -/
def anyO (a : Addr) (oe : Obj) : HO := .ext fun h => h.get? a = some oe
theorem any_ok {P : Program} {w : World} {H : Hp} {h : Heap} {a : Addr} {oe : Obj} (e : h.get? a = some oe) : ObjOk P w H h a (.frz oe (anyO a oe)) := ⟨e, e, ⟨oe, e⟩, fun _ _ z k => k _ z⟩
section
variable {X : Cx} {pins : List (Addr × Obj)} {σ : L2.St} {H : Hp} {s : Shared} {a : Addr} {oe : Obj}
/-- a thing of the heap that is not tracked yet becomes known -/
theorem Inv.known (I : L2.Inv X pins σ H s) (he : s.heap.get? a = some oe) (hn : H a = none) (h0 : X.s_0.heap.get? a = none) (hL : a ≠ X.env.locals) (hc : ∀ x c, X.env.cells.lookup x = some c → c ≠ a) (hp : ∀ p ∈ X.pn ++ pins, p.1 ≠ a) : L2.Inv X pins σ (upd H a (.frz oe (anyO a oe))) s := by
  have ne : ∀ {b : Addr} {o : HO}, H b = some o → b ≠ a := fun e z => by rw [z, hn] at e; cases e
  refine ⟨I.ok, I.os, I.bare, ⟨I.base.keep, I.base.slot, fun b o e n x => ?_, I.base.there, fun b xs e => ?_, fun b o u e => ?_, fun b ps e => ?_⟩, I.loc, I.cell, ?_, fun x c e => ?_, fun p h => ?_, fun b o e => ?_, I.len⟩
  · rw [upd_ne (fun z => by rw [z, h0] at e; cases e)]; exact I.base.free b o e n x
  · have := I.base.tups b xs e; rw [upd_ne (ne this)]; exact this
  · have := I.base.frzs b o u e; rw [upd_ne (ne this)]; exact this
  · obtain ⟨more, this⟩ := I.base.tbls b ps e; exact ⟨more, by rw [upd_ne (ne this)]; exact this⟩
  · rw [upd_ne (Ne.symm hL)]; exact I.free
  · rw [upd_ne (hc x c e)]; exact I.freeC x c e
  · obtain ⟨z1, z2, z3⟩ := I.pin p h
    exact ⟨z1, by rw [upd_ne (hp p h)]; exact z2, z3⟩
  · by_cases hb : b = a
    · subst hb
      rw [upd_same] at e
      cases e
      exact any_ok he
    · rw [upd_ne hb] at e
      exact (I.hok b o e).stay (fun c u _ q => q) (fun c q => by rw [upd_ne (ne q)]; exact q) fun c xs q => by rw [upd_ne (ne q)]; exact q
theorem Inv.inSuite (I : L2.Inv X pins σ H s) : L2.Inv (X.suite a (X.pn ++ pins)) [] σ H s :=
  ⟨I.ok.suite _ _, I.os, I.bare, I.base, I.loc, I.cell, I.free, I.freeC, fun p hp => I.pin p (by rw [List.append_nil] at hp; exact hp), I.hok, I.len⟩
theorem Inv.outSuite {pn' : List (Addr × Obj)} (I : L2.Inv (X.suite a (X.pn ++ pins)) pn' σ H s) (ok : X.Ok) : L2.Inv X pins σ H s :=
  ⟨ok, I.os, I.bare, I.base, I.loc, I.cell, I.free, I.freeC, fun p hp => I.pin p (List.mem_append_left _ hp), I.hok, I.len⟩
end
/-- what the clause 'except (..) as n' wishes of an error that it catches -/
def wTry (K : PySem.W.Frag) (cs : List Value) (i : Nat) (ts : Addr → Obj → TS) (D : Ends) : WX := fun cls d σ H => PySem.W.exmAny K cls cs = some true ∧ ∀ a oe, H a = none → L2N.Zn cls d oe → (∃ vs, oe.data = .fields vs) →
  ts a oe { nx := fun σ' H' => D.nx (σ'.set i none) H', rt := D.rt, bk := fun σ' H' => D.bk (σ'.set i none) H', ct := fun σ' H' => D.ct (σ'.set i none) H' } (σ.set i (some (.ref a))) (upd H a (.frz oe (anyO a oe)))
section
variable {X : Cx} {x1 x2 x3 n : Str} {c1 c2 c3 : Value} {i kk : Nat} {body suite : List Stmt} {b₀ : Stmt} {p1 p2 p3 tp pos pos' : Pos} {tb : WX → TS} {ts : Addr → Obj → TS}
end
end Mi

set_option Elab.async false
set_option linter.all false
set_option maxRecDepth 100000
set_option maxHeartbeats 4000000
/-! MiEe: a lambda handed to a def that calls it within a try. -/
namespace Mi
open PySem PySem.Spec PyProof.Rows L2 LamX
/-- the lambda's body's context; what it lets out bears no context of its own -/
def lamN (X : Cx) (A : Around) (outer : List PySem.Env) (s : Shared) (H : Hp) (E : XK) (scope : Scope) (f c' : Addr) : Cx :=
  (lamCx X A outer s H E scope f c').wish fun e s' => wpAny (model X.prog X.w) (A.deeper (lamEnv X scope s.heap.objs.size f c')) (leaving (lamEnv X scope s.heap.objs.size f c') e) (fun _ s'' => L2N.CX X.prog X.w outer H s E e s'') (fun e' s'' => L2N.CX X.prog X.w outer H s E e' s'') s'
theorem takes_lam {X : Cx} {A : Around} {outer : List PySem.Env} {s : Shared} {H : Hp} {E : XK} {scope : Scope} {f c' : Addr} : L2N.Takes (lamN X A outer s H E scope f c') (wE E) :=
  L2N.takes_of (X := lamN X A outer s H E scope f c') (E := E) rfl rfl rfl rfl
section
variable {X : Cx} {pins : List (Addr × Obj)} {σ : L2.St} {H : Hp} {s : Shared}
/-- x(), in the def that got the lambda -/
theorem pe_actN {CXg : CXT} {Eg : XK} {Ng : List Str} {qg : Str} {sg : Scope} {g f c' : Addr} {cdg pm ctv : Value} {params : Arguments} {body : Expr} {scope : Scope} {k i : Nat} {a : Str} {pn : List (Addr × Obj)} {xe : Value → Shared → Prop} {W : WX} {tb : XK → TE} {p1 p2 : Pos}
    (I : L2.Inv X pins σ H s) (L : LamS X.env.scope scope) (hf : s.heap.get? f = some (PySem.W.kla_obj "<lambda>" (X.env.qual ++ "<lambda>") params body scope (cloFrom X.env.cells scope.names []) pm c' ctv)) (hfn : H f = none) (hfr : f ∉ frs X.stack)
    (hbind : bindArgs (PySem.W.kla_fn "<lambda>" (X.env.qual ++ "<lambda>") params body scope (cloFrom X.env.cells scope.names []) pm (.ref c') ctv) ⟨[], []⟩ = pure [])
    (tk : L2N.Takes ((cxOf CXg X.prog X.w X.K X.mg X.base Ng qg sg g cdg X.A X.stack s H Eg).tr pn xe) W) (hr : Room (k + 1) (X.A.deeper (envOfC qg sg s.heap.objs.size g cdg)))
    (hbody : ∀ (E : XK) (A : Around) (outer : List PySem.Env) (s : Shared) (H : Hp), A.guards = X.A.guards → Room k (A.deeper (lamEnv X scope s.heap.objs.size f c')) → PE (lamN X A outer s H E scope f c') body (tb E))
    (hN : Ng[i]? = some a) (hv : Vis sg a) (hd : (a == ("__debug__" : Str)) = false) (hcd : (a == ("__classdict__" : Str)) = false) :
    PE ((cxOf CXg X.prog X.w X.K X.mg X.base Ng qg sg g cdg X.A X.stack s H Eg).tr pn xe) (.Call (.Name a p1) [] [] p2)
      (fun σZ HZ Q => σZ[i]? = some (some (.ref f)) ∧ HZ c' = some (CodeO c' (X.env.qual ++ "<lambda>")) ∧ tb (fun cls d H' => W cls d σZ H') σ HZ Q) := by
  refine ⟨fun pinsZ sZ σZ HZ Q IZ ⟨hs, hc, ht⟩ => ?_⟩
  have look := pe_var (X := (cxOf CXg X.prog X.w X.K X.mg X.base Ng qg sg g cdg X.A X.stack s H Eg).tr pn xe) (pos := p1) (i := i) hN hv hd hcd
  refine wpAny_Call_Name_kw (thn (look.run pinsZ sZ σZ HZ (fun v H1 => v = .ref f ∧ H1 = HZ) IZ ⟨.ref f, hs, rfl, rfl⟩) fun u s1 ⟨v, H1, I1, r1, ev, eH⟩ => ?_)
  subst ev
  rw [eH] at I1
  obtain rfl : u = Value.ref f := r1
  have at1 : s1.heap.get? f = some (PySem.W.kla_obj "<lambda>" (X.env.qual ++ "<lambda>") params body scope (cloFrom X.env.cells scope.names []) pm c' ctv) := I1.base.keep f _ hf hfn hfr (fun z => nomatch (show f ∈ ([] : List Addr) from z))
  refine PySem.W.callWith_F0 ⟨_, _, _, _, at1⟩ ?_
  have un : Un (frs X.stack) [] H HZ s.heap s1.heap := I1.base
  obtain ⟨⟨oc, vs, t, hoc, hdc, hvc⟩, _, _⟩ := I1.hok c' _ hc
  have rc : codeAny (model X.prog X.w) (X.A.deeper (envOfC qg sg s.heap.objs.size g cdg)) (.call (.ref f) ⟨[], []⟩) (CR (L2N.CX X.prog X.w) (envOfC qg sg s.heap.objs.size g cdg :: X.stack) X.prog X.w HZ s1 Q fun cls d H' => W cls d σZ H') s1 := by
    refine PySem.W.kla_callFunE hr.depth at1 rfl L.co L.gen rfl ⟨c', oc, vs, t, rfl, hoc, hdc, hvc⟩ ?_
    rw [hbind]
    refine wpAny_pure (wpAny_newFunctionEnv (fun y hy => (L.own y hy).2) (fun y hy => absurd hy (by simp)) (fun h₁ hns hsb => ⟨I1.nolimit.fresh _ hsb, ?_⟩) L.kind)
    show codeAny _ _ (.expr body (lamEnv X scope s1.heap.objs.size f c')) _ _
    have kp : ∀ b o, s1.heap.get? b = some o → h₁.get? b = some o := fun b o e => hsb.extBut b o (Nat.ne_of_lt (Heap.lt_size e)) (Heap.get?_push_of_some _ e)
    have J := (lam_start2 (E := fun cls d H' => W cls d σZ H') (c' := c') (f := f) (tk := s1.toks + ([] : List (Str × Value)).length) I L I1.env0 hr.hd un hns kp).wish fun e s' => wpAny (model X.prog X.w) ((X.A.deeper (envOfC qg sg s.heap.objs.size g cdg)).deeper (lamEnv X scope s1.heap.objs.size f c')) (leaving (lamEnv X scope s1.heap.objs.size f c') e)
      (fun _ s'' => L2N.CX X.prog X.w (envOfC qg sg s.heap.objs.size g cdg :: X.stack) HZ s1 (fun cls d H' => W cls d σZ H') e s'') (fun e' s'' => L2N.CX X.prog X.w (envOfC qg sg s.heap.objs.size g cdg :: X.stack) HZ s1 (fun cls d H' => W cls d σZ H') e' s'') s'
    refine PySem.W.kla_codeExpr (wpAny_mono ((hbody _ (X.A.deeper (envOfC qg sg s.heap.objs.size g cdg)) _ s1 HZ rfl (hr.deeper _)).run [] _ _ HZ Q J ht) (fun v s' hq => ?_) fun e s' hq => hq)
    obtain ⟨w', H', J', rv, q⟩ := hq
    exact ⟨w', H', J'.os, J'.bare, J'.base, J'.hok, rv, q⟩
  refine wpAny_call (codeAny_mono rc fun r s' hq => ?_)
  match r, hq with
  | .error e, hq => exact L2N.passAt tk σZ pinsZ HZ s1 e s' I1 hq
  | .ok (.ret u), hq => exact I1.after hq
end
/-- the table stays or grows by a new code object -/
def Grown (H H1 : Hp) : Prop := H1 = H ∨ ∃ (P : Addr) (ps qs : Array Value) (c : Addr) (q : Str), H P = some (.tbl ps) ∧ H c = none ∧ H1 = upd (upd H P (.tbl qs)) c (CodeO c q)
theorem Grown.tb {H H1 : Hp} (g : Grown H H1) : ∀ a ps, H a = some (.tbl ps) → ∃ qs, H1 a = some (.tbl qs) := fun a ps e => by
  rcases g with rfl | ⟨P, p0, qs, c, q, hP, hc, rfl⟩
  · exact ⟨ps, e⟩
  · have n1 : a ≠ c := fun z => by rw [z, hc] at e; cases e
    by_cases h : a = P
    · exact ⟨qs, by rw [upd_ne n1, h, upd_same]⟩
    · exact ⟨ps, by rw [upd_ne n1, upd_ne h]; exact e⟩
theorem Grown.ext {H H1 : Hp} (g : Grown H H1) : ExtN H H1 := fun a o e n => by
  rcases g with rfl | ⟨P, p0, qs, c, q, hP, hc, rfl⟩
  · exact e
  · rw [upd_ne (fun z => by rw [z, hc] at e; cases e), upd_ne (fun z => by rw [z, hP] at e; exact n _ (Option.some.inj e).symm)]
    exact e
theorem Grown.nw {H H1 : Hp} (g : Grown H H1) {a : Addr} (h : H1 a = none) : H a = none := by
  cases e : H a with
  | none => rfl
  | some o =>
    rcases tbl_or o with ⟨ps, rfl⟩ | n
    · obtain ⟨qs, z⟩ := g.tb a ps e
      rw [z] at h; cases h
    · rw [g.ext a o e n] at h; cases h
section
variable {X : Cx} {pins : List (Addr × Obj)} {σ : L2.St} {H : Hp} {s : Shared}
/-- the lambda is made -/
theorem lam_mk {T : List (Addr × Str)} {c P : Addr} {pa : Arguments} {body : Expr} {scope : Scope} {pos : Pos} {E : Value → Shared → Prop} {Q : Value → Shared → Prop} (I : L2.Inv X pins σ H s) (TB : TabB X.base X.mg c P) (hcode : X.env.code = .ref c) (hm : (P, X.env.qual ++ "<lambda>") ∈ T) (hu : ∀ p ∈ T, p.1 = P → p.2 = X.env.qual ++ "<lambda>") (hT : Tabs T H)
    (hdef : defaultsOf pa X.env = ([], [])) (hfree : ∀ y ∈ scope.names, y.2 = .free → ∃ c, X.env.cells.lookup y.1 = some c)
    (h : ∀ (f c' : Addr) (pm ctv : Value) (H1 : Hp) (s' : Shared), L2.Inv X pins σ H1 s' → Grown H H1 → Tabs T H1 → s'.heap.get? f = some (PySem.W.kla_obj "<lambda>" (X.env.qual ++ "<lambda>") pa body scope (cloFrom X.env.cells scope.names []) pm c' ctv) → H1 f = none → f ∉ frs X.stack → H1 c' = some (CodeO c' (X.env.qual ++ "<lambda>")) → Q (.ref f) s') :
    wpAny (model X.prog X.w) X.A (eval (.Lambda pa body scope pos) X.env) Q E s := by
  obtain ⟨ps, hP, ok, all⟩ := hT _ hm
  have onP : s.heap.get? P = some { cls := .none, data := .fields ps } := I.hok P _ hP
  have away : ∀ f, s.heap.objs.size ≤ f → f ∉ frs X.stack := fun f hf z => (List.mem_cons.mp (I.stkSub _ z)).elim (fun e => Nat.lt_irrefl _ (Nat.lt_of_lt_of_le (by have := I.lt; rw [← e] at this; exact this) hf)) (I.nofs hf)
  refine PySem.W.kla_eval hdef ?_
  cases e0 : codeAmong pos ps.toList with
  | some cv =>
    obtain ⟨c', rfl, hco⟩ := all pos cv e0
    refine PySem.W.kla_makeFunctionHit (c := c) (ps := ps) (closure_ok hfree) I.ok.glob (I.mod.glob.keeps I.bk) hcode (TB.code.keeps I.bk) onP ok e0 (TB.bm.keeps I.bk) fun ctv h' tk hx hsz => ?_
    exact h h'.objs.size c' _ ctv H _ (I.kept fun b o e => Heap.get?_push_of_some _ (hx b o e)) (.inl rfl) hT (Heap.get?_push_size _ rfl) (I.hok.fresh hsz) (away _ hsz) hco
  | none =>
    refine PySem.W.kla_makeFunction (c := c) (ps := ps) (closure_ok hfree) I.ok.glob (I.mod.glob.keeps I.bk) hcode (TB.code.keeps I.bk) onP ok e0 TB.gP (TB.bm.keeps I.bk) fun c' ctv h' tk hx hge hlt ⟨c2, oc, vs, t, e2, hoc, hd, hv⟩ htb => ?_
    cases e2
    have big : s.heap.objs.size ≤ h'.objs.size := Nat.le_trans hge (Nat.le_of_lt hlt)
    have nC : H c' = none := I.hok.fresh hge
    have gr : Grown H (upd (upd H P (.tbl (ps ++ #[rawInt pos.line, rawInt pos.col, .ref c']))) c' (CodeO c' (X.env.qual ++ "<lambda>"))) := .inr ⟨P, ps, _, c', _, hP, nC, rfl⟩
    have el : (ps ++ #[rawInt pos.line, rawInt pos.col, .ref c']).toList = ps.toList ++ [rawInt pos.line, rawInt pos.col, .ref c'] := by simp
    have I1 := inv_table (q := X.env.qual ++ "<lambda>") (t' := tk) (more := #[rawInt pos.line, rawInt pos.col, .ref c']) (h' := h'.push (PySem.W.kla_obj "<lambda>" (X.env.qual ++ "<lambda>") pa body scope (cloFrom X.env.cells scope.names []) ((X.mg "__name__").getD .none) c' ctv)) I hP (fun b o hb e => Heap.get?_push_of_some _ (hx b o hb e)) (Heap.get?_push_of_some _ htb) hge ⟨oc, vs, t, Heap.get?_push_of_some _ hoc, hd, hv⟩
    refine h h'.objs.size c' _ ctv _ _ I1 gr (fun p hp => ?_) (Heap.get?_push_size _ rfl) ?_ (away _ big) upd_same
    · by_cases hb : p.1 = P
      · rw [hu p hp hb, hb]
        refine ⟨_, by rw [upd_ne (ne_of_none hP nC), upd_same], by rw [el]; exact PySem.TriplesOk_snoc _ _ _ _ ok, fun p' cv hcv => ?_⟩
        rw [el] at hcv
        rcases among_app _ ok hcv with z | z
        · obtain ⟨c0, e1, e2⟩ := all p' cv z
          exact ⟨c0, e1, gr.ext _ _ e2 codeO_ne⟩
        · exact ⟨c', z, upd_same⟩
      · obtain ⟨ps', a1, a2, a3⟩ := hT p hp
        refine ⟨ps', by rw [upd_ne (ne_of_none a1 nC), upd_ne hb]; exact a1, a2, fun p' cv hcv => ?_⟩
        obtain ⟨c0, e1, e2⟩ := a3 p' cv hcv
        exact ⟨c0, e1, gr.ext _ _ e2 codeO_ne⟩
    · rw [upd_ne (Nat.ne_of_gt hlt), upd_ne (Nat.ne_of_gt (Nat.lt_of_lt_of_le (Heap.lt_size onP) big))]
      exact I.hok.fresh big
end
/-- the def that calls what it got -/
def GivesN (X : Cx) (Ng : List Str) (x : Str) (sg : Scope) (g : Addr) (cdg : Value) (bg : List Stmt) (a : Str) (q : Str) (TT : (XK → Hp → VK → Prop) → Hp → VK → Prop) : Prop :=
  ∀ (f c' : Addr) (s : Shared) (H : Hp) (Q : VK) (tl : XK → Hp → VK → Prop),
    (∀ (W : WX) (pn : List (Addr × Obj)) (xe : Value → Shared → Prop) (p1 p2 : Pos), L2N.Takes ((cxOf CX0 X.prog X.w X.K X.mg X.base Ng x sg g cdg X.A X.stack s H E0).tr pn xe) W →
      PE ((cxOf CX0 X.prog X.w X.K X.mg X.base Ng x sg g cdg X.A X.stack s H E0).tr pn xe) (.Call (.Name a p1) [] [] p2) (fun σZ HZ Q => σZ[0]? = some (some (.ref f)) ∧ HZ c' = some (CodeO c' q) ∧ tl (fun cls d H' => W cls d σZ H') HZ Q)) →
    H c' = some (CodeO c' q) → TT tl H Q → ∃ t, PSs (cxOf CX0 X.prog X.w X.K X.mg X.base Ng x sg g cdg X.A X.stack s H E0).nox bg t ∧ t { nx := fun _ H' => Q .non H', rt := Q } (L2.start Ng [.ref f]) H
def tLamN (T : List (Addr × Str)) (TT : (XK → Hp → VK → Prop) → Hp → VK → Prop) (t : XK → TE) : TE := fun σ H Q => Tabs T H ∧ ∀ H1, Grown H H1 → Tabs T H1 → TT (fun E H' Q' => t E σ H' Q') H1 Q
section
variable {X : Cx}
/-- x(lambda: body) -/
theorem pe_lamN {T : List (Addr × Str)} {TT : (XK → Hp → VK → Prop) → Hp → VK → Prop} {x a : Str} {g c P : Addr} {k : Nat} {pg : Arguments} {bg : List Stmt} {sg : Scope} {dV kV doc pm cdv ct oc : Value} {an od : Option Addr} {osl : Array (Option Value)} {Ng : List Str}
    {params : Arguments} {body : Expr} {scope : Scope} {t : XK → TE} {p lpos pos : Pos} (hg : Gl X x) (hm : X.mg x = some (.ref g)) (hk : PySem.W.keepIn X.K (.ref g) = true)
    (lk : X.K.lookup g = some ⟨oc, od, .func (PySem.W.fnOf x x pg bg sg dV kV doc pm an cdv ct), osl⟩) (hcg : PySem.W.codeIn X.K cdv x = true) (hb : L2.Binds X.K (PySem.W.fnOf x x pg bg sg dV kV doc pm an cdv ct) [a] []) (Sg : FnScope Ng [a] sg) (hNg : Ng[0]? = some a) (hva : Vis sg a)
    (hG : GivesN X Ng x sg g cdv bg a (X.env.qual ++ "<lambda>") TT) (TB : TabB X.base X.mg c P) (hcode : X.env.code = .ref c) (hmT : (P, X.env.qual ++ "<lambda>") ∈ T) (hu : ∀ p ∈ T, p.1 = P → p.2 = X.env.qual ++ "<lambda>") (hr : Room (k + 2) X.A) (L : LamS X.env.scope scope)
    (hdef : defaultsOf params X.env = ([], [])) (hbind : ∀ (q : Str) (cl : List (Str × Addr)) (pm cv ctv : Value), bindArgs (PySem.W.kla_fn "<lambda>" q params body scope cl pm cv ctv) ⟨[], []⟩ = pure [])
    (hbody : ∀ (E : XK) (A : Around) (outer : List PySem.Env) (s : Shared) (H : Hp) (f c' : Addr), A.guards = X.A.guards → Room k (A.deeper (lamEnv X scope s.heap.objs.size f c')) → PE (lamN X A outer s H E scope f c') body (t E))
    (hdb : (x == ("__debug__" : Str)) = false) (hd : (a == ("__debug__" : Str)) = false) (hcd : (a == ("__classdict__" : Str)) = false) :
    PE X (.Call (.Name x p) [.Lambda params body scope lpos] [] pos) (tLamN T TT t) := by
  refine ⟨fun pins s σ H Q I ⟨hT, h⟩ => ?_⟩
  refine wpAny_Call_Name_kw (ld_glob I hg hm ?_ hdb)
  refine PySem.W.callWith_K (h₀ := X.base) I.ok.mod.kin hk ?_ (by rfl) (by rfl)
  show wpAny _ _ (spliced ((false, eval (.Lambda params body scope lpos) X.env) :: backTo pos (starEach [] X.env))) _ _ s
  refine Calls.spliced_cons (lam_mk I TB hcode hmT hu hT hdef (L.has I.ok) fun f c' pm' ctv H1 s' I1 eN T1 hf hfn hfr hco => ?_)
  refine Calls.spliced_nil ⟨I1.kIn, ?_⟩
  have h2 := h H1 eN T1
  have rc : codeAny (model X.prog X.w) X.A (.call (.ref g) ⟨[.ref f], []⟩) (CR CX0 X.stack X.prog X.w H1 s' Q E0) s' := by
    refine run_ofS (N := Ng) (ps := [a]) (us := [.ref f]) (vs := [.ref f]) lk hcg Sg hr I1.env0 (hb s' [.ref f] I1.kIn rfl) (.cons rfl .nil) rfl fun hr' => ?_
    obtain ⟨t', ht', hq'⟩ := hG f c' s' H1 Q (fun E H' Q' => t E σ H' Q') (fun W pn xe p1 p2 tk => pe_actN (i := 0) I1 L hf hfn hfr (hbind _ _ _ _ _) tk hr' (fun E A outer s H hg hr2 => hbody E A outer s H f c' hg hr2) hNg hva hd hcd) hco h2
    exact ⟨t', ht'.nox, hq'⟩
  refine wpAny_call (codeAny_mono rc fun r s2 hq => ?_)
  match r, hq with
  | .error e, hq => exact (show False from hq).elim
  | .ok (.ret u), hq => exact I1.after hq
end
end Mi

set_option Elab.async false
set_option linter.all false
set_option maxRecDepth 100000
set_option maxHeartbeats 4000000
/-! MiEf: the mirrors of a try around a call of a lambda, of such a def's call. -/
namespace Mi
open PySem PySem.Spec PyProof.Rows L2 LamX
variable [TB : Tabl]
def noOwn (ρ : Env) : Bool := ρ.all fun s => !s.own
def mTryAct (i j : Nat) (act : M RX) (ok : Str → Bool) (suite : MS) : MS := fun ρ => if noOwn ρ = true then M.bind act fun r => match r with
  | .ok d => M.pure (.nx (ρ.set i (.sh d)))
  | .er k ks ds => if ok k = true then M.bind (suite (ρ.set j (.sh (.exc k ks ds)))) fun f => match f with
    | .rt d => M.pure (.rt d)
    | _ => lft none
    else lft none
  else lft none
/-- the context of an except suite -/
abbrev Cf.hot (c : Cf) (F H : Hp) : Cf := ⟨c.W, c.p, F, H, c.sf, noX⟩
/-- what is known of the error that is handled -/
structure HotO (A : Around) (H : Hp) (p a : Addr) (oe : Obj) : Prop where
  hd : A.handled = some (.ref a)
  at_ : H a = some (.frz oe (anyO a oe))
  ne : a ≠ p
  fld : ∃ vs, oe.data = .fields vs ∧ vs[2]? = some .none
theorem Sta.rebase {c : Cf} {u : PuS} {F H : Hp} {σ : L2.St} {ρ : Env} (S : Sta c u F H σ ρ) (h : noOwn ρ = true) : Sta (c.hot F H) u F H σ ρ := by
  have no : ∀ {i : Nat} {s : Sd}, ρ[i]? = some s → s.own = false := fun {i s} e => by
    have := List.all_eq_true.mp h s (List.mem_of_getElem? e)
    simpa using this
  refine ⟨Stp.refl, S.gd, S.env.len, fun i s e => ?_, fun i j s t hij e1 e2 o1 o2 => ?_⟩
  · have k := S.env.at_ i s e
    have n := no e
    cases s with
    | un => trivial
    | sh d => exact k
    | ow ds => cases n
    | oi _ _ _ => cases n
    | od _ _ => cases n
  · rw [no e1] at o1; cases o1
theorem noOwn_set {ρ : Env} {j : Nat} {d : D} (h : noOwn ρ = true) : noOwn (ρ.set j (.sh d)) = true := by
  unfold noOwn at *
  rw [List.all_eq_true] at *
  intro s hs
  rcases List.mem_or_eq_of_mem_set hs with z | z
  · exact h s z
  · subst z; rfl
section
variable {X : Cx} {c : Cf} {x1 x2 x3 n y a q : Str} {c1 c2 c3 : Value} {i j kk : Nat} {suite : List Stmt} {b₀ : Stmt} {p1 p2 p3 tp pos pos' py pa pb pas : Pos} {f c' : Addr} {act : M RX} {tl : XK → Hp → VK → Prop} {ok : Str → Bool} {ms : MS}
end
/-! ### the def that calls a lambda -/
def TTm (W : Wo) (mh : M RX → M D) : (XK → Hp → VK → Prop) → Hp → VK → Prop := fun tl H Q => ∃ p F u act, Gd p u F H ∧ (∀ E Q' F2 H2 u2, Stp p F H F2 H2 → Gd p u2 F2 H2 → After p F2 H2 (act u2) (resX W p Q' E) → tl E H2 Q') ∧ After p F H (mh act u) fun d _ F' H' => ∀ v, Rep W p F' v d → Q v H'
/-- a def with one parameter, the lambda, that begins with the try -/
def mFnH (n : Nat) (mb : M RX → MS) : M RX → M D := fun act => mFn n (mb act) []
theorem env_none {c : Cf} {F H : Hp} {N : List Str} {f : Addr} : EnvOk c F H (L2.start N [.ref f]) (startE N.length []) ∨ N = [] := by
  by_cases hN : N = []
  · exact .inr hN
  · refine .inl ⟨?_, fun i s e => ?_, fun i j s t hij e1 e2 o1 o2 => ?_⟩
    · have : 0 < N.length := List.length_pos_iff.mpr hN
      unfold L2.start startE; simp; omega
    · unfold startE at e
      simp at e
      obtain ⟨_, rfl⟩ := List.getElem?_eq_some_iff.mp e |>.imp fun _ h => by simpa using h.symm
      trivial
    · unfold startE at e1
      simp at e1
      obtain ⟨_, rfl⟩ := List.getElem?_eq_some_iff.mp e1 |>.imp fun _ h => by simpa using h.symm
      cases o1
theorem gives_mir {X : Cx} {W : Wo} {Ng : List Str} {x a q : Str} {sg : Scope} {g : Addr} {cdg : Value} {st : Stmt} {rest : List Stmt} {mt : M RX → MS} {mr : MS} (hNg : Ng ≠ []) (h0 : ∀ f : Addr, (L2.start Ng [V.ref f])[0]? = some (some (V.ref f)))
    (htry : ∀ (f c' : Addr) (s : Shared) (H : Hp) (p : Addr) (F : Hp) (act : M RX) (tl : XK → Hp → VK → Prop), (∀ (W' : WX) (pn : List (Addr × Obj)) (xe : Value → Shared → Prop) (p1 p2 : Pos), L2N.Takes (((cxOf CX0 X.prog X.w X.K X.mg X.base Ng x sg g cdg X.A X.stack s H E0).nox).tr pn xe) W' →
        PE (((cxOf CX0 X.prog X.w X.K X.mg X.base Ng x sg g cdg X.A X.stack s H E0).nox).tr pn xe) (.Call (.Name a p1) [] [] p2) (fun σZ HZ Q => σZ[0]? = some (some (.ref f)) ∧ HZ c' = some (CodeO c' q) ∧ tl (fun cls d H' => W' cls d σZ H') HZ Q)) →
      (∀ E Q F2 H2 u, Stp p F H F2 H2 → Gd p u F2 H2 → After p F2 H2 (act u) (resX W p Q E) → tl E H2 Q) →
      PS (cxOf CX0 X.prog X.w X.K X.mg X.base Ng x sg g cdg X.A X.stack s H E0).nox st (fun Dn σ H' => σ[0]? = some (some (.ref f)) ∧ H' c' = some (CodeO c' q) ∧ rdS ⟨W, p, F, H, 0, noX⟩ (mt act) Dn σ H'))
    (hrest : ∀ (s : Shared) (H : Hp) (p : Addr) (F : Hp), DB (cxOf CX0 X.prog X.w X.K X.mg X.base Ng x sg g cdg X.A X.stack s H E0).nox ⟨W, p, F, H, 0, noX⟩ rest mr) :
    GivesN X Ng x sg g cdg (st :: rest) a q (TTm W (mFnH Ng.length fun act => mSeq (mt act) mr)) := by
  intro f c' s H Q tl hact hc ⟨p, F, u, act, gd, htl, h⟩
  refine ⟨_, pss_cons (htry f c' s H p F act tl hact htl) (hrest s H p F), h0 f, hc, F, u, startE Ng.length [], ⟨Stp.refl, gd, env_none.resolve_right hNg⟩, ?_⟩
  have hend : flowO ⟨W, p, F, H, 0, noX⟩ F { nx := fun _ H' => Q .non H', rt := Q } (mSeq (mt act) mr (startE Ng.length []) u) := by
    unfold mFnH mFn at h
    dsimp only at h
    cases e : mSeq (mt act) mr (startE Ng.length []) u with
    | none => rw [e] at h; exact h
    | some y =>
      obtain ⟨fl, u1⟩ := y
      rw [e] at h
      cases fl with
      | rt d =>
        intro v F' H' s' g' rv
        have h2 : After p F H (some (d, u1)) (fun d _ F' H' => ∀ v, Rep W p F' v d → Q v H') := h
        exact h2 F' H' s' g' v rv
      | rl ds' => exact False.elim h
      | nx ρ' =>
        intro σ' F' H' _ S'
        have h2 : After p F H (some (D.non, u1)) (fun d _ F' H' => ∀ v, Rep W p F' v d → Q v H') := h
        exact h2 F' H' S'.ent S'.gd .non .non
      | bk ρ' => exact False.elim h
      | ct ρ' => exact False.elim h
      | ex ρ' k' ks' ds' => exact False.elim h
  exact hend.split
def mLam (mh : M RX → M D) (mb : MX) : ME := fun ρ => mh (mb ρ)
section
variable {X : Cx} {c : Cf}
theorem dLam {x a : Str} {g cc P : Addr} {k : Nat} {pg : Arguments} {bg : List Stmt} {sg : Scope} {fd : FuncData} {dvs : List V} {kws : List (Str × V)} {Ng : List Str} {params : Arguments} {body : Expr} {scope : Scope} {p lpos pos : Pos} {mh : M RX → M D} {mb : MX}
    (hl : TB.loose = true) (FD : FunD X.K x x pg bg sg dvs kws g fd) (hg : Gl X x) (hm : X.mg x = some (.ref g)) (hk : PySem.W.keepIn X.K (.ref g) = true) (hb : L2.Binds X.K fd [a] []) (Sg : FnScope Ng [a] sg) (hNg : Ng[0]? = some a) (hva : Vis sg a)
    (hG : ∀ cdg, GivesN X Ng x sg g cdg bg a (X.env.qual ++ "<lambda>") (TTm c.W mh)) (TBB : TabB X.base X.mg cc P) (hcode : X.env.code = .ref cc) (hmT : (P, X.env.qual ++ "<lambda>") ∈ TB.T) (hu : ∀ p ∈ TB.T, p.1 = P → p.2 = X.env.qual ++ "<lambda>") (hr : Room (k + 2) X.A) (L : LamS X.env.scope scope)
    (hdef : defaultsOf params X.env = ([], [])) (hbind : ∀ (q : Str) (cl : List (Str × Addr)) (pm cv ctv : Value), bindArgs (PySem.W.kla_fn "<lambda>" q params body scope cl pm cv ctv) ⟨[], []⟩ = pure [])
    (hbody : ∀ (E : XK) (A : Around) (outer : List PySem.Env) (s : Shared) (H : Hp) (f c' : Addr), A.guards = X.A.guards → Room k (A.deeper (lamEnv X scope s.heap.objs.size f c')) → L2N.Takes (lamN X A outer s H E scope f c') (wE E) → DX (lamN X A outer s H E scope f c') ⟨c.W, c.p, c.F0, c.H0, c.sf, wE E⟩ body mb)
    (hdb : (x == ("__debug__" : Str)) = false := by decide) (hd : (a == ("__debug__" : Str)) = false := by decide) (hcd : (a == ("__classdict__" : Str)) = false := by decide) :
    DE X c (.Call (.Name x p) [.Lambda params body scope lpos] [] pos) (mLam mh mb) := by
  obtain ⟨oc, od, dV, kV, doc, pm, an, cdv, ct, osl, rfl, lk, hcd', _, _⟩ := FD.ex
  refine (pe_lamN (T := TB.T) (TT := TTm c.W mh) (t := fun E => rdX ⟨c.W, c.p, c.F0, c.H0, c.sf, wE E⟩ mb) hg hm hk lk hcd' hb Sg hNg hva (hG cdv) TBB hcode hmT hu hr L hdef hbind (fun E A outer s H f c' hgu hr' => hbody E A outer s H f c' hgu hr' takes_lam) hdb hd hcd).imp fun σ H Q ⟨F, u, ρ, S, h⟩ => ⟨S.gd.tb, fun H1 gr T1 => ?_⟩
  have st : Stp c.p F H F H1 := ⟨fun _ _ e => e, fun a o _ e n => gr.ext a o e (n.resolve_left (by rw [hl]; simp)), fun a ps _ e => gr.tb a ps e, fun a o e => .inl e⟩
  have gd : Gd c.p u F H1 := ⟨fun a o e => gr.ext a o (S.gd.ex a o e) fun ps z => S.gd.nt a ps (z ▸ e), gr.ext _ _ S.gd.pu S.gd.hp, S.gd.off, S.gd.nt, T1, S.gd.hp⟩
  refine ⟨c.p, F, u, mb ρ, gd, fun E Q' F2 H2 u2 s2 g2 hA => ?_, ?_⟩
  · have S2 : Sta c u2 F2 H2 σ ρ := (S.step st gd).step s2 g2
    exact ⟨F2, u2, ρ, ⟨S2.ent, S2.gd, S2.env.len, fun i s e => S2.env.at_ i s e, S2.env.ne⟩, hA⟩
  · have h' : After c.p F H (mh (mb ρ) u) fun d _ F' H' => ∀ v, Rep c.W c.p F' v d → Q v H' := h
    cases e : mh (mb ρ) u with
    | none => rw [e] at h'; exact h'
    | some y =>
      obtain ⟨d, u1⟩ := y
      rw [e] at h'
      exact fun F2 H2 s2 g2 => h' F2 H2 (st.trans gd.ne s2) g2
end
end Mi


set_option Elab.async false
set_option linter.all false
set_option maxRecDepth 100000
set_option maxHeartbeats 4000000
/-! MiEg: caught errors asked and read; isinstance of errors and dicts. -/
namespace Mi
open PySem PySem.Spec PyProof.Rows L2
variable [TB : Tabl]
/-- what isinstance and the reading of a field ask of an error's class -/
structure ExK (K : PySem.W.Frag) (D : Addr) : Prop where
  cl : (PySem.W.clsIn K D).isSome = true
  ga : PySem.W.findIn K (.ref D) "__getattribute__" = some (some (.builtin "BaseException.__getattribute__"))
  gg : PySem.W.findIn K (.ref D) "__getattr__" = some none
  be : PySem.W.subIn K (.ref D) (.type "BaseException") = some true
  hd : PySem.W.hasDictIn K D = true
  ca : PySem.W.findIn K (.ref D) "__class__" = some (some (.builtin "object.__class__"))
  cg : PySem.W.specialIn K (.builtin "object.__class__") "__get__" = some (some (.builtin "getset_descriptor.__get__"))
  ct : PySem.W.takesIn K (.builtin "object.__class__") = some true
  ob : PySem.W.mroIn K D (.type "object") = some true
/-- isinstance(e, c), e a caught error -/
def rIsE (K : PySem.W.Frag) : List V → Hp → VK → Prop := fun xs H Q => ∃ a oe u D c cv b, xs = [.ref a, c] ∧ H a = some (.frz oe u) ∧ oe.cls = .ref D ∧ (∃ fs, oe.data = .fields fs) ∧ ((∃ dx fs, oe.dict = some dx ∧ H dx = some (.xd fs)) ∨ oe.dict = none) ∧ ExK K D ∧ (∀ u, RelV c u → u = cv) ∧ PySem.W.kitOne K (.ref D) cv = some b ∧ Q (.bl b) H
theorem exc_at {X : Cx} {pins : List (Addr × Obj)} {σ : L2.St} {H : Hp} {s : Shared} {a D : Addr} {oe : Obj} {u : HO} (I : L2.Inv X pins σ H s) (ha : H a = some (.frz oe u)) (hc : oe.cls = .ref D) (hf : ∃ fs, oe.data = .fields fs) (hd : (∃ dx fs, oe.dict = some dx ∧ H dx = some (.xd fs)) ∨ oe.dict = none) : ∃ od, PySem.W.InstAt s.heap a oe D od := by
  obtain ⟨fs, hf⟩ := hf
  have hg : s.heap.get? a = some oe := (I.hok a _ ha).1
  have nc : PySem.W.notCls oe = true := by unfold PySem.W.notCls; rw [hf]
  rcases hd with ⟨dx, fs', e1, e2⟩ | e
  · obtain ⟨mA, hns, _⟩ := I.hok dx _ e2
    obtain ⟨od, ho, _⟩ := lookIn_ns hns
    exact ⟨some od, hg, hc, nc, by rw [e1]; exact ho⟩
  · exact ⟨none, hg, hc, nc, by rw [e]; trivial⟩
theorem call_isE {X : Cx} : CallR X (.builtin "isinstance") (rIsE X.K) := by
  intro pins s σ H xs us Q I r h
  obtain ⟨a, oe, u, D, c, cv, b, rfl, ha, hc, hf, hd, ek, hcv, hk, q⟩ := h
  obtain ⟨od, J⟩ := exc_at I ha hc hf hd
  cases r with
  | cons rx rr =>
    cases rr with
    | cons rt rr =>
      cases rr
      cases rx
      obtain rfl := hcv _ rt
      exact PySem.W.kia_one (PySem.W.kitx_exc (ox := oe) (od := od) ek.cl ek.ga ek.gg ek.be ek.ca ek.cg ek.ct ek.ob) I.kIn J hk (fun z => nomatch z) fun tk => ⟨.bl b, H, I.kept (t' := tk) fun _ _ z => z, rfl, q⟩
theorem Rep.exc_ {W : Wo} {p : Addr} {F : Hp} {v : V} {k : Str} {ks : List Str} {ds : List D} (h : Rep W p F v (.exc k ks ds)) : k ∈ errs ∧ ∃ a oe u fs vs, v = .ref a ∧ F a = some (.frz oe u) ∧ oe.cls = .ref (W.cl k) ∧ oe.data = .fields fs ∧ fs[2]? = some .none ∧ ks.length = vs.length ∧ Reps W p F vs ds ∧
    ((∃ dx, oe.dict = some dx ∧ F dx = some (.xd (ks.zip vs))) ∨ (oe.dict = none ∧ ks = [])) := by
  cases h with
  | @exc a dx oe u fs c ks vs ds hc h hk hf h2 hx lk l r => exact ⟨hc, a, oe, u, fs, vs, rfl, h, hk, hf, h2, lk, ⟨l, r⟩, hx.imp (fun z => ⟨dx, z⟩) id⟩
theorem Rep.dct_ {W : Wo} {p : Addr} {F : Hp} {v : V} {ks : List Str} {ds : List D} (h : Rep W p F v (.dct ks ds)) : ∃ a vs, v = .ref a ∧ F a = some (.dK ((ks.map Sum.inr).zip vs)) ∧ ks.length = vs.length ∧ Reps W p F vs ds := by
  cases h with
  | dct h lk l r => exact ⟨_, _, rfl, h, lk, l, r⟩
theorem call_isx {X : Cx} : CallR X (.builtin "isinstance") (fun xs H Q => rIsi X.K xs H Q ∨ rIsE X.K xs H Q) := by
  intro pins s σ H xs us Q I r h
  rcases h with h | h
  · exact call_isi pins s σ H xs us Q I r h
  · exact call_isE pins s σ H xs us Q I r h
/-! ### e.f of a caught error -/
def exfD (es fs : List Str) (f : Str) : D → Option D := fun d => match d with
  | .exc k ks ds => if k ∈ es ∧ ks = [f] ∧ f ∈ fs then ds[0]? else none
  | _ => none
end Mi


set_option Elab.async false
set_option linter.all false
set_option maxRecDepth 100000
set_option maxHeartbeats 4000000
/-! MiEi: defs called while an error is handled; repr of anything. -/
namespace Mi
open PySem PySem.Spec PyProof.Rows L2
variable [TB : Tabl]
/-- as spM; the purse is not at a -/
def spH (W : Wo) (n : Nat) (mf : List D → M D) (a : Addr) : Sp := fun vs H Q _ => vs.length = n ∧ ∃ p F u ds, a ≠ p ∧ Gd p u F H ∧ Reps W p F vs ds ∧ After p F H (mf ds u) fun d _ F' H' => ∀ v, Rep W p F' v d → Q v H'
/-- what a def promises while the error at a is handled and no repr is under way -/
structure FnHt (P : Program) (w : World) (K : PySem.W.Frag) (mg : Str → Option Value) (base : Heap) (k : Nat) (f : Addr) (fd : FuncData) (ps : List Str) (sp : Addr → Sp) : Prop where
  len : ∀ a vs H Q E, sp a vs H Q E → vs.length = ps.length
  run : ∀ (A : Around) (outer : List PySem.Env) (s : Shared) (H : Hp) (args : Args) (us : List Value) (vs : List V) (Q : VK) (E : XK) (a : Addr) (oe : Obj), A.guards = some [] → L2H.RoomH k A → A.handled = some (.ref a) → H a = some (.frz oe (anyO a oe)) → (∃ gs, oe.data = .fields gs ∧ gs[2]? = some .none) →
    Env0 P w K mg base A outer s H → BindsTo s fd args (ps.zip us) → Vals vs us → sp a vs H Q E → codeAny (model P w) A (.call (.ref f) args) (CR CX0 outer P w H s Q E) s
/-- the same frames without the handled error -/
def still (A : Around) : Around := { A with handled := none }
section
variable {P : Program} {w : World} {K : PySem.W.Frag} {mg : Str → Option Value} {base : Heap} {x qual : Str} {params : Arguments} {body : List Stmt} {scope : Scope} {dvs : List V} {kws : List (Str × V)} {f : Addr} {fd : FuncData} {W : Wo} {N ps : List Str} {k : Nat} {mb : MS}
end
/-! ### a call there -/
section
variable {X : Cx} {c : Cf} {k n : Nat} {f : Addr} {fd : FuncData} {ps : List Str} {x : Str} {p pos : Pos} {e : Expr} {es : List Expr} {ms : MA} {mf : List D → M D} {a : Addr} {oe : Obj}
theorem HotO.now {u : PuS} {F H : Hp} {σ : L2.St} {ρ : Env} (h : HotO X.A c.H0 c.p a oe) (S : Sta c u F H σ ρ) : H a = some (.frz oe (anyO a oe)) := S.ent.eh a _ h.ne h.at_ (.inr (by intro _ z; cases z))
theorem HotO.step {u : PuS} {F H F' H' : Hp} {σ : L2.St} {ρ : Env} (h : HotO X.A c.H0 c.p a oe) (S : Sta c u F H σ ρ) (s : Stp c.p F H F' H') : H' a = some (.frz oe (anyO a oe)) := s.eh a _ h.ne (h.now S) (.inr (by intro _ z; cases z))
theorem run_T {A : Around} {pins : List (Addr × Obj)} {σ : L2.St} {H : Hp} {s : Shared} {us : List Value} {vs : List V} {Q : VK} {E' : Value → Shared → Prop} {sp : Addr → Sp} (G : FnHt X.prog X.w X.K X.mg X.base k f fd ps sp) (hg : A.guards = some []) (hr : L2H.RoomH k A) (hfr : A.frames = X.A.frames) (hh : A.handled = some (.ref a)) (hv : ∃ gs, oe.data = .fields gs ∧ gs[2]? = some .none) (hb : L2.Binds X.K fd ps [])
    (I : L2.Inv X pins σ H s) (ha : H a = some (.frz oe (anyO a oe))) (r : Vals vs us) (h : sp a vs H Q E0) : wpAny (model X.prog X.w) A (call (.ref f) us) (EP X pins σ Q) E' s := by
  have hl := G.len _ _ _ _ _ h
  have e := I.env0
  refine wpAny_call (codeAny_mono (G.run A X.stack s H ⟨us, []⟩ us vs Q E0 a oe hg hr hh ha hv ⟨by rw [hfr]; exact e.frames, e.mod, e.bs, e.bsz, e.funs, e.frf, e.hok, e.bare⟩ (by
    have := hb s us I.kIn (by simpa [← r.length] using hl)
    simpa using this) r h) fun r s' hq => ?_)
  match r, hq with
  | .error e, hq => exact False.elim hq
  | .ok (.ret u), hq => exact I.after hq
end
/-! ### repr of plain data -/
/-- repr of what holds no object of one's own -/
def repP : D → Option Str
  | .non => some "None"
  | .bl b => some (bTx b)
  | .int i => if i.natAbs.log2 < 1920 then some (toString i) else none
  | .str x => if (reprText x).length ≤ 100000 then some (reprText x) else none
  | .dct ks ds => (toPDs ds).bind fun as => if PyData.showable (.dict ((ks.map PyData.str).zip as)) = true ∧ PyData.depthAll as = 0 ∧ (PyData.shown (.dict ((ks.map PyData.str).zip as))).length ≤ 100000 then some (PyData.shown (.dict ((ks.map PyData.str).zip as))) else none
  | d => if seqQ d = true then (toPD d).bind fun a => if a.showable = true ∧ a.hasDict = false ∧ a.depth ≤ 60 ∧ a.shown.length ≤ 100000 then some a.shown else none else none
theorem scal_reads {h : Heap} : ∀ {as : List PyData} {us : List Value} {bs : List Addr}, ReadsAll h us as bs → PyData.depthAll as = 0 → bs = []
  | [], _, _, .nil, _ => rfl
  | a :: as, _, _, .cons r rs, e => by
    have e2 : max (PyData.depth a) (PyData.depthAll as) = 0 := e
    have := scal_reads rs (by omega)
    subst this
    cases r with
    | list => simp [PyData.depth] at e2
    | tuple => simp [PyData.depth] at e2
    | dict => simp [PyData.depth] at e2
    | _ => rfl
theorem keys_reads {P : Program} {w : World} {h : Heap} : ∀ {ks : List Str} {vs : List V} {es : List DictEntry} {kvs : List (Key × Value)} {as : List PyData}, KV ((ks.map Sum.inr).zip vs) kvs → ks.length = vs.length → Pairs (mixKind P w) es kvs → (∃ us bs, Vals vs us ∧ us = kvs.map (·.2) ∧ ReadsAll h us as bs) →
    ReadsAll h (es.map (·.key)) (ks.map PyData.str) [] ∧ es.map (·.val) = kvs.map (·.2)
  | [], [], es, kvs, as, kv, _, pr, _ => by
    cases kv
    cases pr
    exact ⟨.nil, rfl⟩
  | k :: ks, v :: vs, es, kvs, as, kv, hl, pr, ⟨us, bs, hv, hu, hr⟩ => by
    cases kv with
    | cons e1 e2 =>
      rename_i q kr
      cases pr with
      | cons p1 p2 p3 =>
        rename_i en er
        obtain ⟨e3, e4⟩ := e1
        cases hv with
        | cons hv1 hv2 =>
          rw [List.map_cons] at hu
          obtain ⟨_, hu2⟩ := List.cons.inj hu
          cases hr with
          | cons hr1 hr2 =>
            obtain ⟨i1, i2⟩ := keys_reads e2 (by simpa using hl) p3 ⟨_, _, hv2, hu2, hr2⟩
            have ek : ∃ t, en.key = .str k t := by
              have p1' : keyIs q.1 en.key = true := p1
              rcases keyIs_shape p1' with ⟨i, t, z, _⟩ | ⟨x, t, z, z2⟩
              · rw [← e3] at z; cases z
              · rw [← e3] at z; cases z; exact ⟨t, z2⟩
            obtain ⟨t, ek⟩ := ek
            refine ⟨?_, by rw [List.map_cons, List.map_cons, i2, p2]⟩
            rw [List.map_cons, List.map_cons, ek]
            exact .cons (as := []) (bs := []) (.str k t) i1
  | [], _ :: _, _, _, _, _, hl, _, _ => by simp at hl
  | _ :: _, [], _, _, _, _, hl, _, _ => by simp at hl
end Mi

set_option Elab.async false
set_option linter.all false
set_option maxRecDepth 100000
set_option maxHeartbeats 4000000
/-! MiEj: repr of anything. -/
namespace Mi
open PySem PySem.Spec PyProof.Rows L2
variable [TB : Tabl]
def rPl (K : PySem.W.Frag) : List V → Hp → VK → Prop := fun xs H Q => (xs = [.non] ∧ Q (.str "None") H) ∨ (∃ b, xs = [.bl b] ∧ Q (.str (bTx b)) H) ∨ (∃ i : Int, xs = [.int i] ∧ i.natAbs.log2 < 1920 ∧ Q (.str (toString i)) H) ∨ (∃ x, xs = [.str x] ∧ (reprText x).length ≤ 100000 ∧ Q (.str (reprText x)) H) ∨
  (∃ q d, xs = [.ref q] ∧ Dp K H (.ref q) d ∧ d.showable = true ∧ d.hasDict = false ∧ d.depth ≤ 60 ∧ d.shown.length ≤ 100000 ∧ Q (.str d.shown) H) ∨
  (∃ (q : Addr) (ks : List Str) (vs : List V) (as : List PyData), xs = [.ref q] ∧ H q = some (.dK ((ks.map Sum.inr).zip vs)) ∧ ks.length = vs.length ∧ DpAll K H vs as ∧ PyData.showable (.dict ((ks.map PyData.str).zip as)) = true ∧ PyData.depthAll as = 0 ∧
    (PyData.shown (.dict ((ks.map PyData.str).zip as))).length ≤ 100000 ∧ Q (.str (PyData.shown (.dict ((ks.map PyData.str).zip as)))) H)
theorem dpAll_len {K : PySem.W.Frag} {H : Hp} : ∀ {vs : List V} {as : List PyData}, DpAll K H vs as → vs.length = as.length
  | _, _, .nil => rfl
  | _, _, .cons _ r => by simp [dpAll_len r]
theorem kv_vals : ∀ {ks : List Key} {vs : List V} {kvs : List (Key × Value)}, KV (ks.zip vs) kvs → ks.length = vs.length → Vals vs (kvs.map (·.2))
  | [], [], _, k, _ => by cases k; exact .nil
  | k :: ks, v :: vs, _, kv, hl => by
    cases kv with
    | cons e1 e2 => exact .cons e1.2 (kv_vals e2 (by simpa using hl))
  | [], _ :: _, _, _, hl => by simp at hl
  | _ :: _, [], _, _, hl => by simp at hl
theorem zip_maps {α β : Type} : ∀ {xs : List α} {ys : List β}, xs.length = ys.length → (xs.zip ys).map (·.1) = xs ∧ (xs.zip ys).map (·.2) = ys
  | [], [], _ => ⟨rfl, rfl⟩
  | x :: xs, y :: ys, h => by
    obtain ⟨a, b⟩ := zip_maps (xs := xs) (ys := ys) (by simpa using h)
    simp [a, b]
  | [], _ :: _, h => by simp at h
  | _ :: _, [], h => by simp at h
theorem depthKv0 : ∀ {ks : List Str} {as : List PyData}, PyData.depthAll as = 0 → PyData.depthKv ((ks.map PyData.str).zip as) = 0
  | [], _, _ => rfl
  | _ :: _, [], _ => rfl
  | k :: ks, a :: as, h => by
    have h2 : max (PyData.depth a) (PyData.depthAll as) = 0 := h
    have := depthKv0 (ks := ks) (as := as) (by omega)
    show max (max (PyData.depth (.str k)) (PyData.depth a)) (PyData.depthKv ((ks.map PyData.str).zip as)) = 0
    have h3 : PyData.depth (.str k) = 0 := rfl
    omega
theorem call_reprP {X : Cx} (hgd : X.A.guards = some []) (hu : X.A.units + 65 < cLine) : CallR X (.builtin "repr") (rPl X.K) := by
  intro pins s σ H xs us Q I r h
  rcases h with ⟨rfl, q⟩ | ⟨b, rfl, q⟩ | ⟨i, rfl, hi, q⟩ | ⟨x, rfl, hx, q⟩ | h | h
  · obtain ⟨u1, rfl, ru⟩ := Vals.one r
    cases ru
    exact PySem.P.repr_of_none ⟨.str _, H, I.tok _, ⟨_, rfl⟩, q⟩
  · obtain ⟨u1, rfl, ru⟩ := Vals.one r
    cases ru
    exact PySem.P.repr_of_bool ⟨.str _, H, I.tok _, ⟨_, rfl⟩, q⟩
  · obtain ⟨u1, rfl, ru⟩ := Vals.one r
    obtain ⟨t, rfl⟩ := ru
    exact PySem.P.repr_of_int hi ⟨.str _, H, I.tok _, ⟨_, rfl⟩, q⟩
  · obtain ⟨u1, rfl, ru⟩ := Vals.one r
    obtain ⟨t, rfl⟩ := ru
    exact PySem.P.repr_of_str ⟨.str _, H, I.tok _, ⟨_, rfl⟩, q⟩ (sz5 hx)
  · exact call_reprD hgd hu pins s σ H xs us Q I r h
  · obtain ⟨a, ks, vs, as, rfl, ha, hl, hd, h1, h2, h3, qq⟩ := h
    obtain ⟨u1, rfl, ru⟩ := Vals.one r
    cases ru
    obtain ⟨_, hsm, kvs, kv, o, es, ep, ho, hex, hdat, _, pr, _⟩ := I.hok a _ ha
    have hv := kv_vals kv (by simpa using hl)
    obtain ⟨bs, rs⟩ := Dp.readsAll I as vs _ hd hv
    obtain ⟨rk, ev⟩ := keys_reads kv hl pr ⟨_, bs, hv, rfl, rs⟩
    have hb := scal_reads rs h2
    subst hb
    have hla : ks.length = as.length := hl.trans (dpAll_len hd)
    obtain ⟨m1, m2⟩ := zip_maps (xs := ks.map PyData.str) (ys := as) (by simpa using hla)
    have hc : o.cls = .type "dict" := hex.1
    have R : Reads s.heap (.ref a) (.dict ((ks.map PyData.str).zip as)) (a :: [] ++ []) := .dict ho hc hdat (by rw [m1]; exact rk) (by rw [m2, ev]; exact rs)
    have hdep : PyData.depth (.dict ((ks.map PyData.str).zip as)) = 1 := by
      show PyData.depthKv _ + 1 = 1
      rw [depthKv0 h2]
    refine repr_of_reads' R h1 (fun _ => ?_) hgd (by rw [hdep]; omega) (fun b o e => e) (fun h' u tk hk => ⟨.str _, H, I.kept hk, ⟨_, rfl⟩, qq⟩) (sz5 h3)
    intro z
    have : sysModules = a := by simpa using z
    rw [this] at hsm
    simp at hsm
/-- repr of anything; t: the classes of one's own with their __repr__ -/
def mRepA (t : List (Str × (List D → M D))) (mo : ME) : ME := fun ρ => M.bind (mo ρ) fun d => match d with
  | .obj c ks ds => match t.lookup c with
    | some mf => mTxt mf [.obj c ks ds]
    | none => lft none
  | d => lft ((repP d).map .str)
section
variable {X : Cx} {c : Cf} {e : Expr} {m : ME} {pos : Pos} {t : List (Str × (List D → M D))}
theorem seq_ref {W : Wo} {p : Addr} {F : Hp} {v : V} : ∀ {d : D}, seqQ d = true → Rep W p F v d → ∃ q, v = .ref q
  | .lst _, _, rv => by obtain ⟨q, _, rfl, _⟩ := rv.lst_; exact ⟨q, rfl⟩
  | .tup _, _, rv => by obtain ⟨q, _, rfl, _⟩ := rv.tup_; exact ⟨q, rfl⟩
theorem plain_ok {W : Wo} {p : Addr} {F H : Hp} {u : PuS} {d : D} {v : V} {Q : VK} (hK : X.K = W.K) (g : Gd p u F H) (rv : Rep W p F v d) (h : After p F H (lft ((repP d).map .str) u) fun d _ F' H' => ∀ v, Rep W p F' v d → Q v H') : rPl X.K [v] H Q := by
  obtain ⟨z, e1, h2⟩ := lft_some h
  cases e2 : repP d with
  | none => rw [e2] at e1; cases e1
  | some x =>
    rw [e2] at e1
    cases e1
    have q := After.now g h2 _ (.str x)
    unfold repP at e2
    split at e2
    · cases e2; rw [rv.non_]; exact .inl ⟨rfl, q⟩
    · cases e2; rw [rv.bl_]; exact .inr (.inl ⟨_, rfl, q⟩)
    · split at e2
      · rename_i hi; cases e2; rw [rv.int_]; exact .inr (.inr (.inl ⟨_, rfl, hi, q⟩))
      · cases e2
    · split at e2
      · rename_i hi; cases e2; rw [rv.str_]; exact .inr (.inr (.inr (.inl ⟨_, rfl, hi, q⟩)))
      · cases e2
    · rename_i ks ds
      cases e3 : toPDs ds with
      | none => rw [e3] at e2; cases e2
      | some as =>
        rw [e3] at e2
        simp only [Option.bind_some] at e2
        split at e2
        · rename_i hh
          cases e2
          obtain ⟨a, vs, rfl, ha, lk, rs⟩ := rv.dct_
          exact .inr (.inr (.inr (.inr (.inr ⟨a, ks, vs, as, rfl, g.ex _ _ ha, lk, by rw [hK]; exact dps_of g.ex ds vs as rs e3, hh.1, hh.2.1, hh.2.2, q⟩))))
        · cases e2
    · split at e2
      · rename_i hs
        cases e3 : toPD d with
        | none => rw [e3] at e2; cases e2
        | some b =>
          rw [e3] at e2
          simp only [Option.bind_some] at e2
          split at e2
          · rename_i hh
            cases e2
            have hd := dp_of g.ex _ v b rv e3
            obtain ⟨q', rfl⟩ := seq_ref hs rv
            exact .inr (.inr (.inr (.inr (.inl ⟨q', b, rfl, by rw [hK]; exact hd, hh.1, hh.2.1, hh.2.2.1, hh.2.2.2, q⟩))))
          · cases e2
      · cases e2
/-- a class's own __repr__, told -/
def RepT (X : Cx) (W : Wo) (k : Nat) (ck : Str) (mf : List D → M D) : Prop := ∃ f fd ps, FnOk X.prog X.w X.K X.mg X.base CX0 k f fd ps (spM W 1 mf) ∧ L2.Binds X.K fd ps [] ∧ OwnM X.K (W.cl ck) f "__repr__"
def RepsT (X : Cx) (W : Wo) (k : Nat) (t : List (Str × (List D → M D))) : Prop := ∀ q ∈ t, RepT X W k q.1 q.2
theorem lookup_memT {α : Type} {c : Str} {mf : α} : ∀ {t : List (Str × α)}, t.lookup c = some mf → (c, mf) ∈ t
  | [], h => by cases h
  | (k, v) :: r, h => by
    rw [List.lookup_cons] at h
    cases q : c == k with
    | true => rw [q] at h; cases h; rw [beq_iff_eq.mp q]; exact List.mem_cons_self
    | false => rw [q] at h; exact List.mem_cons_of_mem _ (lookup_memT h)
theorem dRepA {k : Nat} {p0 : Pos} (hT : RepsT X c.W k t) (hgd : X.A.guards = some []) (hr : Room (k + 1) X.A) (hu : X.A.units + 65 < cLine) (hg : Gl X "repr") (hm : X.mg "repr" = none) (ha : DE X c e m) (hK : X.K = c.W.K := by rfl) (he : starEach [e] X.env = (false, eval e X.env) :: starEach [] X.env := by rfl) :
    DE X c (.Call (.Name "repr" p0) [e] [] pos) (mRepA t m) := by
  have R : CallR X (.builtin "repr") (fun xs H Q => rPl X.K xs H Q ∨ ∃ ck mf, (ck, mf) ∈ t ∧ rTxt (c.W.cl ck) (spM c.W 1 mf) xs H Q) := by
    intro pins s σ H xs us Q I r h
    rcases h with h | ⟨ck, mf, hmem, h⟩
    · exact call_reprP hgd hu pins s σ H xs us Q I r h
    · obtain ⟨f, fd, ps, G, hb, ho⟩ := hT _ hmem
      exact call_reprOb G hr hb ho pins s σ H xs us Q I r h
  refine (pe_callB R hg hm bb_repr (pa_cons ha pa_nil he) (by decide) (by decide) he rfl).imp fun σ H Q ⟨F, u, ρ, S, h⟩ => ⟨F, u, ρ, S, (After.split h).imp fun x u1 F1 H1 _ s1 g1 h1 v rv => ?_⟩
  cases x with
  | obj cc ks ds =>
    right
    have h2 : After c.p F1 H1 ((match t.lookup cc with
      | some mf => mTxt mf [.obj cc ks ds]
      | none => lft none) u1) (fun d _ F' H' => ∀ v, Rep c.W c.p F' v d → Q v H') := h1
    cases e1 : t.lookup cc with
    | none => rw [e1] at h2; exact False.elim h2
    | some mf =>
      rw [e1] at h2
      obtain ⟨a, dx, vs, rfl, ha, _⟩ := id rv.obj_
      exact ⟨cc, mf, lookup_memT e1, txt_go g1 ha rv h2⟩
  | _ => exact .inl (plain_ok hK g1 rv h1)
/-! ### .. while an error is handled -/
def RepH (X : Cx) (W : Wo) (k : Nat) (ck : Str) (mf : List D → M D) : Prop := ∃ f fd ps, FnHt X.prog X.w X.K X.mg X.base k f fd ps (spH W 1 mf) ∧ L2.Binds X.K fd ps [] ∧ OwnM X.K (W.cl ck) f "__repr__"
def RepsH (X : Cx) (W : Wo) (k : Nat) (t : List (Str × (List D → M D))) : Prop := ∀ q ∈ t, RepH X W k q.1 q.2
theorem RoomH.in1 {k : Nat} {A : Around} (r : L2H.RoomH (k + 1) A) : L2H.RoomH k A.in1 := ⟨by have := r.dp; show A.depth + 3 * k + 5 < _; omega, by have := r.un; show A.units + 1 + 16 * k + 200 < _; omega⟩
def rTxH (C : Addr) (sp : Addr → Sp) (a : Addr) (oe : Obj) : List V → Hp → VK → Prop := fun xs H Q => ∃ b dx fs, xs = [.ref b] ∧ H b = some (.ins C dx fs) ∧ H a = some (.frz oe (anyO a oe)) ∧ sp a [.ref b] H (fun v H' => ∃ n : Str, v = .str n ∧ Q (.str n) H') E0
theorem call_reprH {k : Nat} {f C a : Addr} {oe : Obj} {fd : FuncData} {ps : List Str} {sp : Addr → Sp} (G : FnHt X.prog X.w X.K X.mg X.base k f fd ps sp) (hgd : X.A.guards = some []) (hh : X.A.handled = some (.ref a)) (hv : ∃ gs, oe.data = .fields gs ∧ gs[2]? = some .none) (hr : L2H.RoomH (k + 1) X.A) (hb : L2.Binds X.K fd ps []) (hc : OwnM X.K C f "__repr__") : CallR X (.builtin "repr") (rTxH C sp a oe) := by
  intro pins s σ H vs us Q I r h
  obtain ⟨b, dx, fs, rfl, hb', ha, q⟩ := h
  obtain ⟨u1, rfl, ru⟩ := Vals.one r
  cases ru
  obtain ⟨mA, J, _⟩ := ins_get I.hok hb'
  obtain ⟨od, J, _⟩ := J.look
  obtain ⟨m, hF⟩ := I.fr
  have hr0 : X.A.in1.units < cLine := by have := hr.un; show X.A.units + 1 < _; omega
  refine PySem.W.repr_K hr0 hF I.ok.mod.kin J hc.has hc.fn ?_
  refine wpAny_mono (run_T (vs := [.ref b]) G (show X.A.in1.guards = some [] from hgd) (RoomH.in1 hr) rfl hh hv hb I ha (.cons rfl .nil) q) (fun v s' z => ?_) fun _ _ z => z
  obtain ⟨w, H', I', rw, n, ew, qq⟩ := z
  subst ew
  obtain ⟨t, rfl⟩ := rw
  exact ⟨.str n, H', I', ⟨_, rfl⟩, qq⟩
theorem dRepH {k : Nat} {p0 : Pos} {a : Addr} {oe : Obj} (hT : RepsH X c.W k t) (hgd : X.A.guards = some []) (hh : HotO X.A c.H0 c.p a oe) (hr : L2H.RoomH (k + 1) X.A) (hu : X.A.units + 65 < cLine) (hg : Gl X "repr") (hm : X.mg "repr" = none) (ha : DE X c e m) (hK : X.K = c.W.K := by rfl) (he : starEach [e] X.env = (false, eval e X.env) :: starEach [] X.env := by rfl) :
    DE X c (.Call (.Name "repr" p0) [e] [] pos) (mRepA t m) := by
  have R : CallR X (.builtin "repr") (fun xs H Q => rPl X.K xs H Q ∨ ∃ ck mf, (ck, mf) ∈ t ∧ rTxH (c.W.cl ck) (spH c.W 1 mf) a oe xs H Q) := by
    intro pins s σ H xs us Q I r h
    rcases h with h | ⟨ck, mf, hmem, h⟩
    · exact call_reprP hgd hu pins s σ H xs us Q I r h
    · obtain ⟨f, fd, ps, G, hb, ho⟩ := hT _ hmem
      exact call_reprH G hgd hh.hd hh.fld hr hb ho pins s σ H xs us Q I r h
  refine (pe_callB R hg hm bb_repr (pa_cons ha pa_nil he) (by decide) (by decide) he rfl).imp fun σ H Q ⟨F, u, ρ, S, h⟩ => ⟨F, u, ρ, S, (After.split h).imp fun x u1 F1 H1 _ s1 g1 h1 v rv => ?_⟩
  cases x with
  | obj cc ks ds =>
    right
    have h2 : After c.p F1 H1 ((match t.lookup cc with
      | some mf => mTxt mf [.obj cc ks ds]
      | none => lft none) u1) (fun d _ F' H' => ∀ v, Rep c.W c.p F' v d → Q v H') := h1
    cases e1 : t.lookup cc with
    | none => rw [e1] at h2; exact False.elim h2
    | some mf =>
      rw [e1] at h2
      obtain ⟨b, dx, vs, rfl, hb, _⟩ := id rv.obj_
      refine ⟨cc, mf, lookup_memT e1, b, dx, _, rfl, g1.ex _ _ hb, hh.step S s1, rfl, c.p, F1, u1, [_], hh.ne, g1, Reps.cons rv Reps.nil, (After.split h2).imp fun d u3 F3 H3 _ s3 g3 h5 z rz => ?_⟩
      split at h5
      · rename_i n _h
        have h6 : After c.p F3 H3 (some (D.str n, u3)) (fun d _ F' H' => ∀ v, Rep c.W c.p F' v d → Q v H') := h5
        exact ⟨n, rz.str_, After.now g3 h6 _ (.str n)⟩
      · exact False.elim h5
  | _ => exact .inl (plain_ok hK g1 rv h1)
end
end Mi

set_option Elab.async false
set_option linter.all false
set_option maxRecDepth 100000
set_option maxHeartbeats 4000000
/-! MiEk: the law's top where lambdas are made; defs that make them. -/
namespace Mi
open PySem PySem.Spec PyProof.Rows L2 He LamX
variable [TB : Tabl]
/-- the code objects that make lambdas, with their tables -/
def csOf (K : PySem.W.Frag) (xs : List Str) : List (Addr × Addr) := xs.filterMap (PySem.W.tabIn K)
/-- the script's object and the empty tables -/
def scrT (K : PySem.W.Frag) (ts : List Addr) (a : Addr) (ob : Obj) (ns : List Int) : Hp := fun b => if b ∈ ts then some (.tbl #[]) else scrH K a ob ns b
theorem scrT_or {K : PySem.W.Frag} {ts : List Addr} {a b : Addr} {ob : Obj} {ns : List Int} {u : HO} (h : scrT K ts a ob ns b = some u) : (b ∈ ts ∧ u = .tbl #[]) ∨ (b ∉ ts ∧ K.lookup a = none ∧ b = a ∧ u = .frz ob (.lst (ns.map V.int))) := by
  unfold scrT at h
  split at h
  · rename_i hb; cases h; exact .inl ⟨hb, rfl⟩
  · rename_i hb; exact .inr ⟨hb, scrH_some h⟩
def OnlyT (ts : List Addr) (H : Hp) : Prop := (∀ b ∈ ts, H b = some (.tbl #[])) ∧ ∀ b, H b = none ∨ b ∈ ts ∨ ∃ o xs, H b = some (.frz o (.lst xs))
theorem top_T {P : Program} {w : World} {K : PySem.W.Frag} {mg mb : Str → Option Value} {k : Nat} {fa a : Addr} {cs : List (Addr × Addr)} {fd : FuncData} {x : Str} {sp : Sp} {s₁ : Shared} {vs : List Value} {ns : List Int}
    (KX : K.In s₁.heap) (hns : s₁.heap.Ns mainGlobals mg) (hb : s₁.heap.Ns builtinsNs mb) (hbb : ∀ x : Str, x ≠ "__name__" → mb x = bootBuiltins x) (hlim : s₁.heap.NoLimit) (hg : s₁.gens = #[])
    (hT : ∀ p ∈ cs, s₁.heap.get? p.2 = some { cls := .none, data := .fields #[] }) (nT : ∀ p ∈ cs, K.lookup p.2 = none) (C : ∀ p ∈ cs, PySem.W.CodeHd s₁.heap p.1 p.2)
    (hbm : ∃ (bm : Addr) (ob : Obj), mg "__builtins__" = some (.ref bm) ∧ bm ≠ builtinsNs ∧ s₁.heap.get? bm = some ob ∧ ob.cls = .type "module" ∧ ob.dict = some builtinsNs ∧ ob.data = .plain)
    (ha : s₁.heap.get? a = some { cls := .type "list", data := .seq vs.toArray }) (hi : IntsAre vs ns) (hl : ns.length ≤ sizeLine) (hr : Room k callerA)
    (F : ∀ base : Heap, K.In base → base.Ns mainGlobals mg → (∀ p ∈ cs, TabB base mg p.1 p.2) → FnG P w K mg base k fa fd [x] sp) (hbind : ∀ (s : Shared) (u : Value), BindsTo s fd ⟨[u], []⟩ [(x, u)])
    (hsp : ∀ H : Hp, OnlyT (cs.map (·.2)) H → SqL K H a (ns.map V.int) → sp [.ref a] H (fun v _ => v = .bl true) fun _ _ _ => False) :
    codeAny (model P w) callerA (.call (.ref fa) ⟨[.ref a], []⟩) (fun r s' => r = .ok (.ret (.bool true)) ∧ OldK s₁.heap s'.heap ∧ s'.os = s₁.os ∧ AllBare s'.gens) s₁ := by
  have rv := vals_ints hi
  have lenV := hi.length
  have tAt : ∀ {b : Addr}, b ∈ cs.map (·.2) → s₁.heap.get? b = some { cls := .none, data := .fields #[] } := fun {b} hb => by
    obtain ⟨p, hp, rfl⟩ := List.mem_map.mp hb
    exact hT p hp
  have aN : a ∉ cs.map (·.2) := fun z => by
    have q := tAt z
    rw [ha] at q
    have := congrArg Obj.data (Option.some.inj q)
    cases this
  generalize hob : ({ cls := .type "list", data := .seq vs.toArray } : Obj) = ob at ha
  generalize hH : scrT K (cs.map (·.2)) a ob ns = H
  have Hor : ∀ {b u}, H b = some u → (b ∈ cs.map (·.2) ∧ u = .tbl #[]) ∨ (b ∉ cs.map (·.2) ∧ K.lookup a = none ∧ b = a ∧ u = .frz ob (.lst (ns.map V.int))) := fun {b u} e => scrT_or (by rw [hH]; exact e)
  have Ht : ∀ b ∈ cs.map (·.2), H b = some (.tbl #[]) := fun b hb => by rw [← hH]; exact if_pos hb
  have hO : OnlyT (cs.map (·.2)) H := ⟨Ht, fun b => by
    cases e : H b with
    | none => exact .inl rfl
    | some u =>
      rcases Hor e with ⟨z, _⟩ | ⟨_, _, _, rfl⟩
      · exact .inr (.inl z)
      · exact .inr (.inr ⟨_, _, rfl⟩)⟩
  have hok : HOk P w H s₁.heap := fun b u e => by
    rcases Hor e with ⟨z, rfl⟩ | ⟨_, _, rfl, rfl⟩
    · exact tAt z
    · subst hob
      exact ⟨ha, by rw [List.length_map]; exact hl, vs, _, rv, ha⟩
  have hS : SqL K H a (ns.map V.int) := by
    cases hk : K.lookup a with
    | none => exact .inl (.inr ⟨ob, by rw [← hH]; unfold scrT; rw [if_neg aN]; unfold scrH; rw [if_pos ⟨hk, rfl⟩]⟩)
    | some o =>
      have e := KX a o hk
      rw [ha] at e
      cases e
      subst hob
      exact .inr ⟨_, vs.toArray, _, hk, rfl, rfl, rfl, by rw [List.size_toArray, lenV]; exact hl, by simpa using rv⟩
  -- what is neither a list nor a table stands in the base
  have low : ∀ {b : Addr} {o : Obj}, s₁.heap.get? b = some o → (∀ vs n, o.data ≠ .seq vs n) → o.data ≠ .fields #[] → H b = none := fun {b o} e h1 h2 => by
    cases q : H b with
    | none => rfl
    | some u =>
      rcases Hor q with ⟨z, _⟩ | ⟨_, _, rfl, _⟩
      · rw [tAt z] at e; cases e; exact absurd rfl h2
      · rw [ha] at e; cases e; subst hob; exact absurd rfl (h1 _ _)
  have up : ∀ {b : Addr} {o : Obj}, s₁.heap.get? b = some o → H b = none → (hidT s₁.heap H).get? b = some o := fun e n => hidT_get e n
  have dct : ∀ {b : Addr} {o : Obj} {es : Array DictEntry} {ep : Nat}, s₁.heap.get? b = some o → o.data = .dict es ep → H b = none := fun e d => low e (fun _ _ z => by rw [d] at z; cases z) fun z => by rw [d] at z; cases z
  have nsK : ∀ {b : Addr} {m : Str → Option Value}, s₁.heap.Ns b m → (hidT s₁.heap H).Ns b m := fun {b m} ⟨o, es, ep, e, d, r⟩ => ⟨o, es, ep, up e (dct e d), d, r⟩
  have hKb : K.In (hidT s₁.heap H) := fun b o e => up (KX b o e) (by
    cases q : H b with
    | none => rfl
    | some u =>
      rcases Hor q with ⟨z, _⟩ | ⟨_, hk, rfl, _⟩
      · obtain ⟨p, hp, rfl⟩ := List.mem_map.mp z
        rw [nT p hp] at e; cases e
      · rw [hk] at e; cases e)
  have TBs : ∀ p ∈ cs, TabB (hidT s₁.heap H) mg p.1 p.2 := fun p hp => by
    have onT := hT p hp
    refine ⟨?_, ?_, fun z => ?_⟩
    · obtain ⟨o, us, file, tf, flags, tg, inF, text, tt, e1, r1, r2, rest⟩ := C p hp
      refine ⟨o, us, file, tf, flags, tg, inF, text, tt, up e1 (low e1 (fun vs n z => by rw [r2] at z; cases z) fun z => ?_), r1, r2, rest⟩
      have r3 := rest.1
      rw [r2] at z
      cases z
      simp at r3
    · obtain ⟨bm, om, b1, b2, b3, b4, b5, b6⟩ := hbm
      refine ⟨bm, om, b1, b2, fun q => ?_, fun q => ?_, up b3 (low b3 (fun vs n z => by rw [b6] at z; cases z) fun z => by rw [b6] at z; cases z), b4, b5, b6⟩
      · obtain ⟨o, es, ep, e, hd, _⟩ := hns
        rw [q, e] at b3; cases b3
        rw [hd] at b6; cases b6
      · rw [q, onT] at b3; cases b3; cases b6
    · obtain ⟨o, es, ep, e, hd, _⟩ := hns
      rw [z, onT] at e; cases e; cases hd
  obtain ⟨mc, h1, h2⟩ := hlim
  have e0 : Env0 P w K mg (hidT s₁.heap H) callerA [] s₁ H :=
    ⟨rfl, ⟨hKb, nsK hns, ⟨mb, nsK hb, hbb⟩, ⟨mc, nsK h1, h2⟩⟩, fun b o e => of_hidT e, Nat.le_of_eq (hidT_size _ _), trivial, fun b hb => absurd (show b ∈ ([] : List Addr) from hb) (by simp), hok, .of_eq hg⟩
  refine codeAny_mono ((F _ hKb (nsK hns) TBs).run callerA [] s₁ _ ⟨[.ref a], []⟩ [.ref a] [.ref a] _ _ rfl hr e0 (hbind s₁ (.ref a)) (.cons rfl .nil) (hsp _ hO hS)) fun r s' h => ?_
  match r, h with
  | .error e, h => exact False.elim h
  | .ok (.ret u), h =>
    obtain ⟨v, H', os, bare, un, hok', r', q⟩ := h
    have q' : v = .bl true := q
    subst q'
    obtain rfl : u = Value.bool true := r'
    have same : ∀ b o, b ∉ cs.map (·.2) → s₁.heap.get? b = some o → s'.heap.get? b = some o := fun b o nb e => by
      cases q : H b with
      | none => exact un.keep b o e q (by intro z; exact absurd (show b ∈ ([] : List Addr) from z) (by simp)) (by simp)
      | some u =>
        rcases Hor q with ⟨z, _⟩ | ⟨_, _, rfl, rfl⟩
        · exact absurd z nb
        · have e2 := (hok' _ _ (un.frzs _ _ _ q)).1
          rw [ha] at e; cases e; exact e2
    have more : ∀ p ∈ cs, ∃ more : Array Value, s'.heap.get? p.2 = some { cls := .none, data := .fields more } := fun p hp => by
      obtain ⟨m, z⟩ := un.tbls p.2 #[] (Ht p.2 (List.mem_map.mpr ⟨p, hp, rfl⟩))
      exact ⟨_, hok' p.2 _ z⟩
    refine ⟨rfl, ⟨fun b o e => ?_, fun b o e => ?_⟩, os, bare⟩ <;> by_cases hb : b ∈ cs.map (·.2)
    · obtain ⟨p, hp, rfl⟩ := List.mem_map.mp hb
      obtain ⟨m, hm⟩ := more p hp
      rw [hT p hp] at e
      cases e
      exact .inr (.inl ⟨((C p hp).tab (hT p hp)).isCodeTable, rfl, #[], m, rfl, by rw [Array.empty_append]; exact hm⟩)
    · exact .inl (same b o hb e)
    · obtain ⟨p, hp, rfl⟩ := List.mem_map.mp hb
      obtain ⟨m, hm⟩ := more p hp
      exact ⟨_, hm⟩
    · exact ⟨o, same b o hb e⟩
theorem walk_T {l : PySem.W.OpenLaw} {n k : Nat} {q : Program} {loose : List Str} {XP : (Str → Option Value) → Heap → Prop} {YP : World → Heap → Prop} {d : DefRec} {x : Str}
    (hn : l.most = some n) (hn2 : n ≤ sizeLine) (hdf : d.params.defaults = []) (hr : Room k callerA)
    (F : ∀ (w : World) (mg : Str → Option Value) (fa : Addr) (h : Heap), YP w h → h.Ns mainGlobals mg → mg d.name = some (.ref fa) → (∀ (K : PySem.W.Frag) (x : Str) (d : DefRec) (c P : Addr), K.In h → (recsOf q).find? (fun e => e.name == x) = some d → PySem.W.tabIn K x = some (c, P) → PySem.W.CodeHd h c P ∧ h.get? P = some { cls := .none, data := .fields #[] }) →
      ∃ (K : PySem.W.Frag) (fd : FuncData) (cs : List (Addr × Addr)) (sp : Sp), K.In h ∧ (∀ p ∈ cs, h.get? p.2 = some { cls := .none, data := .fields #[] }) ∧ (∀ p ∈ cs, K.lookup p.2 = none) ∧ (∀ p ∈ cs, PySem.W.CodeHd h p.1 p.2) ∧ (∀ (s : Shared) (u : Value), BindsTo s fd ⟨[u], []⟩ [(x, u)]) ∧
        (∀ (H : Hp) (a : Addr) (ns : List Int), ns.length ≤ n → OnlyT (cs.map (·.2)) H → SqL K H a (ns.map V.int) → sp [.ref a] H (fun v _ => v = .bl true) fun _ _ _ => False) ∧
        ∀ base : Heap, K.In base → base.Ns mainGlobals mg → (∀ p ∈ cs, TabB base mg p.1 p.2) → FnG l.prog w K mg base k fa fd [x] sp) :
    PySem.W.WalkO q loose XP YP l.row.toRowW d [] (fun f vs => PySem.call f vs) := by
  refine Att.attach_call hn hdf fun w s₀ s₁ mg mb fa o pm cd doc a vs ns G Y ho hd hcd hmg hobj hints hlen hg => ?_
  obtain ⟨K, fd, cs, sp, KX, h1, h2, h3, hb, hsp, hF⟩ := F w mg fa _ Y G.T.g hmg (fun K x d c P KX hr ht => PySem.W.tab_of G.T KX hr ht)
  exact top_T KX G.T.g G.T.b G.T.builtins G.T.nolimit hg h1 h2 h3 G.T.bmain hobj hints (Nat.le_trans hlen hn2) hr hF hb fun H hO hS => hsp H a ns hlen hO hS
/-! ### defs that make lambdas -/
/-- the code of the def at f -/
def codeAt (K : PySem.W.Frag) (f : Addr) (cdv : Value) : Prop := ∃ oc od fd osl, K.lookup f = some ⟨oc, od, .func fd, osl⟩ ∧ fd.code = cdv
theorem code_tab {K : PySem.W.Frag} {x : Str} {f c P : Addr} {cdv : Value} (hn : PySem.W.nsIn K mainGlobals x = some (some (.ref f))) (hc : codeAt K f cdv) (ht : PySem.W.tabIn K x = some (c, P)) : cdv = .ref c := by
  obtain ⟨oc, od, fd, osl, lk, rfl⟩ := hc
  unfold PySem.W.tabIn at ht
  rw [hn] at ht
  simp only [lk] at ht
  split at ht
  · rename_i c' e
    split at ht
    · split at ht
      · cases ht; exact e
      · cases ht
    · cases ht
  · cases ht
/-- what is known of the base where lambdas are made: xs, the names of the defs that make them -/
structure BaseT (K : PySem.W.Frag) (mg : Str → Option Value) (base : Heap) (xs : List Str) : Prop where
  tb : ∀ x ∈ xs, ∃ c P, PySem.W.tabIn K x = some (c, P) ∧ TabB base mg c P ∧ (P, x ++ ".<locals>." ++ "<lambda>") ∈ TB.T ∧ ∀ p ∈ TB.T, p.1 = P → p.2 = x ++ ".<locals>." ++ "<lambda>"
  loose : TB.loose = true
section
variable {P : Program} {w : World} {K : PySem.W.Frag} {mg : Str → Option Value} {base : Heap} {x qual : Str} {params : Arguments} {body : List Stmt} {scope : Scope} {dvs : List V} {kws : List (Str × V)} {f : Addr} {fd : FuncData} {W : Wo} {N ps : List Str} {k : Nat} {mb : MS}
theorem fn_mirL2 (F : FunD K x qual params body scope dvs kws f fd) (S : FnScope N ps scope)
    (hb : ∀ (cdv : Value) (A : Around) (outer : List PySem.Env) (s : Shared) (H : Hp) (E : XK) (p : Addr) (F0 : Hp), codeAt K f cdv → A.guards = some [] → Room k (A.deeper (envOfC qual scope s.heap.objs.size f cdv)) → DB (cxOf CX0 P w K mg base N qual scope f cdv A outer s H E).nox ⟨W, p, F0, H, 0, noX⟩ body mb) :
    FnG P w K mg base (k + 1) f fd ps (spM W ps.length (mFn N.length mb)) := by
  refine ⟨fun vs H Q E h => h.1, fun A outer s H args us vs Q E hg hr e0 hbd r hsp => ?_⟩
  obtain ⟨oc, od, dV, kV, doc, pm, an, cdv, ct, osl, rfl, lk, hcd, _, _⟩ := F.ex
  have hcode : codeAt K f cdv := ⟨_, _, _, _, lk, rfl⟩
  refine StX.run_bnd (G := fun xs H2 => xs = vs ∧ H2 = H) lk hcd S hr e0 (fun A' Ex Q' h => hbd _ _ _ _ (h s H vs us e0 Un.refl rfl (fun _ _ z => z) r hsp.1 ⟨rfl, rfl⟩)) fun s2 H2 xs ⟨ex, eH⟩ hr' => ?_
  subst ex eH
  obtain ⟨hl, p, F0, u, ds, g, r, h⟩ := hsp
  refine ⟨_, PSs.nox (hb cdv A outer s2 _ E p F0 hcode hg hr'), F0, u, startE N.length ds, ⟨Stp.refl, g, env_start r⟩, ?_⟩
  unfold mFn at h
  cases e : mb (startE N.length ds) u with
  | none => rw [e] at h; exact h
  | some y =>
    obtain ⟨fl, u1⟩ := y
    rw [e] at h
    cases fl with
    | rt d =>
      intro v F' H' s' g' rv
      have h2 : After p F0 _ (some (d, u1)) (fun d _ F' H' => ∀ v, Rep W p F' v d → Q v H') := h
      exact h2 F' H' s' g' v rv
    | nx ρ' =>
      intro σ' F' H' _ S'
      have h2 : After p F0 _ (some (D.non, u1)) (fun d _ F' H' => ∀ v, Rep W p F' v d → Q v H') := h
      exact h2 F' H' S'.ent S'.gd .non .non
    | _ => exact False.elim h
end
/-- the law's mirror meets the law's promise, tables there -/
theorem law_spT {cs : List Str} {K : PySem.W.Frag} {mf : List D → M D} {E : XK} {ts : List Addr} (hK : noListsB K = true) (n : Nat) (h : ∀ (ns : List Int) (o : HO), ns.length ≤ n → ∃ u', mf [.scr ns] (.idle o) = some (.bl true, u')) (hts : ∀ p ∈ TB.T, p.1 ∈ ts) (H : Hp) (a : Addr) (ns : List Int) (hl : ns.length ≤ n) (hO : OnlyT ts H) (hS : SqL K H a (ns.map V.int)) :
    spM (WW cs K) 1 mf [.ref a] H (fun v _ => v = .bl true) E := law_sp hK n h H a ns hl hS fun p hp => TabS.nil (hO.1 _ (hts p hp))
end Mi


set_option Elab.async false
set_option linter.all false
set_option maxRecDepth 100000
set_option maxHeartbeats 4000000
/-! MiEl: choices between what may raise; defs with a star parameter that may raise; {}; the written part's facts about errors. -/
namespace Mi
open PySem PySem.Spec PyProof.Rows L2 He StX
variable [TB : Tabl]
section
variable {X : Cx} {c : Cf} {t : MT} {ma mb : MX} {k a b : Expr} {pos : Pos}
/-- a class of errors, named -/
theorem dGE {x k : Str} (hk : k ∈ errs) (hg : Gl X x) (hm : X.mg x = some (.ref (c.W.cl k))) (hdb : (x == ("__debug__" : Str)) = false := by decide) : DE X c (.Name x pos) (mC (.ecl k)) :=
  ⟨fun pins s σ H Q I ⟨F, u, ρ, S, h⟩ => by
    have h1 : After c.p F H (some (D.ecl k, u)) (fun d _ F' H' => ∀ v, Rep c.W c.p F' v d → Q v H') := h
    exact ld_glob I hg hm ⟨.ref (c.W.cl k), H, I, rfl, After.now S.gd h1 _ (.ecl k hk)⟩ hdb⟩
end
/-! ### a def with a star parameter that may raise -/
section
variable {P : Program} {w : World} {K : PySem.W.Frag} {mg : Str → Option Value} {base : Heap} {x qual : Str} {params : Arguments} {body : List Stmt} {scope : Scope} {dvs : List V} {kws : List (Str × V)} {f : Addr} {fd : FuncData} {W : Wo} {N ps : List Str} {pv : Str} {k : Nat} {mb : MS}
end
section
variable {X : Cx} {c : Cf} {k n : Nat} {p g : Addr} {mc : Value} {o e : Expr} {es : List Expr} {m ck : Str} {pos apos : Pos} {mo : ME} {ms : MA} {pl : Sem Bool} {mf : List D → M RX} {E : XK}
end
/-! ### what the written part says of errors -/
theorem tyB_ok {K : PySem.W.Frag} {v : Value} {t : String} (h : tyB K v t = true) : PySem.W.typeIn K v = some (.type t) := by
  unfold tyB at h
  split at h
  · rename_i x e
    rw [e, beq_iff_eq.mp h]
  · cases h
theorem bm_ok (k : Str) : ∃ B newId initId bmB, ExcBaseFacts B newId initId bmB ∧ StoreFacts B bmB "object.__setattr__" "object" ∧ bmB = bmOf (exP k) ∧ newId = exP k ++ ".__new__" := by
  have h : exP k = "ValueError" ∨ exP k = "LookupError" ∨ exP k = "ArithmeticError" := by
    unfold exP
    split
    · exact .inl rfl
    · split
      · exact .inr (.inl rfl)
      · exact .inr (.inr rfl)
  rcases h with h | h | h <;> rw [h]
  · exact ⟨_, _, _, _, PySem.F.excBase_ValueError, PySem.F.store_ValueError, rfl, by decide⟩
  · exact ⟨_, _, _, _, PySem.F.excBase_LookupError, PySem.F.store_LookupError, by unfold bmOf; rw [if_neg (by decide), if_pos rfl], by decide⟩
  · exact ⟨_, _, _, _, PySem.F.excBase_ArithmeticError, PySem.F.store_ArithmeticError, by unfold bmOf; rw [if_neg (by decide), if_neg (by decide)], by decide⟩
theorem erT_ok {K : PySem.W.Frag} {k f : Str} {d : DefP} (h : erB k f K = true) (FP : FunP K d) (hd : d.at_ = .meth k "__init__") (hn : d.name = "__init__") (hp : ∃ p1 p2, d.params = eA f p1 p2) (hb : ∃ q1 q2 q3 q4, d.body = eB f q1 q2 q3 q4) (hs : d.scope = eS f) : ErT K (ga K k) (ma K (ga K k) "__init__") f := by
  obtain ⟨h1, h⟩ := ba h
  obtain ⟨h2, h⟩ := ba h
  obtain ⟨h3, h⟩ := ba h
  obtain ⟨h4, h⟩ := ba h
  obtain ⟨h5, h⟩ := ba h
  obtain ⟨h6, h⟩ := ba h
  obtain ⟨h7, h⟩ := ba h
  obtain ⟨h8, h⟩ := ba h
  obtain ⟨h9, h10⟩ := ba h
  obtain ⟨B, newId, initId, bmB, b1, b2, e1, e2⟩ := bm_ok k
  refine ⟨⟨B, newId, initId, bmB, b1, b2, by rw [e1, e2]; exact h1, by rw [e1]; exact h2⟩, eqO_ok h3, eqO_ok h4, eqO_ok h5, tyB_ok h6, h7, of_decide_eq_true h8, tyB_ok h9, h10, ?_⟩
  obtain ⟨a, nm, q, ps, bd, sc⟩ := d
  dsimp only at hd hn hp hb hs
  subst hd hn hs
  obtain ⟨p1, p2, rfl⟩ := hp
  obtain ⟨q1, q2, q3, q4, rfl⟩ := hb
  obtain ⟨oc, od, dV, kV, doc, pm, an, cdv, ct, osl, e, lk, hcd, hdf, _⟩ := FP.ex
  have hdv : dV = .none := by
    rcases hdf with ⟨_, h⟩ | ⟨h, _⟩
    · exact h
    · exact absurd rfl h
  subst hdv
  rw [e] at lk
  exact ⟨q, oc, od, kV, doc, pm, an, cdv, ct, osl, p1, p2, q1, q2, q3, q4, lk, hcd⟩
theorem exk_ok {K : PySem.W.Frag} {D : Addr} (h : exkB K D = true) : ExK K D := by
  obtain ⟨h1, h⟩ := ba h
  obtain ⟨h2, h⟩ := ba h
  obtain ⟨h3, h⟩ := ba h
  obtain ⟨h4, h⟩ := ba h
  obtain ⟨h5, h⟩ := ba h
  obtain ⟨h6, h⟩ := ba h
  obtain ⟨h7, h⟩ := ba h
  obtain ⟨h8, h9⟩ := ba h
  exact ⟨h1, eqO_ok h2, eqO_ok h3, of_decide_eq_true h4, h5, eqO_ok h6, eqO_ok h7, of_decide_eq_true h8, of_decide_eq_true h9⟩
theorem noa_ok {es fs : List Str} {K : PySem.W.Frag} (h : noaB es fs K = true) {f : Str} (hf : f ∈ fs) : ∀ k ∈ es, PySem.W.findIn K (.ref (ga K k)) f = some none := fun k hk => eqO_ok (List.all_eq_true.mp (List.all_eq_true.mp h k hk) f hf)
theorem exm_ok {es c : List Str} {K : PySem.W.Frag} (h : exmB es c K = true) : ∀ k, decide (k ∈ es) = true → PySem.W.exmAny K (.ref (ga K k)) (c.map fun x => .ref (ga K x)) = some true := fun k hk => of_decide_eq_true (List.all_eq_true.mp h k (of_decide_eq_true hk))
theorem HF.gls {fa : List Ft} {fn : List DefP} {K : PySem.W.Frag} {mg : Str → Option Value} (c : HF fa fn K mg) (i : Nat) {xs : List Str} (h : fa[i]? = some (.raw (glsB xs))) {x : Str} (hx : x ∈ xs) : mg x = some (.ref (ga K x)) := by
  obtain ⟨_, X, G⟩ := c.ns
  exact glo_ok X G (List.all_eq_true.mp (c.fact i h) x hx)
/-- own reprs while an error is handled: room -/
theorem _root_.L2H.RoomH.units {k : Nat} {A : Around} (r : L2H.RoomH k A) : A.units + 64 < cLine := by have := r.un; omega
theorem _root_.L2H.RoomH.u65 {k : Nat} {A : Around} (r : L2H.RoomH k A) : A.units + 65 < cLine := by have := r.un; omega
theorem _root_.L2.Room.u65 {k : Nat} {A : Around} (r : Room k A) : A.units + 65 < cLine := by have := r.un; omega
theorem _root_.L2.Room.hot {k : Nat} {A : Around} (r : Room k A) : L2H.RoomH k A := ⟨r.dp, r.un⟩
/-- tables of reprs -/
theorem _root_.L2.FnOk.more {P : Program} {w : World} {K : PySem.W.Frag} {mg : Str → Option Value} {base : Heap} {CX : CXT} {j k : Nat} {f : Addr} {fd : FuncData} {ps : List Str} {sp : Sp} (G : FnOk P w K mg base CX j f fd ps sp) (h : j ≤ k) : FnOk P w K mg base CX k f fd ps sp :=
  ⟨G.len, fun A outer s H args us vs Q E hr e0 hb r hsp => G.run A outer s H args us vs Q E (hr.mono h) e0 hb r hsp⟩
theorem FnHt.more {P : Program} {w : World} {K : PySem.W.Frag} {mg : Str → Option Value} {base : Heap} {j k : Nat} {f : Addr} {fd : FuncData} {ps : List Str} {sp : Addr → Sp} (G : FnHt P w K mg base j f fd ps sp) (h : j ≤ k) : FnHt P w K mg base k f fd ps sp :=
  ⟨G.len, fun A outer s H args us vs Q E a oe hg hr hh ha hv e0 hb r hsp => G.run A outer s H args us vs Q E a oe hg (hr.mono h) hh ha hv e0 hb r hsp⟩
abbrev RT := List (Str × (List D → M D))
section
variable {X : Cx} {W : Wo} {k j : Nat} {t : RT} {ck : Str} {mf : List D → M D} {f : Addr} {fd : FuncData} {ps : List Str}
theorem repsT0 : RepsT X W k [] := fun _ h => by simp at h
theorem repsH0 : RepsH X W k [] := fun _ h => by simp at h
end
/-! ### the tables of the law -/
abbrev tabsOf (K : PySem.W.Frag) (xs : List Str) : List (Addr × Str) := xs.filterMap fun x => (PySem.W.tabIn K x).map fun p => (p.2, x ++ ".<locals>." ++ "<lambda>")
theorem tabB_uni {K : PySem.W.Frag} : ∀ {xs : List Str}, (xs.filterMap fun x => (PySem.W.tabIn K x).map (·.2)).Nodup → ∀ {x y : Str} {p q : Addr × Addr}, x ∈ xs → y ∈ xs → PySem.W.tabIn K x = some p → PySem.W.tabIn K y = some q → p.2 = q.2 → x = y
  | [], _, _, _, _, _, hx, _, _, _, _ => by simp at hx
  | z :: zs, nd, x, y, p, q, hx, hy, ep, eq_, e => by
    have mem : ∀ {a : Str} {r : Addr × Addr}, a ∈ zs → PySem.W.tabIn K a = some r → r.2 ∈ zs.filterMap fun x => (PySem.W.tabIn K x).map (·.2) := fun {a r} ha er => List.mem_filterMap.mpr ⟨a, ha, by rw [er]; rfl⟩
    rw [List.filterMap_cons] at nd
    rcases List.mem_cons.mp hx with rfl | hx'
    · rcases List.mem_cons.mp hy with rfl | hy'
      · rfl
      · rw [ep] at nd
        have h2 := (List.nodup_cons.mp (show (p.2 :: _).Nodup from nd)).1
        exact absurd (e ▸ mem hy' eq_) h2
    · rcases List.mem_cons.mp hy with rfl | hy'
      · rw [eq_] at nd
        have h2 := (List.nodup_cons.mp (show (q.2 :: _).Nodup from nd)).1
        exact absurd (e ▸ mem hx' ep) h2
      · cases e1 : PySem.W.tabIn K z with
        | none => rw [e1] at nd; exact tabB_uni nd hx' hy' ep eq_ e
        | some r => rw [e1] at nd; exact tabB_uni (List.nodup_cons.mp (show (r.2 :: _).Nodup from nd)).2 hx' hy' ep eq_ e
theorem baseT_ok {K : PySem.W.Frag} {mg : Str → Option Value} {base : Heap} {xs : List Str} (h : tabB xs K = true) (hT : ∀ p ∈ csOf K xs, LamX.TabB base mg p.1 p.2) : @BaseT ⟨tabsOf K xs, true⟩ K mg base xs := by
  obtain ⟨h1, h⟩ := ba h
  obtain ⟨h2, _⟩ := ba h
  refine @BaseT.mk ⟨tabsOf K xs, true⟩ _ _ _ _ (fun x hx => ?_) rfl
  obtain ⟨⟨c, P⟩, e⟩ := Option.isSome_iff_exists.mp (List.all_eq_true.mp h1 x hx)
  refine ⟨c, P, e, hT (c, P) (List.mem_filterMap.mpr ⟨x, hx, e⟩), List.mem_filterMap.mpr ⟨x, hx, by rw [e]; rfl⟩, fun p hp ep => ?_⟩
  obtain ⟨y, hy, e2⟩ := List.mem_filterMap.mp hp
  cases e3 : PySem.W.tabIn K y with
  | none => rw [e3] at e2; cases e2
  | some q =>
    rw [e3] at e2
    cases e2
    rw [tabB_uni (of_decide_eq_true h2) hx hy e e3 ep.symm]
theorem tabs_free {K : PySem.W.Frag} {xs : List Str} (h : tabB xs K = true) : ∀ p ∈ csOf K xs, K.lookup p.2 = none := fun p hp => by
  obtain ⟨_, h⟩ := ba h
  obtain ⟨_, h3⟩ := ba h
  obtain ⟨x, hx, e⟩ := List.mem_filterMap.mp hp
  have := List.all_eq_true.mp h3 x hx
  rw [e] at this
  simpa using this
theorem tabs_in {K : PySem.W.Frag} {xs : List Str} : ∀ p ∈ tabsOf K xs, p.1 ∈ (csOf K xs).map (·.2) := fun p hp => by
  obtain ⟨x, hx, e⟩ := List.mem_filterMap.mp hp
  cases e2 : PySem.W.tabIn K x with
  | none => rw [e2] at e; cases e
  | some q =>
    rw [e2] at e
    cases e
    exact List.mem_map.mpr ⟨q, List.mem_filterMap.mpr ⟨x, hx, e2⟩, rfl⟩
end Mi

set_option Elab.async false
set_option linter.all false
set_option maxRecDepth 100000
set_option maxHeartbeats 4000000
/-! MiEw: plain reckoning with what may raise. -/
namespace Mi
open PySem PySem.Spec PyProof.Rows L2
section
variable {ρ : Env} {u : PuS} {P : RX → PuS → Prop} {PS : Fl → PuS → Prop} {m : ME} {x a b : MX} {t : MT} {ms : MA} {i n : Nat} {k f ck : Str} {mb : MS} {ds : List D} {mf : List D → M RX}
@[simp] theorem ok_fnX : Ok (mFnX n mb ds) u P ↔ Ok (mb (startE n ds)) u fun f u1 => match f with
    | .rt d => P (.ok d) u1
    | .nx _ => P (.ok .non) u1
    | .ex _ k ks es => P (.er k ks es) u1
    | _ => False := by
  constructor
  · rintro ⟨a, u', e, p⟩
    unfold mFnX at e
    cases e1 : mb (startE n ds) u with
    | none => rw [e1] at e; cases e
    | some y =>
      obtain ⟨fl, u1⟩ := y
      rw [e1] at e
      refine ⟨fl, u1, e1, ?_⟩
      cases fl with
      | rt d => cases e; exact p
      | nx ρ' => cases e; exact p
      | ex ρ' k ks es => cases e; exact p
      | _ => cases e
  · rintro ⟨fl, u1, e, p⟩
    cases fl with
    | rt d => exact ⟨_, u1, by unfold mFnX; rw [e], p⟩
    | nx ρ' => exact ⟨_, u1, by unfold mFnX; rw [e], p⟩
    | ex ρ' k ks es => exact ⟨_, u1, by unfold mFnX; rw [e], p⟩
    | _ => exact False.elim p
@[simp] theorem ok_raise : Ok (mRaise k f ms ρ) u PS ↔ Ok (ms ρ) u fun ds u1 => PS (.ex ρ k [f] ds) u1 := by
  unfold mRaise; simp only [ok_bind, ok_pure]
@[simp] theorem ok_callX : Ok (mCallX n mf ms ρ) u P ↔ Ok (ms ρ) u fun ds u1 => ds.length = n ∧ Ok (mf ds) u1 P := by
  unfold mCallX
  rw [ok_bind]
  constructor
  · refine fun h => h.mono fun ds u1 z => ?_
    by_cases hl : ds.length = n
    · rw [if_pos hl] at z; exact ⟨hl, z⟩
    · rw [if_neg hl] at z; exact (ok_none.mp z).elim
  · refine fun h => h.mono fun ds u1 z => ?_
    rw [if_pos z.1]; exact z.2
theorem ok_mX {g : D → Env → M Fl} : Ok (mX x g ρ) u PS ↔ Ok (x ρ) u fun r u1 => match r with
    | .ok d => Ok (g d ρ) u1 PS
    | .er c ks ds => PS (.ex ρ c ks ds) u1 := by
  unfold mX
  rw [ok_bind]
  constructor <;> refine fun h => h.mono fun r u1 z => ?_
  · cases r with
    | ok d => exact z
    | er c ks ds => exact ok_pure.mp z
  · cases r with
    | ok d => exact z
    | er c ks ds => exact ok_pure.mpr z
/-- what is wished of a raising part, split -/
def OnX (g : D → PuS → Prop) (e : Str → List Str → List D → PuS → Prop) : RX → PuS → Prop := fun r u => match r with
  | .ok d => g d u
  | .er c ks ds => e c ks ds u
@[simp] theorem onX_ok {g : D → PuS → Prop} {e : Str → List Str → List D → PuS → Prop} {d : D} : OnX g e (.ok d) u ↔ g d u := Iff.rfl
@[simp] theorem onX_er {g : D → PuS → Prop} {e : Str → List Str → List D → PuS → Prop} {c : Str} {ks : List Str} {ds : List D} : OnX g e (.er c ks ds) u ↔ e c ks ds u := Iff.rfl
@[simp] theorem ok_setX : Ok (mSetX i x ρ) u PS ↔ Ok (x ρ) u (OnX (fun d u1 => PS (.nx (ρ.set i (.sh d))) u1) fun c ks ds u1 => PS (.ex ρ c ks ds) u1) := by
  unfold mSetX
  rw [ok_mX]
  constructor <;> refine fun h => h.mono fun r u1 z => ?_
  · cases r with
    | ok d =>
      have z2 : Ok (M.pure _) u1 PS := z
      rw [ok_pure] at z2
      exact z2
    | er c ks ds => exact z
  · cases r with
    | ok d => exact ok_pure.mpr z
    | er c ks ds => exact z
end
end Mi



set_option Elab.async false
set_option linter.all false
set_option maxRecDepth 100000
set_option maxHeartbeats 4000000
/-! MiE1: try with one clause of one class. -/
namespace Mi
open PySem PySem.Spec PyProof.Rows L2 LamX
variable [TB : Tabl]
section
variable {X : Cx} {x1 n : Str} {c1 : Value} {i : Nat} {body suite : List Stmt} {b₀ : Stmt} {p1 pos pos' : Pos} {tb : WX → TS} {ts : Addr → Obj → TS}
theorem ps_try1 (hs : X.stack = X.env :: X.outer) (hf : X.env.frame = some X.env.locals) (hN : X.N.Nodup) (hi : X.N[i]? = some n) (hln : X.env.kindOf n = some .local) (k1 : Names X x1 c1)
    (hex : X.ex = []) (hb : ∀ (W : WX) (pn : List (Addr × Obj)) (xe : Value → Shared → Prop), L2N.Takes (X.tr pn xe) W → PSs (X.tr pn xe) body (tb W))
    (hsu : ∀ (a : Addr) (oe : Obj) (pn : List (Addr × Obj)), PSs (X.suite a pn) (b₀ :: suite) (ts a oe)) :
    PS X (.Try body [.ExceptHandler (some (.Name x1 p1)) (some n) (b₀ :: suite) pos'] [] [] pos) (fun D σ H => tb (wTry X.K [c1] i ts D) D σ H) := by
  refine ⟨fun pins s σ H D I h => ?_⟩
  have ok := I.ok
  have hfrm : X.A.frames = some (X.env :: X.outer) := by rw [ok.frames, hs]
  have hlc : Loc X.env.scope n := .inl hln
  refine wpAny_Try_except (wpAny_mono ((hb (wTry X.K [c1] i ts D) (X.pn ++ pins) _ (fun u s' xx => ?_)).run [] s σ H D (I.toTry _) h) (fun f s1 hsp => ?_) (fun e s1 he => he))
  · obtain ⟨a, B, sI, pins', σ', H', cls, d, rfl, J', nb, up, sky, na, os, ag, hb1, hyes⟩ := xx
    have J : L2.Inv X pins σ' H' sI := J'.ofTry ok
    have air : Sky B (X.env :: X.outer) a (L2N.Zn cls d) X.env.locals s'.heap := by rw [← hs]; exact sky
    show wpAny (model X.prog X.w) X.A (noteFrame (.ref a) X.env) _ _ _
    refine L2N.Sky.land L2N.Zn.steady hfrm hf air fun h3 fa ua => ?_
    obtain ⟨oa, va, ha3, hza, hda⟩ := fa.there
    have J3 : L2.Inv X pins σ' H' { s' with heap := h3 } := J.landed nb fa.1 (up.trans ua) os ag
    have offF : ∀ {g : Heap} {o : Obj} {vs : Array Value}, g.FunFrames B (X.env :: X.outer) → g.get? a = some o → o.data = .fields vs → a ∉ frs (X.env :: X.outer) := fun ff e dd hm => by
      obtain ⟨_, o', e', hnf⟩ := ff.mem hm
      rw [e] at e'; cases e'
      exact hnf _ dd
    have nF0 := offF fa.2.2.1 ha3 hda
    have nI : sI.heap.get? a = none := by
      cases q : sI.heap.get? a with
      | none => rfl
      | some o =>
        have z := nb a o q (by rw [hs]; exact nF0)
        rw [fa.2.1] at z; cases z
    have n0 : X.s_0.heap.get? a = none := by
      cases q : X.s_0.heap.get? a with
      | none => rfl
      | some o =>
        obtain ⟨o', z⟩ := J.base.there a o q (by rw [hex]; simp)
        rw [nI] at z; cases z
    have nL : a ≠ X.env.locals := fun z => nF0 (List.mem_filterMap.mpr ⟨X.env, List.mem_cons_self, by rw [hf, z]⟩)
    have nC : ∀ x c, X.env.cells.lookup x = some c → c ≠ a := fun x c e z => by
      obtain ⟨v, o, ho, hd⟩ := J3.cell x c e
      rw [z] at ho
      have ho' : h3.get? a = some o := ho
      rw [ha3] at ho'
      cases ho'
      rw [hda] at hd
      cases hd
    have nP : ∀ p ∈ X.pn ++ pins, p.1 ≠ a := fun p hp z => by
      have := (J.pin p hp).1
      rw [z, nI] at this; cases this
    have S3 : L2.Inv (X.suite a (X.pn ++ pins)) [] σ' H' { s' with heap := h3 } := Inv.inSuite J3
    have nm : ∀ {x : Str} {c : Value} {p : Pos} {Q : Value → Shared → Prop} {E : Value → Shared → Prop}, Names X x c → Q c { s' with heap := h3 } → wpAny (model X.prog X.w) (X.A.mark (some (.ref a))) (eval (.Name x p) X.env) Q E { s' with heap := h3 } := fun {x c p Q E} hc q => by
      obtain ⟨hg, hdbg, hm | ⟨hm, hv, hnn⟩⟩ := hc
      · exact ld_glob (X := X.suite a (X.pn ++ pins)) S3 hg hm q hdbg
      · exact ld_blt (X := X.suite a (X.pn ++ pins)) S3 hg hm hv q hnn hdbg
    refine wpAny_handleBy_cons (codeAny_handlers_test ?_) (by intro q; cases q)
    have kp : ∀ q o, h3.get? q = some o → h3.get? q = some o := fun _ _ z => z
    have LT : PySem.W.Looks (model X.prog X.w) h3 (typeOf (.ref a)) cls := fun A Q E s k q => wpAny_typeOf_ref (k _ _ ha3) (by rw [hza.1]; exact q)
    obtain ⟨b1, d1, x1', y1', z1'⟩ := PySem.W.exmAny_cons hb1
    have hd1 : d1 = false := by cases y1'; rfl
    have hb1' : b1 = true := by rw [hd1] at z1'; simpa using z1'.symm
    rw [hb1'] at x1'
    refine nm k1 ?_
    refine (PySem.W.exm_one (M := model X.prog X.w) J3.kIn LT x1').here ?_
    refine codeAny_handlers_suite_as ?_
    refine PySem.HandSPX.lands_againZ fa fun h4 fb ub => ?_
    obtain ⟨ob, vb, hb4, hzb, hdb4⟩ := fb.there
    have J4 := J.landed (s' := { s' with heap := h4 }) nb fb.1 ((up.trans ua).trans ub) os ag
    have S4 := Inv.inSuite (a := a) (Inv.known J4 hb4 na n0 nL nC nP)
    refine store_ok (X := X.suite a (X.pn ++ pins)) (v := .ref a) S4 hN hi hlc rfl (fun s5 S5 => ?_) (.inr hln)
    refine wpAny_mono ((hsu a ob (X.pn ++ pins)).run [] s5 _ _ _ S5 (hyes a ob na hzb ⟨_, hdb4⟩)) (fun f s6 hsp => ?_) (fun _ _ z => False.elim z)
    have over : ∀ {σ6 : L2.St} {H6 : Hp} {Q : Shared → Prop}, L2.Inv (X.suite a (X.pn ++ pins)) [] σ6 H6 s6 → (∀ s7, L2.Inv X pins (σ6.set i none) H6 s7 → Q s7) →
        wpAny (model X.prog X.w) X.A (do bindName X.env n .none; unbindBehindTheSuite X.env n pos') (fun _ s7 => Q s7) X.xe s6 := fun S6 hq => gone_ok (Inv.outSuite S6 ok) hN hi hln hq
    cases f with
    | next => obtain ⟨σ6, H6, S6, q6⟩ := hsp; exact over S6 fun s7 J7 => ⟨_, _, J7, q6⟩
    | brk => obtain ⟨σ6, H6, S6, q6⟩ := hsp; exact over S6 fun s7 J7 => ⟨_, _, J7, q6⟩
    | cont => obtain ⟨σ6, H6, S6, q6⟩ := hsp; exact over S6 fun s7 J7 => ⟨_, _, J7, q6⟩
    | ret u => obtain ⟨v6, σ6, H6, S6, r6, q6⟩ := hsp; exact over S6 fun s7 J7 => ⟨_, _, _, J7, r6, q6⟩
  · cases f with
    | next =>
      obtain ⟨σ', H', J', q⟩ := hsp
      exact wpAny_execs_nil ⟨σ', H', J'.ofTry ok, q⟩
    | brk => obtain ⟨σ', H', J', q⟩ := hsp; exact ⟨σ', H', J'.ofTry ok, q⟩
    | cont => obtain ⟨σ', H', J', q⟩ := hsp; exact ⟨σ', H', J'.ofTry ok, q⟩
    | ret u => obtain ⟨v, σ', H', J', r, q⟩ := hsp; exact ⟨v, σ', H', J'.ofTry ok, r, q⟩
end
section
variable {X : Cx} {c : Cf} {x1 n y a q : Str} {c1 : Value} {i j : Nat} {suite : List Stmt} {b₀ : Stmt} {p1 pos pos' py pa pb pas : Pos} {f c' : Addr} {act : M RX} {tl : XK → Hp → VK → Prop} {ok : Str → Bool} {ms : MS}
theorem dTryAct1 (hs : X.stack = X.env :: X.outer) (hf : X.env.frame = some X.env.locals) (hN : X.N.Nodup) (hi : X.N[i]? = some y) (hy : Loc X.env.scope y) (hyf : X.fn y = true ∨ X.env.scope.names.lookup y = some .local) (hsw : ∀ pn xe, swapsWith (.Call (.Name a pa) [] [] pb) (some (.Name y py)) pas.line (X.tr pn xe).env = pure false)
    (hj : X.N[j]? = some n) (hln : X.env.kindOf n = some .local) (k1 : Names X x1 c1) (hex : X.ex = [])
    (hact : ∀ (W : WX) (pn : List (Addr × Obj)) (xe : Value → Shared → Prop) (p1 p2 : Pos), L2N.Takes (X.tr pn xe) W → PE (X.tr pn xe) (.Call (.Name a p1) [] [] p2) (fun σZ HZ Q => σZ[0]? = some (some (.ref f)) ∧ HZ c' = some (CodeO c' q) ∧ tl (fun cls d H' => W cls d σZ H') HZ Q))
    (htl : ∀ E Q F H u, Stp c.p c.F0 c.H0 F H → Gd c.p u F H → After c.p F H (act u) (resX c.W c.p Q E) → tl E H Q)
    (hok : ∀ k, ok k = true → PySem.W.exmAny X.K (.ref (c.W.cl k)) [c1] = some true)
    (hsu : ∀ (a : Addr) (oe : Obj) (pn : List (Addr × Obj)) (F1 H1 : Hp), HotO (X.suite a pn).A H1 c.p a oe → DB (X.suite a pn) (c.hot F1 H1) (b₀ :: suite) ms) :
    PS X (.Try [.Assign [.Name y py] (.Call (.Name a pa) [] [] pb) pas] [.ExceptHandler (some (.Name x1 p1)) (some n) (b₀ :: suite) pos'] [] [] pos)
      (fun Dn σ H => σ[0]? = some (some (.ref f)) ∧ H c' = some (CodeO c' q) ∧ rdS c (mTryAct i j act ok ms) Dn σ H) := by
  have T := ps_try1 (X := X) (x1 := x1) (n := n) (i := j) (p1 := p1) (pos := pos) (pos' := pos') (suite := suite) (b₀ := b₀) (body := [.Assign [.Name y py] (.Call (.Name a pa) [] [] pb) pas])
    (tb := fun W Dn σ H => σ[0]? = some (some (V.ref f)) ∧ H c' = some (CodeO c' q) ∧ tl (fun cls d H' => W cls d σ H') H fun v H' => Dn.nx (σ.set i (some v)) H')
    (ts := fun a oe Dn σ H => ∃ F1 H1, H1 a = some (.frz oe (anyO a oe)) ∧ a ≠ c.p ∧ (∃ vs, oe.data = .fields vs ∧ vs[2]? = some .none) ∧ rdS (c.hot F1 H1) ms Dn σ H) hs hf hN hj hln k1 hex
    (fun W pn xe tk => pss_one ((ps_set (X := X.tr pn xe) hN hi hy (hact W pn xe pa pb tk) (hsw pn xe) hyf).imp fun Dn σ H h => h))
    (fun a oe pn => ⟨fun pins s σ H D I ⟨F1, H1, h1, h2, h3, hr⟩ => (hsu a oe pn F1 H1 ⟨rfl, h1, h2, h3⟩).run pins s σ H D I hr⟩)
  refine T.imp fun Dn σ H ⟨h0, hc, F, u, ρ, S, h⟩ => ⟨h0, hc, ?_⟩
  unfold mTryAct at h
  by_cases hno : noOwn ρ = true
  · rw [if_pos hno] at h
    refine htl _ _ F H u S.ent S.gd ((flowO.after S h).imp fun r u1 F1 H1 _ s1 g1 h1 => ?_)
    cases r with
    | ok d => exact fun v rv => h1.2 _ F1 H1 (Same.refl _) (h1.1.set rv)
    | er k ks ds =>
      intro cls od er
      have h2 : flowO c F1 Dn ((if ok k = true then M.bind (ms (ρ.set j (.sh (.exc k ks ds)))) (fun f => match f with
        | .rt d => M.pure (.rt d)
        | _ => lft none) else lft none) u1) := h1.2
      by_cases hk : ok k = true
      · rw [if_pos hk] at h2
        obtain ⟨rfl, hkc, vs, hlk, hr, hdx⟩ := er
        refine ⟨hok k hk, fun a oe hn hz hdd => ?_⟩
        obtain ⟨fs, hfs⟩ := hdd
        have g2 : Gd c.p u1 (upd F1 a (.frz oe (anyO a oe))) (upd H1 a (.frz oe (anyO a oe))) := g1.new hn
        have s2 : Stp c.p F1 H1 (upd F1 a (.frz oe (anyO a oe))) (upd H1 a (.frz oe (anyO a oe))) := Stp.new g1 hn
        have S2 := h1.1.step s2 g2
        have hap : a ≠ c.p := fun z => g1.ne (z ▸ hn)
        have hrep : Rep c.W c.p (upd F1 a (.frz oe (anyO a oe))) (.ref a) (.exc k ks ds) := by
          have hr2 := hr.mono s2.ef
          rcases hdx with ⟨dx, hod, hfx⟩ | ⟨hod, hks⟩
          · exact .exc (dx := dx) hkc upd_same hz.1 hfs (hz.2.2 fs hfs) (.inl ⟨hz.2.1.trans hod, s2.ef _ _ hfx⟩) hlk hr2.1 hr2.2
          · exact .exc (dx := 0) hkc upd_same hz.1 hfs (hz.2.2 fs hfs) (.inr ⟨hz.2.1.trans hod, hks⟩) hlk hr2.1 hr2.2
        refine ⟨_, _, upd_same, hap, ⟨fs, hfs, hz.2.2 fs hfs⟩, _, u1, _, (S2.set (i := j) hrep).rebase (noOwn_set hno), ?_⟩
        unfold M.bind at h2
        cases e : ms (ρ.set j (.sh (.exc k ks ds))) u1 with
        | none => rw [e] at h2; exact h2
        | some yy =>
          obtain ⟨fl, u2⟩ := yy
          rw [e] at h2
          cases fl with
          | rt d => exact fun v F' H' st g' rv => h2 v F' H' (S2.ent.trans S2.gd.ne st) g' rv
          | _ => exact False.elim h2
      · rw [if_neg hk] at h2; exact False.elim h2
  · rw [if_neg hno] at h; exact False.elim h
end
end Mi

set_option Elab.async false
set_option linter.all false
set_option maxRecDepth 100000
set_option maxHeartbeats 4000000
/-! MiE2: caught errors asked for just some classes. -/
namespace Mi
open PySem PySem.Spec PyProof.Rows L2 LamX He
variable [TB : Tabl]
structure IsxOk2 (W : Wo) (es cl : List Str) : Prop where
  ek : ∀ k ∈ es, ExK W.K (W.cl k)
  own : ∀ k ∈ es, ∀ c ∈ cl, PySem.W.kitOne W.K (.ref (W.cl k)) (.ref (W.cl c)) = some (exS k c)
  py : ∀ k ∈ es, ∀ n ∈ pyE, PySem.W.kitOne W.K (.ref (W.cl k)) (.type n) = some (decide (exP k = n))
  no : ∀ k ∈ es, ∀ n ∈ ["int", "bool", "str", "tuple", "list"], PySem.W.kitOne W.K (.ref (W.cl k)) (.type n) = some false
def isx2D (es cl : List Str) : List D → Option D := fun ds => match ds with
  | [.exc k _ _, .ecl c] => if k ∈ es ∧ c ∈ cl then some (.bl (exS k c)) else none
  | [.exc k _ _, .ty n] => if k ∈ es then (if n ∈ pyE then some (.bl (decide (exP k = n))) else if n ∈ ["int", "bool", "str", "tuple", "list"] then some (.bl false) else none) else none
  | ds => isiD ds
theorem m_isx2 {W : Wo} {es cl : List Str} (I : IsiOk W) (J : IsxOk2 W es cl) : CallM W (fun xs H Q => rIsi W.K xs H Q ∨ rIsE W.K xs H Q) (isx2D es cl) := by
  intro p F H u xs as Q gd r h
  obtain ⟨d, e, _⟩ := lft_some h
  have e0 := e
  unfold isx2D at e
  have er : ∀ {k ks ds v}, Rep W p F v (.exc k ks ds) → ∃ a oe u, v = .ref a ∧ H a = some (.frz oe u) ∧ oe.cls = .ref (W.cl k) ∧ (∃ fs, oe.data = .fields fs) ∧ ((∃ dx fs, oe.dict = some dx ∧ H dx = some (.xd fs)) ∨ oe.dict = none) := fun {k ks ds v} rv => by
    obtain ⟨_, a, oe, u, fs, vs, rfl, h1, h2, h3, _, _, _, h4⟩ := rv.exc_
    exact ⟨a, oe, u, rfl, gd.ex _ _ h1, h2, ⟨fs, h3⟩, h4.imp (fun ⟨dx, z1, z2⟩ => ⟨dx, _, z1, gd.ex _ _ z2⟩) fun z => z.1⟩
  split at e
  · rename_i k ks ds c
    split at e
    · rename_i hk
      cases e
      obtain ⟨v, w, rfl, rv, rw⟩ := r.two
      obtain ⟨a, oe, u', rfl, h1, h2, h3, h4⟩ := er rv
      cases rw with
      | ecl c hc => exact .inr ⟨a, oe, u', _, _, .ref (W.cl c), _, rfl, h1, h2, h3, h4, J.ek k hk.1, fun u z => z, J.own k hk.1 c hk.2, OpM.ret gd h e0 (.bl _)⟩
    · cases e
  · rename_i k ks ds n
    split at e
    · rename_i hk
      obtain ⟨v, w, rfl, rv, rw⟩ := r.two
      obtain ⟨a, oe, u', rfl, h1, h2, h3, h4⟩ := er rv
      obtain rfl := rw.ty_
      split at e
      · rename_i hn
        cases e
        exact .inr ⟨a, oe, u', _, _, .type n, _, rfl, h1, h2, h3, h4, J.ek k hk, fun u z => z, J.py k hk n hn, OpM.ret gd h e0 (.bl _)⟩
      · split at e
        · rename_i hn
          cases e
          exact .inr ⟨a, oe, u', _, _, .type n, _, rfl, h1, h2, h3, h4, J.ek k hk, fun u z => z, J.no k hk n hn, OpM.ret gd h e0 (.bl _)⟩
        · cases e
    · cases e
  · exact .inl (m_isi I p F H u xs _ Q gd r (by rw [e]; rw [e0] at h; exact h))
theorem dExf2 {X : Cx} {c : Cf} {e : Expr} {m : ME} {pos : Pos} {es cl fs : List Str} {f : Str} (J : IsxOk2 c.W es cl) (hno : ∀ k ∈ es, PySem.W.findIn X.K (.ref (c.W.cl k)) f = some none) (hK : X.K = c.W.K) (he : DE X c e m) (hb : attributeBase e f X.env (eval e X.env) = eval e X.env := by rfl) : DE X c (.Attribute e f pos) (mUn (exfD es fs f) m) := by
  refine ⟨fun pins s σ H Q I ⟨F, u, ρ, S, h⟩ => attr_of hb (thn (he.run pins s σ H (fun v H1 => ∃ a oe u' D dx v', v = .ref a ∧ H1 a = some (.frz oe u') ∧ oe.cls = .ref D ∧ (∃ gs, oe.data = .fields gs) ∧ oe.dict = some dx ∧ H1 dx = some (.xd [(f, v')]) ∧ ExK X.K D ∧ PySem.W.findIn X.K (.ref D) f = some none ∧ Q v' H1) I ⟨F, u, ρ, S, (After.split h).imp fun d u1 F1 H1 _ s1 g1 h1 v rv => ?_⟩) fun w s1 ⟨x, H1, I1, rx, a, oe, u', D, dx, v', ex, ea, ec, ef, ed, exd, ek, en, q⟩ => ?_)⟩
  · obtain ⟨z, e1, h2⟩ := lft_some h1
    unfold exfD at e1
    split at e1
    · rename_i k ks ds _h
      split at e1
      · rename_i hh
        obtain ⟨hk, rfl, hf⟩ := hh
        obtain ⟨_, a, oe, u', gs, vs, rfl, h3, h4, h5, _, lk, rs, h6⟩ := rv.exc_
        obtain ⟨v', hv', rv'⟩ := rs.get e1
        obtain ⟨dx, hd1, hd2⟩ := h6.resolve_right fun z => by cases z.2
        have hvs : vs = [v'] := by
          match vs, lk, hv' with
          | [w], _, hw => cases hw; rfl
        subst hvs
        exact ⟨a, oe, u', _, dx, v', rfl, g1.ex _ _ h3, h4, ⟨gs, h5⟩, hd1, g1.ex _ _ hd2, by rw [hK]; exact J.ek k hk, hno k hk, After.now g1 h2 v' rv'⟩
      · cases e1
    · cases e1
  · subst ex
    obtain rfl : w = Value.ref a := rx
    obtain ⟨mA, hns, hr⟩ := I1.hok dx _ exd
    obtain ⟨od, ho, hl⟩ := lookIn_ns hns
    obtain ⟨u, hu, ru⟩ := RelO.some_of (v := v') (o := mA f) (by have := hr f; rwa [show List.lookup f [(f, v')] = some v' by simp [List.lookup]] at this)
    obtain ⟨gs, ef⟩ := ef
    have J : PySem.W.InstAt s1.heap a oe D (some od) := ⟨(I1.hok a _ ea).1, ec, by unfold PySem.W.notCls; rw [ef], by rw [ed]; exact ho⟩
    exact HandSPX.exc_get I1.kIn J ek.ga ek.gg ek.be (PySem.W.findObj_own ek.hd en rfl (by rw [hl, hu])) (handed_of ru) ⟨v', H1, I1.tok _, ru, q⟩
theorem isx_ok2 {cs es cl : List Str} {K : PySem.W.Frag} (h : isxB2 es cl K = true) : IsxOk2 (WW cs K) es cl := by
  obtain ⟨h1, h⟩ := ba h
  obtain ⟨h2, h⟩ := ba h
  obtain ⟨h3, h4⟩ := ba h
  exact ⟨fun k hk => exk_ok (List.all_eq_true.mp h1 k hk), fun k hk c hc => of_decide_eq_true (List.all_eq_true.mp (List.all_eq_true.mp h2 k hk) c hc), fun k hk n hn => of_decide_eq_true (List.all_eq_true.mp (List.all_eq_true.mp h3 k hk) n hn),
    fun k hk n hn => of_decide_eq_true (List.all_eq_true.mp (List.all_eq_true.mp h4 k hk) n hn)⟩
end Mi

set_option Elab.async false
set_option linter.all false
set_option maxRecDepth 100000
set_option maxHeartbeats 4000000
namespace Sh
open PySem PySem.Spec PyProof.Rows L2 Mi He
@[reducible] def mb_is_integer : MS := mRet (mAndV (mCB isiD (mCons (mVar 0) (mCons (mC (.ty "int")) (mNil)))) (mNotV (mCB isiD (mCons (mVar 0) (mCons (mC (.ty "bool")) (mNil))))))
def mf_is_integer : List D → M D := mFn 1 mb_is_integer
@[reducible] def mb_is_natural : MS := mRet (mAndV (mCall 1 mf_is_integer (mCons (mVar 0) (mNil))) (mBin geD (mVar 0) (mC (.int 0))))
def mf_is_natural : List D → M D := mFn 1 mb_is_natural
@[reducible] def lb_wrong_number_1 : MS := mSeq (mIfS (mOr (mNot (mB (mCall 1 mf_is_natural (mCons (mVar 2) (mNil))))) (mOr (mB (mBin eqMD (mVar 2) (mC (.int 0)))) (mB (mBin eqMD (mVar 1) (mC (.int 24)))))) (mRet (mVar 1)) (mNext)) (mIfS (mAnd (mB (mBin gtD (mVar 1) (mC (.int 0)))) (mB (mBin gtD (mVar 2) (mBin ixD (mVar 0) (mBin subD (mVar 1) (mC (.int 1))))))) (mRet (mVar 1)) (mNext))
@[reducible] def mb_wrong_number : MS := mSeq (mFor (mIof enumA (mCons (mVar 0) (mNil))) (mGt 2 (mGcons (mGn 1) (mGcons (mGn 2) (mGnil)))) (lb_wrong_number_1)) (mRet (mC .non))
def mf_wrong_number : List D → M D := mFn 3 mb_wrong_number
@[reducible] def mb_Form___init__ : MS := mSeq (mIfS (mNot (mB (mCB isiD (mCons (mVar 1) (mCons (mC (.ty "tuple")) (mNil)))))) (mStuck) (mNext)) (mSeq (mSet 2 (mCall 1 mf_wrong_number (mCons (mVar 1) (mNil)))) (mSeq (mIfS (mB (mBin isntD (mVar 2) (mC .non))) (mStuck) (mNext)) (mSelfSet 0 "Form" "numbers" (mVar 1))))
def mf_Form___init__ : List D → M (List Str × List D) := mInit 3 "Form" mb_Form___init__
@[reducible] def ce_least_row_1 : ME := mUn negD (mBin fdivD (mBin subD (mVar 2) (mBin ixD (mVar 0) (mVar 6))) (mBin addD (mBin subD (mVar 6) (mVar 3)) (mC (.int 1))))
@[reducible] def lb_least_row_2 : MS := mSeq (mSet 4 (mFz (mBorLs [] (mLcO [6] (mIof rng2 (mCons (mVar 3) (mCons (mCB lenD (mCons (mVar 0) (mNil))) (mNil)))) (mGn 6) (mYes) (ce_least_row_1))))) (mSeq (mSet 5 (mCB maxD (mCons (mVar 4) (mNil)))) (mSeq (mIfS (mB (mBin leD (mVar 5) (mC (.int 0)))) (mBrk) (mNext)) (mSeq (mApp 1 (mVar 5)) (mSet 2 (mBin addD (mVar 2) (mVar 5))))))
@[reducible] def mb_least_row : MS := mSeq (mSetO 1 (mLstO (mNil))) (mSeq (mSet 2 (mC (.int 0))) (mSeq (mFor (mIof rng1 (mCons (mCB lenD (mCons (mVar 0) (mNil))) (mNil))) (mGn 3) (lb_least_row_2)) (mFrz 1 (mRet (mCB tupD (mCons (mVar 1) (mNil)))))))
def mf_least_row : List D → M D := mFn 7 mb_least_row
@[reducible] def mb_Form_row : MS := mRet (mUn (fldD "Form" ["numbers"] 0) (mVar 0))
def mf_Form_row : List D → M D := mFn 1 mb_Form_row
@[reducible] def lb_sums_of_1 : MS := mApp 1 (mBin addD (mIxO 1 (mUn negD (mC (.int 1)))) (mVar 2))
@[reducible] def mb_sums_of : MS := mSeq (mSetO 1 (mLstO (mCons (mC (.int 0)) (mNil)))) (mSeq (mFor (mIany (mVar 0)) (mGn 2) (lb_sums_of_1)) (mFrz 1 (mRet (mVar 1))))
def mf_sums_of : List D → M D := mFn 3 mb_sums_of
end Sh

set_option Elab.async false
set_option linter.all false
set_option maxRecDepth 100000
set_option maxHeartbeats 4000000
namespace Sh
open PySem PySem.Spec PyProof.Rows L2 Mi He
@[reducible] def mb_Card___init__ : MS := mSeq (mIfS (mNot (mB (mCall 1 mf_is_natural (mCons (mVar 1) (mNil))))) (mStuck) (mNext)) (mSeq (mIfS (mOr (mNot (mB (mCall 1 mf_is_natural (mCons (mVar 2) (mNil))))) (mB (mBin eqMD (mVar 2) (mC (.int 0))))) (mStuck) (mNext)) (mSeq (mIfS (mB (mBin gtD (mVar 1) (mBin mulD (mC (.int 24)) (mVar 2)))) (mStuck) (mNext)) (mSeq (mSelfSet 0 "Card" "held" (mVar 1)) (mSelfSet 0 "Card" "daily" (mVar 2)))))
def mf_Card___init__ : List D → M (List Str × List D) := mInit 3 "Card" mb_Card___init__
@[reducible] def mb_worth : MS := mRet (mCB minD (mCons (mVar 0) (mCons (mBin mulD (mVar 2) (mVar 1)) (mNil))))
def mf_worth : List D → M D := mFn 3 mb_worth
end Sh

set_option Elab.async false
set_option linter.all false
set_option maxRecDepth 100000
set_option maxHeartbeats 4000000
namespace Sh
open PySem PySem.Spec PyProof.Rows L2 Mi He
@[reducible] def mb_check_course : MS := mIfS (mNot (mB (mCB isiD (mCons (mVar 0) (mCons (mC (.cls "Course")) (mNil)))))) (mStuck) (mNext)
def mf_check_course : List D → M D := mFn 1 mb_check_course
@[reducible] def mb_Card_limit : MS := mRet (mUn (fldD "Card" ["held", "daily"] 1) (mVar 0))
def mf_Card_limit : List D → M D := mFn 1 mb_Card_limit
@[reducible] def mb_Card_balance : MS := mRet (mUn (fldD "Card" ["held", "daily"] 0) (mVar 0))
def mf_Card_balance : List D → M D := mFn 1 mb_Card_balance
@[reducible] def ce_asked_sets_1 : ME := mTup (mCons (mBin subD (mVar 6) (mCall 3 mf_worth (mCons (mSelf "Card" mf_Card_balance (mVar 3)) (mCons (mSelf "Card" mf_Card_limit (mVar 3)) (mCons (mCB lenD (mCons (mVar 7) (mNil))) (mNil)))))) (mCons (mVar 7) (mNil)))
@[reducible] def ce_asked_sets_2 : ME := mTup (mCons (mBin addD (mVar 6) (mVar 3)) (mCons (mBin addD (mTup (mCons (mVar 2) (mNil))) (mVar 7)) (mNil)))
@[reducible] def ce_asked_sets_3 : ME := mIf (mB (mBin geD (mBin ixD (mBin ixD (mVar 1) (mVar 8)) (mC (.int 0))) (mBin ixD (mBin ixD (mVar 4) (mBin subD (mVar 8) (mC (.int 1)))) (mC (.int 0))))) (mBin ixD (mVar 1) (mVar 8)) (mBin ixD (mVar 4) (mBin subD (mVar 8) (mC (.int 1))))
@[reducible] def lb_asked_sets_4 : MS := mIfS (mB (mCB isiD (mCons (mVar 3) (mCons (mC (.cls "Card")) (mNil))))) (mSet 1 (mFz (mLcO [6, 7] (mIany (mVar 1)) (mGt 2 (mGcons (mGn 6) (mGcons (mGn 7) (mGnil)))) (mYes) (ce_asked_sets_1)))) (mSeq (mSet 4 (mFz (mLcO [6, 7] (mIany (mVar 1)) (mGt 2 (mGcons (mGn 6) (mGcons (mGn 7) (mGnil)))) (mYes) (ce_asked_sets_2)))) (mSeq (mSet 5 (mFz (mBorLs [] (mLcO [8] (mIof rng2 (mCons (mC (.int 1)) (mCons (mCB lenD (mCons (mVar 1) (mNil))) (mNil)))) (mGn 8) (mYes) (ce_asked_sets_3))))) (mSet 1 (mBin addD (mBin addD (mFz (mLstO (mCons (mBin ixD (mVar 1) (mC (.int 0))) (mNil)))) (mVar 5)) (mFz (mLstO (mCons (mBin ixD (mVar 4) (mUn negD (mC (.int 1)))) (mNil))))))))
@[reducible] def mb_asked_sets : MS := mSeq (mSet 1 (mFz (mLstO (mCons (mTup (mCons (mC (.int 0)) (mCons (mTup (mNil)) (mNil)))) (mNil))))) (mSeq (mFor (mIrev (mCons (mCB enL (mCons (mVar 0) (mNil))) (mNil))) (mGt 2 (mGcons (mGn 2) (mGcons (mGn 3) (mGnil)))) (lb_asked_sets_4)) (mRet (mVar 1)))
def mf_asked_sets : List D → M D := mFn 9 mb_asked_sets
@[reducible] def mb_Course_events : MS := mRet (mUn (fldD "Course" ["passed"] 0) (mVar 0))
def mf_Course_events : List D → M D := mFn 1 mb_Course_events
@[reducible] def lb_wrong_event_1 : MS := mSeq (mIfS (mB (mCB isiD (mCons (mVar 4) (mCons (mC (.cls "Card")) (mNil))))) (mAug 2 addI (mC (.int 1))) (mIfS (mB (mCall 1 mf_is_natural (mCons (mVar 4) (mNil)))) (mAug 1 addI (mC (.int 1))) (mRet (mVar 3)))) (mIfS (mOr (mB (mBin gtD (mVar 1) (mC (.int 12)))) (mB (mBin gtD (mVar 2) (mC (.int 6))))) (mRet (mVar 3)) (mNext))
@[reducible] def mb_wrong_event : MS := mSeq (mSet 1 (mC (.int 0))) (mSeq (mSet 2 (mC (.int 0))) (mSeq (mFor (mIof enumA (mCons (mVar 0) (mNil))) (mGt 2 (mGcons (mGn 3) (mGcons (mGn 4) (mGnil)))) (lb_wrong_event_1)) (mRet (mC .non))))
def mf_wrong_event : List D → M D := mFn 5 mb_wrong_event
@[reducible] def mb_Course___init__ : MS := mSeq (mIfS (mNot (mB (mCB isiD (mCons (mVar 1) (mCons (mC (.ty "tuple")) (mNil)))))) (mStuck) (mNext)) (mSeq (mSet 2 (mCall 1 mf_wrong_event (mCons (mVar 1) (mNil)))) (mSeq (mIfS (mB (mBin isntD (mVar 2) (mC .non))) (mStuck) (mNext)) (mSelfSet 0 "Course" "passed" (mVar 1))))
def mf_Course___init__ : List D → M (List Str × List D) := mInit 3 "Course" mb_Course___init__
@[reducible] def mb_asked : MS := mRet (mSl (mFz (mLcO [1, 2] (mIany (mCall 1 mf_asked_sets (mCons (mVar 0) (mNil)))) (mGt 2 (mGcons (mGn 1) (mGcons (mGn 2) (mGnil)))) (mYes) (mVar 1))) (mOs (mC (.int 1))) (mOn))
def mf_asked : List D → M D := mFn 3 mb_asked
end Sh

set_option Elab.async false
set_option linter.all false
set_option maxRecDepth 100000
set_option maxHeartbeats 4000000
namespace Sh
open PySem PySem.Spec PyProof.Rows L2 Mi He
@[reducible] def mb_number_at : MS := mRet (mIf (mB (mBin ltD (mVar 1) (mCB lenD (mCons (mVar 0) (mNil))))) (mBin ixD (mVar 0) (mVar 1)) (mC (.int 0)))
def mf_number_at : List D → M D := mFn 2 mb_number_at
end Sh




set_option Elab.async false
set_option linter.all false
set_option maxRecDepth 100000
set_option maxHeartbeats 4000000
namespace S3
open PySem PySem.Spec PyProof.Rows L2 Mi He Sh
noncomputable section
@[reducible] def mb__law_draw : MS := mSeq (mPutP 0 (mBin addD (mIxP 0 (mC (.int 2))) (mC (.int 1))) (mC (.int 2))) (mSeq (mSet 2 (mCB int1D (mCons (mIxP 0 (mC (.int 1))) (mNil)))) (mSeq (mPutP 0 (mBin modD (mCB int1D (mCons (mBin addD (mBin addD (mBin mulD (mVar 2) (mC (.int 2862933555777941759))) (mBin mulD (mC (.int 3037000493)) (mIxP 0 (mC (.int 2))))) (mC (.int 11))) (mNil))) (mC (.int 2305843009213693951))) (mC (.int 1))) (mSeq (mIfS (mB (mBin gtD (mIxP 0 (mC (.int 0))) (mC (.int 0)))) (mSeq (mDmP 0 (mC (.int 0)) 3 (mCB dmD (mCons (mIxP 0 (mC (.int 0))) (mCons (mVar 1) (mNil))))) (mRet (mVar 3))) (mNext)) (mRet (mBin modD (mCB int1D (mCons (mBin fdivD (mBin mulD (mBin fdivD (mVar 2) (mC (.int 1048576))) (mBin addD (mBin modD (mCB int1D (mCons (mBin fdivD (mVar 2) (mC (.int 65536))) (mNil))) (mC (.int 32749))) (mC (.int 32771)))) (mC (.int 64))) (mNil))) (mVar 1))))))
def mf__law_draw : List D → M D := mFn 4 mb__law_draw
@[reducible] def mb__law_amount : MS := mSeq (mSet 1 (mCall 2 mf__law_draw (mCons (mVar 0) (mCons (mC (.int 6)) (mNil))))) (mSeq (mIfS (mB (mBin ltD (mVar 1) (mC (.int 3)))) (mRet (mCall 2 mf__law_draw (mCons (mVar 0) (mCons (mC (.int 12)) (mNil))))) (mNext)) (mSeq (mIfS (mB (mBin eqMD (mVar 1) (mC (.int 3)))) (mRet (mBin subD (mBin addD (mBin powD (mC (.int 10)) (mC (.int 9))) (mCall 2 mf__law_draw (mCons (mVar 0) (mCons (mC (.int 3)) (mNil))))) (mC (.int 1)))) (mNext)) (mSeq (mSet 2 (mBin addD (mBin mulD (mCall 2 mf__law_draw (mCons (mVar 0) (mCons (mBin powD (mC (.int 10)) (mC (.int 9))) (mNil)))) (mBin powD (mC (.int 10)) (mC (.int 9)))) (mCall 2 mf__law_draw (mCons (mVar 0) (mCons (mBin powD (mC (.int 10)) (mC (.int 9))) (mNil)))))) (mRet (mIf (mB (mBin eqMD (mVar 1) (mC (.int 4)))) (mVar 2) (mBin addD (mBin mulD (mVar 2) (mBin powD (mC (.int 10)) (mC (.int 10)))) (mCall 2 mf__law_draw (mCons (mVar 0) (mCons (mBin powD (mC (.int 10)) (mC (.int 9))) (mNil))))))))))
def mf__law_amount : List D → M D := mFn 3 mb__law_amount
@[reducible] def mb__law_card : MS := mSeq (mSet 1 (mBin addD (mC (.int 1)) (mCall 1 mf__law_amount (mCons (mVar 0) (mNil))))) (mSeq (mSet 2 (mCall 2 mf__law_draw (mCons (mVar 0) (mCons (mBin ixD (mFz (mLstO (mCons (mC (.int 3)) (mCons (mC (.int 24)) (mNil))))) (mCB intBD (mCons (mBin eqMD (mCall 2 mf__law_draw (mCons (mVar 0) (mCons (mC (.int 4)) (mNil)))) (mC (.int 0))) (mNil)))) (mNil))))) (mRet (mTup (mCons (mBin addD (mBin mulD (mVar 1) (mVar 2)) (mBin modD (mCB int1D (mCons (mCall 1 mf__law_amount (mCons (mVar 0) (mNil))) (mNil))) (mBin addD (mVar 1) (mC (.int 1))))) (mCons (mVar 1) (mNil))))))
def mf__law_card : List D → M D := mFn 3 mb__law_card
@[reducible] def mb__law_worth : MS := mRet (mCB minD (mCons (mBin ixD (mVar 0) (mC (.int 0))) (mCons (mBin mulD (mVar 1) (mBin ixD (mVar 0) (mC (.int 1)))) (mNil))))
def mf__law_worth : List D → M D := mFn 2 mb__law_worth
@[reducible] def ce__law_power_1 : ME := mCall 2 mf__law_worth (mCons (mVar 2) (mCons (mVar 1) (mNil)))
@[reducible] def mb__law_power : MS := mRet (mCB sumD (mCons (mFz (mLcO [2] (mIany (mVar 0)) (mGn 2) (mYes) (ce__law_power_1))) (mNil)))
def mf__law_power : List D → M D := mFn 3 mb__law_power
@[reducible] def ce__law_course_1 : ME := mIf (mB (mCB isiD (mCons (mVar 1) (mCons (mC (.ty "int")) (mNil))))) (mVar 1) (mMake "Card" 2 mf_Card___init__ (mCons (mBin ixD (mVar 1) (mC (.int 0))) (mCons (mBin ixD (mVar 1) (mC (.int 1))) (mNil))))
@[reducible] def mb__law_course : MS := mRet (mMake "Course" 1 mf_Course___init__ (mCons (mCB tupD (mCons (mFz (mLcO [1] (mIany (mVar 0)) (mGn 1) (mYes) (ce__law_course_1))) (mNil))) (mNil)))
def mf__law_course : List D → M D := mFn 2 mb__law_course
@[reducible] def ct__law_asks_1 : MT := mB (mCB isiD (mCons (mBin ixD (mVar 0) (mVar 10)) (mCons (mC (.ty "int")) (mNil))))
@[reducible] def ct__law_asks_2 : MT := mNot (mB (mCB isiD (mCons (mBin ixD (mVar 0) (mVar 10)) (mCons (mC (.ty "int")) (mNil)))))
@[reducible] def ce__law_asks_3 : ME := mBin subD (mCB sumD (mCons (mSl (mVar 3) (mOn) (mOs (mBin addD (mVar 10) (mC (.int 1))))) (mNil))) (mCall 2 mf__law_power (mCons (mVar 4) (mCons (mBin addD (mVar 10) (mC (.int 1))) (mNil))))
@[reducible] def ce__law_asks_4 : ME := mBin addD (mVar 8) (mFz (mLstO (mCons (mVar 6) (mNil))))
@[reducible] def lb__law_asks_5 : MS := mSet 5 (mBin addD (mVar 5) (mFz (mLcO [8] (mIany (mVar 5)) (mGn 8) (mYes) (ce__law_asks_4))))
@[reducible] def lb__law_asks_6 : MS := mSet 9 (mBin subD (mVar 9) (mCall 2 mf__law_worth (mCons (mBin ixD (mVar 0) (mVar 10)) (mCons (mCB lenD (mCons (mFz (mLcO [6] (mIany (mVar 8)) (mGn 6) (mB (mBin gtD (mVar 6) (mVar 10))) (mVar 6))) (mNil))) (mNil)))))
@[reducible] def lb__law_asks_7 : MS := mSeq (mSet 9 (mCB sumD (mCons (mFz (mLcO [6] (mIany (mVar 8)) (mGn 6) (mYes) (mBin ixD (mVar 0) (mVar 6)))) (mNil)))) (mSeq (mFor (mIany (mVar 2)) (mGn 10) (lb__law_asks_6)) (mIfS (mOr (mB (mBin isD (mIxO 7 (mCB lenD (mCons (mVar 8) (mNil)))) (mC .non))) (mB (mBin gtD (mVar 9) (mIxO 7 (mCB lenD (mCons (mVar 8) (mNil))))))) (mPut 7 (mVar 9) (mCB lenD (mCons (mVar 8) (mNil)))) (mNext)))
@[reducible] def mb__law_asks : MS := mSeq (mSet 1 (mFz (mBorLs [] (mLcO [10] (mIof rng1 (mCons (mCB lenD (mCons (mVar 0) (mNil))) (mNil))) (mGn 10) (ct__law_asks_1) (mVar 10))))) (mSeq (mSet 2 (mFz (mBorLs [] (mLcO [10] (mIof rng1 (mCons (mCB lenD (mCons (mVar 0) (mNil))) (mNil))) (mGn 10) (ct__law_asks_2) (mVar 10))))) (mSeq (mIfS (mOr (mB (mBin eqMD (mVar 1) (mFz (mLstO (mNil))))) (mOr (mB (mBin eqMD (mVar 2) (mFz (mLstO (mNil))))) (mB (mBin ltD (mBin ixD (mVar 2) (mUn negD (mC (.int 1)))) (mBin ixD (mVar 1) (mC (.int 0))))))) (mSeq (mAsg (mTup (mCons (mUn revD (mFz (mCBO (srtO false) (mCons (mFz (mLcO [10] (mIany (mVar 1)) (mGn 10) (mYes) (mBin ixD (mVar 0) (mVar 10)))) (mNil))))) (mCons (mFz (mLcO [10] (mIany (mVar 2)) (mGn 10) (mYes) (mBin ixD (mVar 0) (mVar 10)))) (mNil)))) (mGt 2 (mGcons (mGn 3) (mGcons (mGn 4) (mGnil))))) (mRet (mFz (mLcO [10] (mIof rng1 (mCons (mCB lenD (mCons (mVar 3) (mNil))) (mNil))) (mGn 10) (mYes) (ce__law_asks_3))))) (mNext)) (mSeq (mSet 5 (mFz (mLstO (mCons (mFz (mLstO (mNil))) (mNil))))) (mSeq (mFor (mIany (mVar 1)) (mGn 6) (lb__law_asks_5)) (mSeq (mSetO 7 (mBinO repO (mFz (mLstO (mCons (mC .non) (mNil)))) (mBin addD (mCB lenD (mCons (mVar 1) (mNil))) (mC (.int 1))))) (mSeq (mFor (mIany (mVar 5)) (mGn 8) (lb__law_asks_7)) (mFrz 7 (mRet (mSl (mVar 7) (mOs (mC (.int 1))) (mOn))))))))))
def mf__law_asks : List D → M D := mFn 11 mb__law_asks
@[reducible] def lbL__law_pot_1 : MS := mSet 2 (mBin modD (mCB int1D (mCons (mBin addD (mBin mulD (mVar 2) (mC (.int 69073))) (mVar 3)) (mNil))) (mC (.int 2305843009213693951)))
@[reducible] def mbL__law_pot : MS := mSeq (mSet 2 (mIf (mB (mBin ltD (mVar 1) (mCB lenD (mCons (mVar 0) (mNil))))) (mBin ixD (mVar 0) (mVar 1)) (mBin addD (mBin mulD (mC (.int 40961)) (mVar 1)) (mC (.int 977))))) (mSeq (mIfS (mB (mBin geD (mVar 1) (mCB lenD (mCons (mVar 0) (mNil))))) (mFor (mIany (mSl (mVar 0) (mOn) (mOs (mC (.int 4))))) (mGn 3) (lbL__law_pot_1)) (mNext)) (mSeq (mSet 4 (mIf (mB (mBin geD (mCB absD (mCons (mVar 2) (mNil))) (mBin powD (mC (.int 10)) (mC (.int 18))))) (mCB absD (mCons (mVar 2) (mNil))) (mC (.int 0)))) (mRetL (mLstO (mCons (mVar 4) (mCons (mBin modD (mCB int1D (mCons (mBin addD (mBin addD (mBin mulD (mVar 2) (mC (.int 6364136223846799))) (mBin mulD (mC (.int 977)) (mVar 1))) (mC (.int 12345))) (mNil))) (mC (.int 2305843009213693951))) (mCons (mC (.int 0)) (mNil))))))))
def mfL__law_pot : List D → M (List D) := mFnL 5 mbL__law_pot
end
end S3

set_option Elab.async false
set_option linter.all false
set_option maxRecDepth 100000
set_option maxHeartbeats 4000000
namespace Sh
open PySem PySem.Spec PyProof.Rows L2 Mi He
@[reducible] def lb_wrong_course_1 : MS := mIfS (mOr (mNot (mB (mCB isiD (mCons (mVar 2) (mCons (mC (.cls "Course")) (mNil)))))) (mB (mBin eqMD (mVar 1) (mC (.int 8))))) (mRet (mVar 1)) (mNext)
@[reducible] def mb_wrong_course : MS := mSeq (mFor (mIof enumA (mCons (mVar 0) (mNil))) (mGt 2 (mGcons (mGn 1) (mGcons (mGn 2) (mGnil)))) (lb_wrong_course_1)) (mRet (mC .non))
def mf_wrong_course : List D → M D := mFn 3 mb_wrong_course
@[reducible] def mb_Facts___init__ : MS := mSeq (mIfS (mNot (mB (mCB isiD (mCons (mVar 1) (mCons (mC (.ty "tuple")) (mNil)))))) (mStuck) (mNext)) (mSeq (mSet 3 (mCall 1 mf_wrong_course (mCons (mVar 1) (mNil)))) (mSeq (mIfS (mB (mBin isntD (mVar 3) (mC .non))) (mStuck) (mNext)) (mSeq (mIfS (mNot (mB (mCB isiD (mCons (mVar 2) (mCons (mC (.ty "tuple")) (mNil)))))) (mStuck) (mNext)) (mSeq (mSet 3 (mCall 1 mf_wrong_course (mCons (mVar 2) (mNil)))) (mSeq (mIfS (mB (mBin isntD (mVar 3) (mC .non))) (mStuck) (mNext)) (mSeq (mSelfSet 0 "Facts" "known" (mVar 1)) (mSelfSet 0 "Facts" "unpaid" (mVar 2))))))))
def mf_Facts___init__ : List D → M (List Str × List D) := mInit 4 "Facts" mb_Facts___init__
@[reducible] def ce_most_asked_1 : ME := mCall 1 mf_asked (mCons (mSelf "Course" mf_Course_events (mVar 3)) (mNil))
@[reducible] def ct_most_asked_2 : MT := mB (mBin ltD (mVar 5) (mCB lenD (mCons (mVar 4) (mNil))))
@[reducible] def ce_most_asked_3 : ME := mCB maxD (mCons (mFz (mLcO [4] (mIany (mVar 1)) (mGn 4) (ct_most_asked_2) (mBin ixD (mVar 4) (mVar 5)))) (mNil))
@[reducible] def mb_most_asked : MS := mSeq (mSet 1 (mFz (mLcO [3] (mIany (mVar 0)) (mGn 3) (mYes) (ce_most_asked_1)))) (mSeq (mSet 2 (mCB (maxDf 0) (mCons (mFz (mLcO [4] (mIany (mVar 1)) (mGn 4) (mYes) (mCB lenD (mCons (mVar 4) (mNil))))) (mNil)))) (mRet (mFz (mLcO [5] (mIof rng1 (mCons (mVar 2) (mNil))) (mGn 5) (mYes) (ce_most_asked_3)))))
def mf_most_asked : List D → M D := mFn 6 mb_most_asked
@[reducible] def mb_least_of : MS := mRet (mCall 1 mf_least_row (mCons (mCall 1 mf_most_asked (mCons (mVar 0) (mNil))) (mNil)))
def mf_least_of : List D → M D := mFn 1 mb_least_of
@[reducible] def mb_Facts_paid : MS := mRet (mUn (fldD "Facts" ["known", "unpaid"] 0) (mVar 0))
def mf_Facts_paid : List D → M D := mFn 1 mb_Facts_paid
@[reducible] def lb_reaches_1 : MS := mSeq (mSet 2 (mBin addD (mVar 2) (mCall 2 mf_number_at (mCons (mVar 0) (mCons (mVar 3) (mNil)))))) (mIfS (mB (mBin ltD (mVar 2) (mVar 4))) (mRet (mC (.bl false))) (mNext))
@[reducible] def mb_reaches : MS := mSeq (mSet 2 (mC (.int 0))) (mSeq (mFor (mIof enumA (mCons (mVar 1) (mNil))) (mGt 2 (mGcons (mGn 3) (mGcons (mGn 4) (mGnil)))) (lb_reaches_1)) (mRet (mC (.bl true))))
def mf_reaches : List D → M D := mFn 5 mb_reaches
@[reducible] def lb_first_paid_1 : MS := mIfS (mB (mCall 2 mf_reaches (mCons (mVar 0) (mCons (mCall 1 mf_asked (mCons (mSelf "Course" mf_Course_events (mVar 3)) (mNil))) (mNil))))) (mRet (mVar 2)) (mNext)
@[reducible] def mb_first_paid : MS := mSeq (mFor (mIof enumA (mCons (mVar 1) (mNil))) (mGt 2 (mGcons (mGn 2) (mGcons (mGn 3) (mGnil)))) (lb_first_paid_1)) (mRet (mC .non))
def mf_first_paid : List D → M D := mFn 4 mb_first_paid
@[reducible] def mb_Facts_refused : MS := mRet (mUn (fldD "Facts" ["known", "unpaid"] 1) (mVar 0))
def mf_Facts_refused : List D → M D := mFn 1 mb_Facts_refused
@[reducible] def mb_row_total : MS := mRet (mIf (mB (mBin neMD (mVar 0) (mFz (mLstO (mNil))))) (mBin ixD (mVar 0) (mUn negD (mC (.int 1)))) (mC (.int 0)))
def mf_row_total : List D → M D := mFn 1 mb_row_total
@[reducible] def ce_higher_1 : ME := mIf (mB (mBin ltD (mVar 5) (mCB lenD (mCons (mVar 1) (mNil))))) (mCB maxD (mCons (mBin ixD (mVar 4) (mVar 5)) (mCons (mBin ixD (mVar 1) (mVar 5)) (mNil)))) (mBin ixD (mVar 4) (mVar 5))
@[reducible] def mb_higher : MS := mSeq (mSet 2 (mSl (mCall 1 mf_sums_of (mCons (mVar 0) (mNil))) (mOs (mC (.int 1))) (mOn))) (mSeq (mSet 3 (mCB maxD (mCons (mCB lenD (mCons (mVar 2) (mNil))) (mCons (mCB lenD (mCons (mVar 1) (mNil))) (mNil))))) (mSeq (mSet 4 (mBin addD (mVar 2) (mBin mulD (mFz (mLstO (mCons (mCall 1 mf_row_total (mCons (mVar 2) (mNil))) (mNil)))) (mBin subD (mVar 3) (mCB lenD (mCons (mVar 2) (mNil))))))) (mRet (mCall 1 mf_least_row (mCons (mFz (mLcO [5] (mIof rng1 (mCons (mVar 3) (mNil))) (mGn 5) (mYes) (ce_higher_1))) (mNil))))))
def mf_higher : List D → M D := mFn 6 mb_higher
@[reducible] def mb_Facts_fit : MS := mRet (mBin isD (mCall 2 mf_first_paid (mCons (mCall 1 mf_least_of (mCons (mUn (fldD "Facts" ["known", "unpaid"] 0) (mVar 0)) (mNil))) (mCons (mUn (fldD "Facts" ["known", "unpaid"] 1) (mVar 0)) (mNil)))) (mC .non))
def mf_Facts_fit : List D → M D := mFn 1 mb_Facts_fit
@[reducible] def ce__law_row_pays_1 : ME := mBin leD (mBin ixD (mVar 1) (mVar 2)) (mCB sumD (mCons (mSl (mVar 0) (mOn) (mOs (mBin addD (mVar 2) (mC (.int 1))))) (mNil)))
@[reducible] def mb__law_row_pays : MS := mRet (mCB allD (mCons (mFz (mLcO [2] (mIof rng1 (mCons (mCB lenD (mCons (mVar 1) (mNil))) (mNil))) (mGn 2) (mYes) (ce__law_row_pays_1))) (mNil)))
def mf__law_row_pays : List D → M D := mFn 3 mb__law_row_pays
@[reducible] def mb_Facts_form : MS := mRet (mMake "Form" 1 mf_Form___init__ (mCons (mCall 1 mf_least_of (mCons (mUn (fldD "Facts" ["known", "unpaid"] 0) (mVar 0)) (mNil))) (mNil)))
def mf_Facts_form : List D → M D := mFn 1 mb_Facts_form
@[reducible] def mbX_fitting_row : MS := mSeq (mSet 1 (mCall 1 mf_least_of (mCons (mSelf "Facts" mf_Facts_paid (mVar 0)) (mNil)))) (mSeq (mSet 2 (mCall 2 mf_first_paid (mCons (mVar 1) (mCons (mSelf "Facts" mf_Facts_refused (mVar 0)) (mNil))))) (mSeq (mIfS (mB (mBin isntD (mVar 2) (mC .non))) (mRaise "NoWallet" "index" (mCons (mVar 2) (mNil))) (mNext)) (mRet (mVar 1))))
def mfX_fitting_row : List D → M RX := mFnX 3 mbX_fitting_row
@[reducible] def mbX_Facts_answer : MS := mSeq (mDrop (mCall 1 mf_check_course (mCons (mVar 1) (mNil)))) (mSeq (mSetX 2 (mCallX 1 mfX_fitting_row (mCons (mVar 0) (mNil)))) (mSeq (mSet 3 (mCall 1 mf_asked (mCons (mSelf "Course" mf_Course_events (mVar 1)) (mNil)))) (mSeq (mIfS (mB (mCall 2 mf_reaches (mCons (mVar 2) (mCons (mVar 3) (mNil))))) (mRet (mC (.str "paid"))) (mNext)) (mRet (mIf (mB (mBin isD (mCall 2 mf_first_paid (mCons (mCall 2 mf_higher (mCons (mVar 2) (mCons (mVar 3) (mNil)))) (mCons (mUn (fldD "Facts" ["known", "unpaid"] 1) (mVar 0)) (mNil)))) (mC .non))) (mC (.str "open")) (mC (.str "refused")))))))
def mfX_Facts_answer : List D → M RX := mFnX 4 mbX_Facts_answer
@[reducible] def ce__law_least_1 : ME := mUn negD (mBin fdivD (mBin subD (mVar 2) (mBin ixD (mVar 0) (mVar 5))) (mBin addD (mBin subD (mVar 5) (mVar 3)) (mC (.int 1))))
@[reducible] def lb__law_least_2 : MS := mSeq (mSet 4 (mCB maxD (mCons (mFz (mLcO [5] (mIof rng2 (mCons (mVar 3) (mCons (mCB lenD (mCons (mVar 0) (mNil))) (mNil)))) (mGn 5) (mYes) (ce__law_least_1))) (mNil)))) (mSeq (mIfS (mB (mBin leD (mVar 4) (mC (.int 0)))) (mFrz 1 (mRet (mVar 1))) (mNext)) (mSeq (mApp 1 (mVar 4)) (mSet 2 (mBin addD (mVar 2) (mVar 4)))))
@[reducible] def mb__law_least : MS := mSeq (mPar [1, 2] (mMow (mLstO (mNil)) (mMsh (mC (.int 0)) (mMnil)))) (mSeq (mFor (mIof rng1 (mCons (mCB lenD (mCons (mVar 0) (mNil))) (mNil))) (mGn 3) (lb__law_least_2)) (mFrz 1 (mRet (mVar 1))))
def mf__law_least : List D → M D := mFn 6 mb__law_least
@[reducible] def ct__law_joined_1 : MT := mB (mBin ltD (mVar 3) (mCB lenD (mCons (mVar 2) (mNil))))
@[reducible] def ce__law_joined_2 : ME := mCB maxD (mCons (mFz (mLcO [2] (mIany (mVar 0)) (mGn 2) (ct__law_joined_1) (mBin ixD (mVar 2) (mVar 3)))) (mNil))
@[reducible] def mb__law_joined : MS := mSeq (mSet 1 (mCB maxD (mCons (mBin addD (mFz (mLstO (mCons (mC (.int 0)) (mNil)))) (mFz (mLcO [2] (mIany (mVar 0)) (mGn 2) (mYes) (mCB lenD (mCons (mVar 2) (mNil)))))) (mNil)))) (mRet (mFz (mLcO [3] (mIof rng1 (mCons (mVar 1) (mNil))) (mGn 3) (mYes) (ce__law_joined_2))))
def mf__law_joined : List D → M D := mFn 4 mb__law_joined
@[reducible] def ce__law_above_1 : ME := mCB sumD (mCons (mSl (mVar 0) (mOn) (mOs (mBin addD (mVar 3) (mC (.int 1))))) (mNil))
@[reducible] def mb__law_above : MS := mSeq (mSet 2 (mFz (mBorLs [] (mLcO [3] (mIof rng1 (mCons (mCB maxD (mCons (mCB lenD (mCons (mVar 0) (mNil))) (mCons (mCB lenD (mCons (mVar 1) (mNil))) (mNil)))) (mNil))) (mGn 3) (mYes) (ce__law_above_1))))) (mRet (mCall 1 mf__law_least (mCons (mCall 1 mf__law_joined (mCons (mFz (mLstO (mCons (mVar 2) (mCons (mVar 1) (mNil))))) (mNil))) (mNil))))
def mf__law_above : List D → M D := mFn 4 mb__law_above
end Sh

set_option Elab.async false
set_option linter.all false
set_option maxRecDepth 100000
set_option maxHeartbeats 4000000
namespace G57
open PySem PySem.Spec PyProof.Rows L2 Mi He Sh S3
noncomputable section
@[reducible] def ce__law_falling_1 : ME := mBin addD (mC (.int 1)) (mCall 1 mf__law_amount (mCons (mVar 0) (mNil)))
@[reducible] def mb__law_falling : MS := mSeq (mSet 2 (mFz (mBorLs [] (mLcO [3] (mIof rng1 (mCons (mCall 2 mf__law_draw (mCons (mVar 0) (mCons (mBin addD (mVar 1) (mC (.int 1))) (mNil)))) (mNil))) (mGn 3) (mYes) (ce__law_falling_1))))) (mRet (mUn revD (mFz (mCBO (srtO false) (mCons (mVar 2) (mNil))))))
def mf__law_falling : List D → M D := mFn 4 mb__law_falling
@[reducible] def ce__law_near_row_1 : ME := mBin fdivD (mBin addD (mVar 7) (mVar 11)) (mVar 3)
@[reducible] def ce__law_near_row_2 : ME := mCall 1 mf__law_amount (mCons (mVar 0) (mNil))
@[reducible] def mb__law_near_row : MS := mSeq (mAsg (mTup (mCons (mCall 2 mf__law_draw (mCons (mVar 0) (mCons (mC (.int 7)) (mNil)))) (mCons (mCall 2 mf__law_draw (mCons (mVar 0) (mCons (mBin addD (mCB lenD (mCons (mVar 1) (mNil))) (mC (.int 1))) (mNil)))) (mNil)))) (mGt 2 (mGcons (mGn 2) (mGcons (mGn 3) (mGnil))))) (mSeq (mPar [4, 5, 6] (mMsh (mCall 2 mf__law_draw (mCons (mVar 0) (mCons (mC (.int 12)) (mNil)))) (mMsh (mCall 2 mf__law_draw (mCons (mVar 0) (mCons (mC (.int 3)) (mNil)))) (mMow (mSlO (mVar 1) (mOn) (mOs (mVar 3))) (mMnil))))) (mSeq (mSet 7 (mBor 6 (mCB sumD (mCons (mVar 6) (mNil))))) (mSeq (mIfS (mB (mBin eqMD (mVar 2) (mC (.int 0)))) (mSetO 6 (mBorLs [] (mLcO [11] (mIof rng1 (mCons (mVar 3) (mNil))) (mGn 11) (mYes) (ce__law_near_row_1)))) (mNext)) (mSeq (mIfS (mBorT 6 (mAnd (mB (mBin eqMD (mVar 2) (mC (.int 1)))) (mB (mBin neMD (mVar 6) (mFz (mLstO (mNil))))))) (mPut 6 (mBin addD (mIxO 6 (mC (.int 0))) (mVar 5)) (mC (.int 0))) (mNext)) (mSeq (mIfS (mBorT 6 (mAnd (mB (mBin eqMD (mVar 2) (mC (.int 2)))) (mB (mBin neMD (mVar 6) (mFz (mLstO (mNil))))))) (mPut 6 (mCB maxD (mCons (mC (.int 0)) (mCons (mBin subD (mIxO 6 (mBin subD (mVar 3) (mC (.int 1)))) (mVar 5)) (mNil)))) (mBin subD (mVar 3) (mC (.int 1)))) (mNext)) (mSeq (mIfS (mB (mBin eqMD (mVar 2) (mC (.int 3)))) (mSetO 6 (mBorLs [] (mLcO [11] (mIof rng1 (mCons (mVar 3) (mNil))) (mGn 11) (mYes) (ce__law_near_row_2)))) (mNext)) (mSeq (mIfS (mB (mBin eqMD (mVar 2) (mC (.int 4)))) (mFrz 6 (mSetO 6 (mBinO catO (mVar 6) (mFz (mLstO (mCons (mVar 5) (mNil))))))) (mNext)) (mSeq (mSet 8 (mBin modD (mCB int1D (mCons (mVar 4) (mNil))) (mBin addD (mLenO 6) (mC (.int 1))))) (mSeq (mFrz 6 (mSet 9 (mBin addD (mSl (mVar 6) (mOs (mVar 8)) (mOn)) (mSl (mVar 6) (mOn) (mOs (mVar 8)))))) (mSeq (mFrz 6 (mIfS (mAnd (mB (mBin eqMD (mVar 2) (mC (.int 5)))) (mB (mBin neMD (mVar 6) (mFz (mLstO (mNil)))))) (mSeq (mSet 10 (mCall 1 mf__law_card (mCons (mVar 0) (mNil)))) (mRet (mBin addD (mFz (mLstO (mCons (mVar 10) (mCons (mBin addD (mBin ixD (mVar 9) (mC (.int 0))) (mCall 2 mf__law_worth (mCons (mVar 10) (mCons (mC (.int 1)) (mNil))))) (mNil))))) (mSl (mVar 9) (mOs (mC (.int 1))) (mOn))))) (mNext))) (mRet (mVar 9))))))))))))
def mf__law_near_row : List D → M D := mFn 12 mb__law_near_row
@[reducible] def lb__law_drawn_1 : MS := mSeq (mSet 6 (mCall 2 mf__law_near_row (mCons (mVar 0) (mCons (mVar 1) (mNil))))) (mIfS (mB (mBin neMD (mCall 2 mf__law_row_pays (mCons (mVar 1) (mCons (mCall 1 mf__law_asks (mCons (mVar 6) (mNil))) (mNil)))) (mBin eqMD (mVar 2) (mVar 5)))) (mApp 3 (mVar 6)) (mApp 4 (mVar 6)))
@[reducible] def mb__law_drawn : MS := mSeq (mPar [1, 2, 3, 4] (mMsh (mCall 2 mf__law_falling (mCons (mVar 0) (mCons (mC (.int 11)) (mNil)))) (mMsh (mCall 2 mf__law_draw (mCons (mVar 0) (mCons (mC (.int 30)) (mNil)))) (mMow (mLstO (mNil)) (mMow (mLstO (mNil)) (mMnil)))))) (mSeq (mFor (mIof rng1 (mCons (mCall 2 mf__law_draw (mCons (mVar 0) (mCons (mC (.int 17)) (mNil)))) (mNil))) (mGn 5) (lb__law_drawn_1)) (mFrz 3 (mFrz 4 (mRet (mTup (mCons (mVar 1) (mCons (mSl (mVar 3) (mOn) (mOs (mC (.int 8)))) (mCons (mSl (mVar 4) (mOn) (mOs (mC (.int 8)))) (mNil)))))))))
def mf__law_drawn : List D → M D := mFn 7 mb__law_drawn
@[reducible] def rtC : RT := []
@[reducible] def rtH : RT := []
@[reducible] def ct__law_due_1 : MT := mB (mCall 2 mf__law_row_pays (mCons (mVar 0) (mCons (mBin ixD (mVar 1) (mVar 5)) (mNil))))
@[reducible] def ce__law_due_2 : ME := mCall 2 mf__law_row_pays (mCons (mVar 4) (mCons (mVar 6) (mNil)))
@[reducible] def mb__law_due : MS := mSeq (mSet 3 (mFz (mBorLs [] (mLcO [5] (mIof rng1 (mCons (mCB lenD (mCons (mVar 1) (mNil))) (mNil))) (mGn 5) (ct__law_due_1) (mVar 5))))) (mSeq (mIfS (mB (mBin neMD (mVar 3) (mFz (mLstO (mNil))))) (mRet (mTup (mCons (mC (.str "no wallet")) (mCons (mCB strID (mCons (mBin ixD (mVar 3) (mC (.int 0))) (mNil))) (mCons (mC (.bl true)) (mNil)))))) (mNext)) (mSeq (mIfS (mB (mCall 2 mf__law_row_pays (mCons (mVar 0) (mCons (mVar 2) (mNil))))) (mRet (mTup (mCons (mC (.str "returned")) (mCons (mRepA rtC (mC (.str "paid"))) (mNil))))) (mNext)) (mSeq (mSet 4 (mCall 2 mf__law_above (mCons (mVar 0) (mCons (mVar 2) (mNil))))) (mRet (mTup (mCons (mC (.str "returned")) (mCons (mRepA rtC (mIf (mB (mCB anyD (mCons (mFz (mLcO [6] (mIany (mVar 1)) (mGn 6) (mYes) (ce__law_due_2))) (mNil)))) (mC (.str "refused")) (mC (.str "open")))) (mNil))))))))
def mf__law_due : List D → M D := mFn 7 mb__law_due
@[reducible] def ms__law_end (es : List Str) (rtH : RT) : MS := mRet (mTup (mCons (mC (.str "no wallet")) (mCons (mRepA rtH (mUn (exfD es ["given", "index", "bill", "bound"] "index") (mVar 2))) (mCons (mCB (isx2D es ["NoAnswer"]) (mCons (mVar 2) (mCons (mC (.ecl "NoAnswer")) (mNil)))) (mNil)))))
@[reducible] def mr__law_end (rtC : RT) : MS := mRet (mTup (mCons (mC (.str "returned")) (mCons (mRepA rtC (mVar 1)) (mNil))))
@[reducible] def mt__law_end (es : List Str) (rtH : RT) (act : M RX) : MS := mTryAct 1 2 act (fun k => decide (k ∈ es)) (ms__law_end es rtH)
def mh__law_end (es : List Str) (rtC rtH : RT) : M RX → M D := mFnH 3 fun act => mSeq (mt__law_end es rtH act) (mr__law_end rtC)

@[reducible] def ce__law_right_1 : ME := mCall 2 mf__law_near_row (mCons (mVar 0) (mCons (mVar 1) (mNil)))
@[reducible] def ce__law_right_2 : ME := mCall 1 mf__law_asks (mCons (mVar 13) (mNil))
@[reducible] def ce__law_right_3 : ME := mCall 1 mf__law_asks (mCons (mVar 9) (mNil))
@[reducible] def ce__law_right_4 : ME := mCall 1 mf__law_course (mCons (mVar 9) (mNil))
@[reducible] def ce__law_right_5 : ME := mCall 1 mf__law_course (mCons (mVar 9) (mNil))
@[reducible] def la__law_right_6 : MX := mMethX "Facts" "answer" 1 mfX_Facts_answer (mVar 8) (mCons (mVar 10) (mNil))
@[reducible] def lb__law_right_7 : MS := mSeq (mAsg (mTup (mCons (mCall 1 mf__law_course (mCons (mVar 9) (mNil))) (mCons (mCall 3 mf__law_due (mCons (mVar 5) (mCons (mVar 6) (mCons (mCall 1 mf__law_asks (mCons (mVar 9) (mNil))) (mNil))))) (mNil)))) (mGt 2 (mGcons (mGn 10) (mGcons (mGn 11) (mGnil))))) (mIfS (mB (mBin neMD (mLam (mh__law_end es rtC rtH) (la__law_right_6)) (mVar 11))) (mRet (mC (.bl false))) (mNext))
@[reducible] def mb__law_right : MS := mSeq (mAsg (mCall 1 mf__law_drawn (mCons (mVar 0) (mNil))) (mGt 3 (mGcons (mGn 1) (mGcons (mGn 2) (mGcons (mGn 3) (mGnil)))))) (mSeq (mSet 4 (mFz (mBorLs [] (mLcO [12] (mIof rng1 (mCons (mC (.int 5)) (mNil))) (mGn 12) (mYes) (ce__law_right_1))))) (mSeq (mPar [5, 6] (mMsh (mCall 1 mf__law_least (mCons (mCall 1 mf__law_joined (mCons (mFz (mLcO [9] (mIany (mVar 2)) (mGn 9) (mYes) (ce__law_right_3))) (mNil))) (mNil))) (mMsh (mFz (mLcO [13] (mIany (mVar 3)) (mGn 13) (mYes) (ce__law_right_2))) (mMnil)))) (mSeq (mSet 7 (mFz (mBorLs [] (mLcO [9] (mIany (mVar 2)) (mGn 9) (mYes) (ce__law_right_4))))) (mSeq (mSet 8 (mMakeK "Facts" 2 2 [0, 1] mf_Facts___init__ (mCons (mCB tupD (mCons (mVar 7) (mNil))) (mCons (mCB tupD (mCons (mFz (mLcO [9] (mIany (mVar 3)) (mGn 9) (mYes) (ce__law_right_5))) (mNil))) (mNil))))) (mSeq (mIfS (mOr (mB (mBin neMD (mSelf "Form" mf_Form_row (mSelf "Facts" mf_Facts_form (mVar 8))) (mCB tupD (mCons (mVar 5) (mNil))))) (mB (mBin neSD (mRepA rtC (mSelf "Facts" mf_Facts_fit (mVar 8))) (mRepA rtC (mBin eqMD (mBin ixD (mCall 3 mf__law_due (mCons (mVar 5) (mCons (mVar 6) (mCons (mFz (mLstO (mNil))) (mNil))))) (mC (.int 0))) (mC (.str "returned"))))))) (mRet (mC (.bl false))) (mNext)) (mSeq (mFor (mIany (mBin addD (mBin addD (mBin addD (mVar 4) (mVar 3)) (mVar 2)) (mSl (mVar 4) (mOn) (mOs (mC (.int 1)))))) (mGn 9) (lb__law_right_7)) (mRet (mBin eqMD (mSelf "Form" mf_Form_row (mSelf "Facts" mf_Facts_form (mVar 8))) (mCB tupD (mCons (mVar 5) (mNil)))))))))))
def mf__law_right : List D → M D := mFn 14 mb__law_right
@[reducible] def ce_law_1 : ME := mWith mf__law_right (mCallL 2 mfL__law_pot (mCons (mVar 0) (mCons (mVar 1) (mNil))))
@[reducible] def mb_law : MS := mRet (mCB allD (mCons (mFz (mLcO [1] (mIof rng1 (mCons (mCB maxD (mCons (mC (.int 2)) (mCons (mCB minD (mCons (mCB lenD (mCons (mVar 0) (mNil))) (mCons (mC (.int 3)) (mNil)))) (mNil)))) (mNil))) (mGn 1) (mYes) (ce_law_1))) (mNil)))
def mf_law : List D → M D := mFn 2 mb_law
end
end G57

set_option maxHeartbeats 4000000
namespace G57
open PySem PySem.Spec PyProof.Rows L2 Mi He Sh S3
section
variable [TB : Tabl]
variable {P : Program} {w : World} {K : PySem.W.Frag} {mg : Str → Option Value} {base : Heap}

theorem kb_Facts___init___1_paid_refused (C : HF fa fn K mg) : KBn K (fdOf K (Pl.ad K (.meth "Facts" "__init__"))) ["self", "paid", "refused"] 1 ["paid", "refused"] (gI [0, 1, 2]) (gI [0, 1, 2]) := (C.fun_ 19 (d := d_Facts___init__) rfl).kb0 1 ["paid", "refused"] [0, 1, 2] fun _ _ _ _ _ _ us ws h1 h2 => match us, ws, h1, h2 with | [_], [_, _], _, _ => rfl
theorem bi__law_draw {K : PySem.W.Frag} {mg : Str → Option Value} (C : HF fa fn K mg) : Binds K (fdOf K (Pl.ad K (.glob "_law_draw"))) ["_law_pot_here", "_law_many"] [] := (C.fun_ 0 (d := d__law_draw) rfl).bindsN fun _ _ _ _ _ _ us hl => match us, hl with | [_, _], _ => rfl
theorem ok__law_draw (C : HF fa fn K mg) : FO cs P w K mg base 1 (.glob "_law_draw") ["_law_pot_here", "_law_many"] 2 mf__law_draw := by
  have f_int := C.free 5 rfl
  have f_divmod := C.free 6 rfl
  have sc := sc__law_draw
  refine fn_mir (C.fun_ 0 (d := d__law_draw) rfl) sc__law_draw fun cdv A outer s H E p F0 hr => ?_
  exact dBcons (dPutP 0 (dBin op_addA m_add (dIxP 0 (dInt)) (dInt)) (dInt)) (dBcons (dSet (i := 2) sc.nd rfl (by first | exact Or.inl rfl | exact Or.inr rfl) (dCallT m_int1 call_int1 rfl f_int bb_int (dCons (dIxP 0 (dInt)) (dNil)))) (dBcons (dPutP 0 (dBin op_mod m_mod (dCallT m_int1 call_int1 rfl f_int bb_int (dCons (dBin op_addA m_add (dBin op_addA m_add (dBin op_mulA m_mul (dVar 2) (dInt)) (dBin op_mulA m_mul (dInt) (dIxP 0 (dInt)))) (dInt)) (dNil))) (dInt)) (dInt)) (dBcons (dIfS (dTcmp op_gt m_gt (dIxP 0 (dInt)) (dInt) (nomark _)) (dBcons (dDmP 0 3 rfl (dCallB m_dm call_divmodW rfl f_divmod bb_divmod (dCons (dIxP 0 (dInt)) (dCons (dVar 1) (dNil)))) (dInt) sc.nd rfl (by first | exact Or.inl rfl | exact Or.inr rfl)) (dBone (dRet (dVar 3)))) (dBnil)) (dBone (dRet (dBin op_mod m_mod (dCallT m_int1 call_int1 rfl f_int bb_int (dCons (dBin op_fdivW m_fdiv (dBin op_mulA m_mul (dBin op_fdivW m_fdiv (dVar 2) (dInt)) (dBin op_addA m_add (dBin op_mod m_mod (dCallT m_int1 call_int1 rfl f_int bb_int (dCons (dBin op_fdivW m_fdiv (dVar 2) (dInt)) (dNil))) (dInt)) (dInt))) (dInt)) (dNil))) (dVar 1)))))))
theorem bi__law_amount {K : PySem.W.Frag} {mg : Str → Option Value} (C : HF fa fn K mg) : Binds K (fdOf K (Pl.ad K (.glob "_law_amount"))) ["_law_pot_here"] [] := (C.fun_ 1 (d := d__law_amount) rfl).bindsN fun _ _ _ _ _ _ us hl => match us, hl with | [_], _ => rfl
theorem ok__law_amount (C : HF fa fn K mg) : FO cs P w K mg base 2 (.glob "_law_amount") ["_law_pot_here"] 1 mf__law_amount := by
  have G__law_draw := ok__law_draw (P := P) (w := w) (base := base) C
  have F__law_draw := C.fun_ 0 (d := d__law_draw) rfl
  have B__law_draw := bi__law_draw C
  have g__law_draw := C.glo 7 rfl
  have sc := sc__law_amount
  refine fn_mir (C.fun_ 1 (d := d__law_amount) rfl) sc__law_amount fun cdv A outer s H E p F0 hr => ?_
  exact dBcons (dSet (i := 1) sc.nd rfl (by first | exact Or.inl rfl | exact Or.inr rfl) (dCall G__law_draw (hr.mono (by decide)) rfl g__law_draw F__law_draw.kp B__law_draw (dCons (dVar 0) (dCons (dInt) (dNil))))) (dBcons (dIfS (dTcmp op_lt m_lt (dVar 1) (dInt) (nomark _)) (dBone (dRet (dCall G__law_draw (hr.mono (by decide)) rfl g__law_draw F__law_draw.kp B__law_draw (dCons (dVar 0) (dCons (dInt) (dNil)))))) (dBnil)) (dBcons (dIfS (dTcmp (op_eqD hr.units) m_eq (dVar 1) (dInt) (nomark _)) (dBone (dRet (dBin op_sub m_sub (dBin op_addA m_add (dBin op_pow m_pow (dInt) (dInt)) (dCall G__law_draw (hr.mono (by decide)) rfl g__law_draw F__law_draw.kp B__law_draw (dCons (dVar 0) (dCons (dInt) (dNil))))) (dInt)))) (dBnil)) (dBcons (dSet (i := 2) sc.nd rfl (by first | exact Or.inl rfl | exact Or.inr rfl) (dBin op_addA m_add (dBin op_mulA m_mul (dCall G__law_draw (hr.mono (by decide)) rfl g__law_draw F__law_draw.kp B__law_draw (dCons (dVar 0) (dCons (dBin op_pow m_pow (dInt) (dInt)) (dNil)))) (dBin op_pow m_pow (dInt) (dInt))) (dCall G__law_draw (hr.mono (by decide)) rfl g__law_draw F__law_draw.kp B__law_draw (dCons (dVar 0) (dCons (dBin op_pow m_pow (dInt) (dInt)) (dNil)))))) (dBone (dRet (dIf (dTcmp (op_eqD hr.units) m_eq (dVar 1) (dInt) (nomark _)) (dVar 2) (dBin op_addA m_add (dBin op_mulA m_mul (dVar 2) (dBin op_pow m_pow (dInt) (dInt))) (dCall G__law_draw (hr.mono (by decide)) rfl g__law_draw F__law_draw.kp B__law_draw (dCons (dVar 0) (dCons (dBin op_pow m_pow (dInt) (dInt)) (dNil)))))))))))
theorem bi__law_falling {K : PySem.W.Frag} {mg : Str → Option Value} (C : HF fa fn K mg) : Binds K (fdOf K (Pl.ad K (.glob "_law_falling"))) ["_law_pot_here", "_law_many"] [] := (C.fun_ 2 (d := d__law_falling) rfl).bindsN fun _ _ _ _ _ _ us hl => match us, hl with | [_, _], _ => rfl
theorem ok__law_falling (C : HF fa fn K mg) : FO cs P w K mg base 3 (.glob "_law_falling") ["_law_pot_here", "_law_many"] 2 mf__law_falling := by
  have G__law_draw := ok__law_draw (P := P) (w := w) (base := base) C
  have F__law_draw := C.fun_ 0 (d := d__law_draw) rfl
  have B__law_draw := bi__law_draw C
  have g__law_draw := C.glo 7 rfl
  have f_range := C.free 4 rfl
  have G__law_amount := ok__law_amount (P := P) (w := w) (base := base) C
  have F__law_amount := C.fun_ 1 (d := d__law_amount) rfl
  have B__law_amount := bi__law_amount C
  have g__law_amount := C.glo 8 rfl
  have f_sorted := C.free 9 rfl
  have sc := sc__law_falling
  refine fn_mir (C.fun_ 2 (d := d__law_falling) rfl) sc__law_falling fun cdv A outer s H E p F0 hr => ?_
  exact dBcons (dLcSet 2 [] (own := [("_law_k", 3)]) rfl sc.nd rfl rfl (sw_true rfl rfl rfl (by kernel_rfl)) (dIrng1 rfl f_range (dCons (dCall G__law_draw (hr.mono (by decide)) rfl g__law_draw F__law_draw.kp B__law_draw (dCons (dVar 0) (dCons (dBin op_addA m_add (dVar 1) (dInt)) (dNil)))) (dNil))) (blkOk_by (by kernel_rfl)) (fun _ _ _ _ _ => dGn (i := 3) sc.nd rfl (by first | exact Or.inl rfl | exact Or.inr rfl)) (fun _ _ _ _ _ => dYes) (fun _ _ _ _ _ => dBin op_addA m_add (dInt) (dCall G__law_amount (hr.mono (by decide)) rfl g__law_amount F__law_amount.kp B__law_amount (dCons (dVar 0) (dNil))))) (dBone (dRet (dRevL (dFz (dSort rfl f_sorted (dCons (dVar 2) (dNil)))))))
theorem bi__law_card {K : PySem.W.Frag} {mg : Str → Option Value} (C : HF fa fn K mg) : Binds K (fdOf K (Pl.ad K (.glob "_law_card"))) ["_law_pot_here"] [] := (C.fun_ 3 (d := d__law_card) rfl).bindsN fun _ _ _ _ _ _ us hl => match us, hl with | [_], _ => rfl
theorem ok__law_card (C : HF fa fn K mg) : FO cs P w K mg base 3 (.glob "_law_card") ["_law_pot_here"] 1 mf__law_card := by
  have G__law_amount := ok__law_amount (P := P) (w := w) (base := base) C
  have F__law_amount := C.fun_ 1 (d := d__law_amount) rfl
  have B__law_amount := bi__law_amount C
  have g__law_amount := C.glo 8 rfl
  have G__law_draw := ok__law_draw (P := P) (w := w) (base := base) C
  have F__law_draw := C.fun_ 0 (d := d__law_draw) rfl
  have B__law_draw := bi__law_draw C
  have g__law_draw := C.glo 7 rfl
  have f_int := C.free 5 rfl
  have sc := sc__law_card
  refine fn_mir (C.fun_ 3 (d := d__law_card) rfl) sc__law_card fun cdv A outer s H E p F0 hr => ?_
  exact dBcons (dSet (i := 1) sc.nd rfl (by first | exact Or.inl rfl | exact Or.inr rfl) (dBin op_addA m_add (dInt) (dCall G__law_amount (hr.mono (by decide)) rfl g__law_amount F__law_amount.kp B__law_amount (dCons (dVar 0) (dNil))))) (dBcons (dSet (i := 2) sc.nd rfl (by first | exact Or.inl rfl | exact Or.inr rfl) (dCall G__law_draw (hr.mono (by decide)) rfl g__law_draw F__law_draw.kp B__law_draw (dCons (dVar 0) (dCons (dIx ix_seq m_ix (dFz (dLstO (dCons (dInt) (dCons (dInt) (dNil))))) (dCallT m_intB call_int1 rfl f_int bb_int (dCons (dCmp (op_eqD hr.units) m_eq (dCall G__law_draw (hr.mono (by decide)) rfl g__law_draw F__law_draw.kp B__law_draw (dCons (dVar 0) (dCons (dInt) (dNil)))) (dInt) (nomark _)) (dNil)))) (dNil))))) (dBone (dRet (dTup (dCons (dBin op_addA m_add (dBin op_mulA m_mul (dVar 1) (dVar 2)) (dBin op_mod m_mod (dCallT m_int1 call_int1 rfl f_int bb_int (dCons (dCall G__law_amount (hr.mono (by decide)) rfl g__law_amount F__law_amount.kp B__law_amount (dCons (dVar 0) (dNil))) (dNil))) (dBin op_addA m_add (dVar 1) (dInt)))) (dCons (dVar 1) (dNil)))))))
theorem bi__law_worth {K : PySem.W.Frag} {mg : Str → Option Value} (C : HF fa fn K mg) : Binds K (fdOf K (Pl.ad K (.glob "_law_worth"))) ["_law_pair", "_law_days"] [] := (C.fun_ 4 (d := d__law_worth) rfl).bindsN fun _ _ _ _ _ _ us hl => match us, hl with | [_, _], _ => rfl
theorem ok__law_worth (C : HF fa fn K mg) : FO cs P w K mg base 1 (.glob "_law_worth") ["_law_pair", "_law_days"] 2 mf__law_worth := by
  have f_min := C.free 2 rfl
  have sc := sc__law_worth
  refine fn_mir (C.fun_ 4 (d := d__law_worth) rfl) sc__law_worth fun cdv A outer s H E p F0 hr => ?_
  exact dBone (dRet (dCallB m_min (cr_minA rfl) rfl f_min bb_min (dCons (dIx ix_seq m_ix (dVar 0) (dInt)) (dCons (dBin op_mulA m_mul (dVar 1) (dIx ix_seq m_ix (dVar 0) (dInt))) (dNil)))))
theorem bi__law_near_row {K : PySem.W.Frag} {mg : Str → Option Value} (C : HF fa fn K mg) : Binds K (fdOf K (Pl.ad K (.glob "_law_near_row"))) ["_law_pot_here", "_law_row"] [] := (C.fun_ 5 (d := d__law_near_row) rfl).bindsN fun _ _ _ _ _ _ us hl => match us, hl with | [_, _], _ => rfl
theorem ok__law_near_row (C : HF fa fn K mg) : FO cs P w K mg base 4 (.glob "_law_near_row") ["_law_pot_here", "_law_row"] 2 mf__law_near_row := by
  have G__law_draw := ok__law_draw (P := P) (w := w) (base := base) C
  have F__law_draw := C.fun_ 0 (d := d__law_draw) rfl
  have B__law_draw := bi__law_draw C
  have f_len := C.free 1 rfl
  have g__law_draw := C.glo 7 rfl
  have f_sum := C.free 11 rfl
  have f_range := C.free 4 rfl
  have f_max := C.free 3 rfl
  have G__law_amount := ok__law_amount (P := P) (w := w) (base := base) C
  have F__law_amount := C.fun_ 1 (d := d__law_amount) rfl
  have B__law_amount := bi__law_amount C
  have g__law_amount := C.glo 8 rfl
  have f_int := C.free 5 rfl
  have G__law_card := ok__law_card (P := P) (w := w) (base := base) C
  have F__law_card := C.fun_ 3 (d := d__law_card) rfl
  have B__law_card := bi__law_card C
  have g__law_card := C.glo 12 rfl
  have G__law_worth := ok__law_worth (P := P) (w := w) (base := base) C
  have F__law_worth := C.fun_ 4 (d := d__law_worth) rfl
  have B__law_worth := bi__law_worth C
  have g__law_worth := C.glo 13 rfl
  have sc := sc__law_near_row
  refine fn_mir (C.fun_ 5 (d := d__law_near_row) rfl) sc__law_near_row fun cdv A outer s H E p F0 hr => ?_
  exact dBcons (dAsg (dTup (dCons (dCall G__law_draw (hr.mono (by decide)) rfl g__law_draw F__law_draw.kp B__law_draw (dCons (dVar 0) (dCons (dInt) (dNil)))) (dCons (dCall G__law_draw (hr.mono (by decide)) rfl g__law_draw F__law_draw.kp B__law_draw (dCons (dVar 0) (dCons (dBin op_addA m_add (dCallB m_len call_lenA rfl f_len bb_len (dCons (dVar 1) (dNil))) (dInt)) (dNil)))) (dNil)))) (dGt (n := 2) rfl (dGcons (dGn (i := 2) sc.nd rfl (by first | exact Or.inl rfl | exact Or.inr rfl)) (dGcons (dGn (i := 3) sc.nd rfl (by first | exact Or.inl rfl | exact Or.inr rfl)) (dGnil))))) (dBcons (dPar3 (i := 4) (j := 5) (l := 6) rfl sc.nd rfl rfl rfl (by decide) (by decide) (by decide) rfl rfl rfl (dMsh (dCall G__law_draw (hr.mono (by decide)) rfl g__law_draw F__law_draw.kp B__law_draw (dCons (dVar 0) (dCons (dInt) (dNil)))) (dMsh (dCall G__law_draw (hr.mono (by decide)) rfl g__law_draw F__law_draw.kp B__law_draw (dCons (dVar 0) (dCons (dInt) (dNil)))) (dMow (dSlO (dVar 1) (dOn) (dOs (dVar 3))) (dMnil))))) (dBcons (dSet (i := 7) sc.nd rfl (by first | exact Or.inl rfl | exact Or.inr rfl) (dBor 6 (dCallB m_sum (cr_sumA rfl) rfl f_sum bb_sum (dCons (dVar 6) (dNil))))) (dBcons (dIfS (dTcmp (op_eqD hr.units) m_eq (dVar 2) (dInt) (nomark _)) (dBone (dLcSetO 6 [] (own := [("_law_k", 11)]) rfl sc.nd rfl rfl (sw_true rfl rfl rfl (by kernel_rfl)) (dIrng1 rfl f_range (dCons (dVar 3) (dNil))) (blkOk_by (by kernel_rfl)) (fun _ _ _ _ _ => dGn (i := 11) sc.nd rfl (by first | exact Or.inl rfl | exact Or.inr rfl)) (fun _ _ _ _ _ => dYes) (fun _ _ _ _ _ => dBin op_fdivW m_fdiv (dBin op_addA m_add (dVar 7) (dVar 11)) (dVar 3)))) (dBnil)) (dBcons (dIfS (dBorT 6 (PW.pt (dAndT (dTcmp (op_eqD hr.units) m_eq (dVar 2) (dInt) (nomark _)) (dAnd1 (dTcmp (op_neD hr.units) m_ne (dVar 6) (dFz (dLstO (dNil))) (nomark _)))))) (dBone (dPut 6 (dBin op_addA m_add (dIxO 6 (dInt)) (dVar 5)) (dInt))) (dBnil)) (dBcons (dIfS (dBorT 6 (PW.pt (dAndT (dTcmp (op_eqD hr.units) m_eq (dVar 2) (dInt) (nomark _)) (dAnd1 (dTcmp (op_neD hr.units) m_ne (dVar 6) (dFz (dLstO (dNil))) (nomark _)))))) (dBone (dPut 6 (dCallB m_max (cr_maxA rfl) rfl f_max bb_max (dCons (dInt) (dCons (dBin op_sub m_sub (dIxO 6 (dBin op_sub m_sub (dVar 3) (dInt))) (dVar 5)) (dNil)))) (dBin op_sub m_sub (dVar 3) (dInt)))) (dBnil)) (dBcons (dIfS (dTcmp (op_eqD hr.units) m_eq (dVar 2) (dInt) (nomark _)) (dBone (dLcSetO 6 [] (own := [("_law_k", 11)]) rfl sc.nd rfl rfl (sw_true rfl rfl rfl (by kernel_rfl)) (dIrng1 rfl f_range (dCons (dVar 3) (dNil))) (blkOk_by (by kernel_rfl)) (fun _ _ _ _ _ => dGn (i := 11) sc.nd rfl (by first | exact Or.inl rfl | exact Or.inr rfl)) (fun _ _ _ _ _ => dYes) (fun _ _ _ _ _ => dCall G__law_amount (hr.mono (by decide)) rfl g__law_amount F__law_amount.kp B__law_amount (dCons (dVar 0) (dNil))))) (dBnil)) (dBcons (dIfS (dTcmp (op_eqD hr.units) m_eq (dVar 2) (dInt) (nomark _)) (dBone (dFrzS 6 (dSetO (i := 6) sc.nd rfl (by first | exact Or.inl rfl | exact Or.inr rfl) (dCatO (dVar 6) (dFz (dLstO (dCons (dVar 5) (dNil)))))))) (dBnil)) (dBcons (dSet (i := 8) sc.nd rfl (by first | exact Or.inl rfl | exact Or.inr rfl) (dBin op_mod m_mod (dCallT m_int1 call_int1 rfl f_int bb_int (dCons (dVar 4) (dNil))) (dBin op_addA m_add (dLenO 6 rfl f_len) (dInt)))) (dBcons (dFrzS 6 (dSet (i := 9) sc.nd rfl (by first | exact Or.inl rfl | exact Or.inr rfl) (dBin op_addA m_add (dSl (dVar 6) (dOs (dVar 8)) (dOn)) (dSl (dVar 6) (dOn) (dOs (dVar 8)))))) (dBcons (dFrzS 6 (dIfS (PW.pt (dAndT (dTcmp (op_eqD hr.units) m_eq (dVar 2) (dInt) (nomark _)) (dAnd1 (dTcmp (op_neD hr.units) m_ne (dVar 6) (dFz (dLstO (dNil))) (nomark _))))) (dBcons (dSet (i := 10) sc.nd rfl (by first | exact Or.inl rfl | exact Or.inr rfl) (dCall G__law_card (hr.mono (by decide)) rfl g__law_card F__law_card.kp B__law_card (dCons (dVar 0) (dNil)))) (dBone (dRet (dBin op_addA m_add (dFz (dLstO (dCons (dVar 10) (dCons (dBin op_addA m_add (dIx ix_seq m_ix (dVar 9) (dInt)) (dCall G__law_worth (hr.mono (by decide)) rfl g__law_worth F__law_worth.kp B__law_worth (dCons (dVar 10) (dCons (dInt) (dNil))))) (dNil))))) (dSl (dVar 9) (dOs (dInt)) (dOn)))))) (dBnil))) (dBone (dRet (dVar 9)))))))))))))
theorem bi__law_row_pays {K : PySem.W.Frag} {mg : Str → Option Value} (C : HF fa fn K mg) : Binds K (fdOf K (Pl.ad K (.glob "_law_row_pays"))) ["_law_row", "_law_asks_here"] [] := (C.fun_ 6 (d := d__law_row_pays) rfl).bindsN fun _ _ _ _ _ _ us hl => match us, hl with | [_, _], _ => rfl
theorem ok__law_row_pays (C : HF fa fn K mg) : FO cs P w K mg base 1 (.glob "_law_row_pays") ["_law_row", "_law_asks_here"] 2 mf__law_row_pays := by
  have f_len := C.free 1 rfl
  have f_range := C.free 4 rfl
  have f_sum := C.free 11 rfl
  have f_all := C.free 15 rfl
  have sc := sc__law_row_pays
  refine fn_mir (C.fun_ 6 (d := d__law_row_pays) rfl) sc__law_row_pays fun cdv A outer s H E p F0 hr => ?_
  exact dBone (dRet (dCallB m_all (cr_all rfl) rfl f_all bb_all (dCons (dFz (dLcO (own := [("_law_k", 2)]) rfl sc.nd (dIrng1 rfl f_range (dCons (dCallB m_len call_lenA rfl f_len bb_len (dCons (dVar 1) (dNil))) (dNil))) (blkOk_by (by kernel_rfl)) (fun _ _ _ _ _ => dGn (i := 2) sc.nd rfl (by first | exact Or.inl rfl | exact Or.inr rfl)) (fun _ _ _ _ _ => dYes) (fun _ _ _ _ _ => dCmp op_le m_le (dIx ix_seq m_ix (dVar 1) (dVar 2)) (dCallB m_sum (cr_sumA rfl) rfl f_sum bb_sum (dCons (dSl (dVar 0) (dOn) (dOs (dBin op_addA m_add (dVar 2) (dInt)))) (dNil))) (nomark _)))) (dNil))))
theorem bi__law_power {K : PySem.W.Frag} {mg : Str → Option Value} (C : HF fa fn K mg) : Binds K (fdOf K (Pl.ad K (.glob "_law_power"))) ["_law_cards", "_law_days"] [] := (C.fun_ 7 (d := d__law_power) rfl).bindsN fun _ _ _ _ _ _ us hl => match us, hl with | [_, _], _ => rfl
theorem ok__law_power (C : HF fa fn K mg) : FO cs P w K mg base 2 (.glob "_law_power") ["_law_cards", "_law_days"] 2 mf__law_power := by
  have G__law_worth := ok__law_worth (P := P) (w := w) (base := base) C
  have F__law_worth := C.fun_ 4 (d := d__law_worth) rfl
  have B__law_worth := bi__law_worth C
  have g__law_worth := C.glo 13 rfl
  have f_sum := C.free 11 rfl
  have sc := sc__law_power
  refine fn_mir (C.fun_ 7 (d := d__law_power) rfl) sc__law_power fun cdv A outer s H E p F0 hr => ?_
  exact dBone (dRet (dCallB m_sum (cr_sumA rfl) rfl f_sum bb_sum (dCons (dFz (dLcO (own := [("_law_pair", 2)]) rfl sc.nd (dIany (dVar 0)) (blkOk_by (by kernel_rfl)) (fun _ _ _ _ _ => dGn (i := 2) sc.nd rfl (by first | exact Or.inl rfl | exact Or.inr rfl)) (fun _ _ _ _ _ => dYes) (fun _ _ _ _ _ => dCall G__law_worth (hr.mono (by decide)) rfl g__law_worth F__law_worth.kp B__law_worth (dCons (dVar 2) (dCons (dVar 1) (dNil)))))) (dNil))))
theorem bi__law_asks {K : PySem.W.Frag} {mg : Str → Option Value} (C : HF fa fn K mg) : Binds K (fdOf K (Pl.ad K (.glob "_law_asks"))) ["_law_events"] [] := (C.fun_ 8 (d := d__law_asks) rfl).bindsN fun _ _ _ _ _ _ us hl => match us, hl with | [_], _ => rfl
theorem ok__law_asks (C : HF fa fn K mg) : FO cs P w K mg base 3 (.glob "_law_asks") ["_law_events"] 1 mf__law_asks := by
  have f_len := C.free 1 rfl
  have f_range := C.free 4 rfl
  have isi := isi_ok (C.fact 0 rfl)
  have f_int := C.free 5 rfl
  have f_isinstance := C.free 16 rfl
  have f_sorted := C.free 9 rfl
  have f_sum := C.free 11 rfl
  have G__law_power := ok__law_power (P := P) (w := w) (base := base) C
  have F__law_power := C.fun_ 7 (d := d__law_power) rfl
  have B__law_power := bi__law_power C
  have g__law_power := C.glo 17 rfl
  have G__law_worth := ok__law_worth (P := P) (w := w) (base := base) C
  have F__law_worth := C.fun_ 4 (d := d__law_worth) rfl
  have B__law_worth := bi__law_worth C
  have g__law_worth := C.glo 13 rfl
  have sc := sc__law_asks
  refine fn_mir (C.fun_ 8 (d := d__law_asks) rfl) sc__law_asks fun cdv A outer s H E p F0 hr => ?_
  exact dBcons (dLcSet 1 [] (own := [("_law_k", 10)]) rfl sc.nd rfl rfl (sw_true rfl rfl rfl (by kernel_rfl)) (dIrng1 rfl f_range (dCons (dCallB m_len call_lenA rfl f_len bb_len (dCons (dVar 0) (dNil))) (dNil))) (blkOk_by (by kernel_rfl)) (fun _ _ _ _ _ => dGn (i := 10) sc.nd rfl (by first | exact Or.inl rfl | exact Or.inr rfl)) (fun _ _ _ _ _ => pts_one (dTst (dCallB (m_isi isi) call_isi rfl f_isinstance bb_isinstance (dCons (dIx ix_seq m_ix (dVar 0) (dVar 10)) (dCons (dTy rfl f_int bb_int) (dNil)))))) (fun _ _ _ _ _ => dVar 10)) (dBcons (dLcSet 2 [] (own := [("_law_k", 10)]) rfl sc.nd rfl rfl (sw_true rfl rfl rfl (by kernel_rfl)) (dIrng1 rfl f_range (dCons (dCallB m_len call_lenA rfl f_len bb_len (dCons (dVar 0) (dNil))) (dNil))) (blkOk_by (by kernel_rfl)) (fun _ _ _ _ _ => dGn (i := 10) sc.nd rfl (by first | exact Or.inl rfl | exact Or.inr rfl)) (fun _ _ _ _ _ => pts_one (dNotT (dTst (dCallB (m_isi isi) call_isi rfl f_isinstance bb_isinstance (dCons (dIx ix_seq m_ix (dVar 0) (dVar 10)) (dCons (dTy rfl f_int bb_int) (dNil))))))) (fun _ _ _ _ _ => dVar 10)) (dBcons (dIfS (PW.pt (dOrT (dTcmp (op_eqD hr.units) m_eq (dVar 1) (dFz (dLstO (dNil))) (nomark _)) (dOrT (dTcmp (op_eqD hr.units) m_eq (dVar 2) (dFz (dLstO (dNil))) (nomark _)) (dOr1 (dTcmp op_lt m_lt (dIx ix_seq m_ix (dVar 2) (dUn un_neg m_neg (dInt))) (dIx ix_seq m_ix (dVar 1) (dInt)) (nomark _)))))) (dBcons (dAsg (dTup (dCons (dRevL (dFz (dSort rfl f_sorted (dCons (dFz (dLcO (own := [("_law_k", 10)]) rfl sc.nd (dIany (dVar 1)) (blkOk_by (by kernel_rfl)) (fun _ _ _ _ _ => dGn (i := 10) sc.nd rfl (by first | exact Or.inl rfl | exact Or.inr rfl)) (fun _ _ _ _ _ => dYes) (fun _ _ _ _ _ => dIx ix_seq m_ix (dVar 0) (dVar 10)))) (dNil))))) (dCons (dFz (dLcO (own := [("_law_k", 10)]) rfl sc.nd (dIany (dVar 2)) (blkOk_by (by kernel_rfl)) (fun _ _ _ _ _ => dGn (i := 10) sc.nd rfl (by first | exact Or.inl rfl | exact Or.inr rfl)) (fun _ _ _ _ _ => dYes) (fun _ _ _ _ _ => dIx ix_seq m_ix (dVar 0) (dVar 10)))) (dNil)))) (dGt (n := 2) rfl (dGcons (dGn (i := 3) sc.nd rfl (by first | exact Or.inl rfl | exact Or.inr rfl)) (dGcons (dGn (i := 4) sc.nd rfl (by first | exact Or.inl rfl | exact Or.inr rfl)) (dGnil))))) (dBone (dRet (dFz (dLcO (own := [("_law_k", 10)]) rfl sc.nd (dIrng1 rfl f_range (dCons (dCallB m_len call_lenA rfl f_len bb_len (dCons (dVar 3) (dNil))) (dNil))) (blkOk_by (by kernel_rfl)) (fun _ _ _ _ _ => dGn (i := 10) sc.nd rfl (by first | exact Or.inl rfl | exact Or.inr rfl)) (fun _ _ _ _ _ => dYes) (fun _ _ _ _ _ => dBin op_sub m_sub (dCallB m_sum (cr_sumA rfl) rfl f_sum bb_sum (dCons (dSl (dVar 3) (dOn) (dOs (dBin op_addA m_add (dVar 10) (dInt)))) (dNil))) (dCall G__law_power (hr.mono (by decide)) rfl g__law_power F__law_power.kp B__law_power (dCons (dVar 4) (dCons (dBin op_addA m_add (dVar 10) (dInt)) (dNil)))))))))) (dBnil)) (dBcons (dSet (i := 5) sc.nd rfl (by first | exact Or.inl rfl | exact Or.inr rfl) (dFz (dLstO (dCons (dFz (dLstO (dNil))) (dNil))))) (dBcons (dFor PassesOwn.never rfl (dIany (dVar 1)) (dGn (i := 6) sc.nd rfl (by first | exact Or.inl rfl | exact Or.inr rfl)) (dBone (dSet (i := 5) sc.nd rfl (by first | exact Or.inl rfl | exact Or.inr rfl) (dBin op_addA m_add (dVar 5) (dFz (dLcO (own := [("_law_one", 8)]) rfl sc.nd (dIany (dVar 5)) (blkOk_by (by kernel_rfl)) (fun _ _ _ _ _ => dGn (i := 8) sc.nd rfl (by first | exact Or.inl rfl | exact Or.inr rfl)) (fun _ _ _ _ _ => dYes) (fun _ _ _ _ _ => dBin op_addA m_add (dVar 8) (dFz (dLstO (dCons (dVar 6) (dNil))))))))))) (dBcons (dSetO (i := 7) sc.nd rfl (by first | exact Or.inl rfl | exact Or.inr rfl) (dRepO (dFz (dLstO (dCons (dNon) (dNil)))) (dBin op_addA m_add (dCallB m_len call_lenA rfl f_len bb_len (dCons (dVar 1) (dNil))) (dInt)))) (dBcons (dFor PassesOwn.never rfl (dIany (dVar 5)) (dGn (i := 8) sc.nd rfl (by first | exact Or.inl rfl | exact Or.inr rfl)) (dBcons (dSet (i := 9) sc.nd rfl (by first | exact Or.inl rfl | exact Or.inr rfl) (dCallB m_sum (cr_sumA rfl) rfl f_sum bb_sum (dCons (dFz (dLcO (own := [("_law_at", 6)]) rfl sc.nd (dIany (dVar 8)) (blkOk_by (by kernel_rfl)) (fun _ _ _ _ _ => dGn (i := 6) sc.nd rfl (by first | exact Or.inl rfl | exact Or.inr rfl)) (fun _ _ _ _ _ => dYes) (fun _ _ _ _ _ => dIx ix_seq m_ix (dVar 0) (dVar 6)))) (dNil)))) (dBcons (dFor PassesOwn.never rfl (dIany (dVar 2)) (dGn (i := 10) sc.nd rfl (by first | exact Or.inl rfl | exact Or.inr rfl)) (dBone (dSet (i := 9) sc.nd rfl (by first | exact Or.inl rfl | exact Or.inr rfl) (dBin op_sub m_sub (dVar 9) (dCall G__law_worth (hr.mono (by decide)) rfl g__law_worth F__law_worth.kp B__law_worth (dCons (dIx ix_seq m_ix (dVar 0) (dVar 10)) (dCons (dCallB m_len call_lenA rfl f_len bb_len (dCons (dFz (dLcO (own := [("_law_at", 6)]) rfl sc.nd (dIany (dVar 8)) (blkOk_by (by kernel_rfl)) (fun _ _ _ _ _ => dGn (i := 6) sc.nd rfl (by first | exact Or.inl rfl | exact Or.inr rfl)) (fun _ _ _ _ _ => pts_one (dTcmp op_gt m_gt (dVar 6) (dVar 10) (nomark _))) (fun _ _ _ _ _ => dVar 6))) (dNil))) (dNil)))))))) (dBone (dIfS (PW.pt (dOrT (dTcmp op_isA m_is (dIxO 7 (dCallB m_len call_lenA rfl f_len bb_len (dCons (dVar 8) (dNil)))) (dNon) (nomark _)) (dOr1 (dTcmp op_gt m_gt (dVar 9) (dIxO 7 (dCallB m_len call_lenA rfl f_len bb_len (dCons (dVar 8) (dNil)))) (nomark _))))) (dBone (dPut 7 (dVar 9) (dCallB m_len call_lenA rfl f_len bb_len (dCons (dVar 8) (dNil))))) (dBnil)))))) (dBone (dFrzS 7 (dRet (dSl (dVar 7) (dOs (dInt)) (dOn)))))))))))
theorem bi__law_drawn {K : PySem.W.Frag} {mg : Str → Option Value} (C : HF fa fn K mg) : Binds K (fdOf K (Pl.ad K (.glob "_law_drawn"))) ["_law_pot_here"] [] := (C.fun_ 9 (d := d__law_drawn) rfl).bindsN fun _ _ _ _ _ _ us hl => match us, hl with | [_], _ => rfl
theorem ok__law_drawn (C : HF fa fn K mg) : FO cs P w K mg base 5 (.glob "_law_drawn") ["_law_pot_here"] 1 mf__law_drawn := by
  have G__law_draw := ok__law_draw (P := P) (w := w) (base := base) C
  have F__law_draw := C.fun_ 0 (d := d__law_draw) rfl
  have B__law_draw := bi__law_draw C
  have g__law_draw := C.glo 7 rfl
  have G__law_falling := ok__law_falling (P := P) (w := w) (base := base) C
  have F__law_falling := C.fun_ 2 (d := d__law_falling) rfl
  have B__law_falling := bi__law_falling C
  have g__law_falling := C.glo 10 rfl
  have f_range := C.free 4 rfl
  have G__law_near_row := ok__law_near_row (P := P) (w := w) (base := base) C
  have F__law_near_row := C.fun_ 5 (d := d__law_near_row) rfl
  have B__law_near_row := bi__law_near_row C
  have g__law_near_row := C.glo 14 rfl
  have G__law_row_pays := ok__law_row_pays (P := P) (w := w) (base := base) C
  have F__law_row_pays := C.fun_ 6 (d := d__law_row_pays) rfl
  have B__law_row_pays := bi__law_row_pays C
  have G__law_asks := ok__law_asks (P := P) (w := w) (base := base) C
  have F__law_asks := C.fun_ 8 (d := d__law_asks) rfl
  have B__law_asks := bi__law_asks C
  have g__law_asks := C.glo 18 rfl
  have g__law_row_pays := C.glo 19 rfl
  have sc := sc__law_drawn
  refine fn_mir (C.fun_ 9 (d := d__law_drawn) rfl) sc__law_drawn fun cdv A outer s H E p F0 hr => ?_
  exact dBcons (dParT (is := [1, 2, 3, 4]) rfl (dNcons (i := 1) sc.nd rfl (by first | exact Or.inl rfl | exact Or.inr rfl) (dNcons (i := 2) sc.nd rfl (by first | exact Or.inl rfl | exact Or.inr rfl) (dNcons (i := 3) sc.nd rfl (by first | exact Or.inl rfl | exact Or.inr rfl) (dNcons (i := 4) sc.nd rfl (by first | exact Or.inl rfl | exact Or.inr rfl) (dNnil))))) (dMsh (dCall G__law_falling (hr.mono (by decide)) rfl g__law_falling F__law_falling.kp B__law_falling (dCons (dVar 0) (dCons (dInt) (dNil)))) (dMsh (dCall G__law_draw (hr.mono (by decide)) rfl g__law_draw F__law_draw.kp B__law_draw (dCons (dVar 0) (dCons (dInt) (dNil)))) (dMow (dLstO (dNil)) (dMow (dLstO (dNil)) (dMnil)))))) (dBcons (dFor PassesOwn.never rfl (dIrng1 rfl f_range (dCons (dCall G__law_draw (hr.mono (by decide)) rfl g__law_draw F__law_draw.kp B__law_draw (dCons (dVar 0) (dCons (dInt) (dNil)))) (dNil))) (dGn (i := 5) sc.nd rfl (by first | exact Or.inl rfl | exact Or.inr rfl)) (dBcons (dSet (i := 6) sc.nd rfl (by first | exact Or.inl rfl | exact Or.inr rfl) (dCall G__law_near_row (hr.mono (by decide)) rfl g__law_near_row F__law_near_row.kp B__law_near_row (dCons (dVar 0) (dCons (dVar 1) (dNil))))) (dBone (dIfS (dTcmp (op_neD hr.units) m_ne (dCall G__law_row_pays (hr.mono (by decide)) rfl g__law_row_pays F__law_row_pays.kp B__law_row_pays (dCons (dVar 1) (dCons (dCall G__law_asks (hr.mono (by decide)) rfl g__law_asks F__law_asks.kp B__law_asks (dCons (dVar 6) (dNil))) (dNil)))) (dCmp (op_eqD hr.units) m_eq (dVar 2) (dVar 5) (nomark _)) (nomark _)) (dBone (dApp 3 (dVar 6))) (dBone (dApp 4 (dVar 6))))))) (dBone (dFrzS 3 (dFrzS 4 (dRet (dTup (dCons (dVar 1) (dCons (dSl (dVar 3) (dOn) (dOs (dInt))) (dCons (dSl (dVar 4) (dOn) (dOs (dInt))) (dNil))))))))))
theorem bi__law_least {K : PySem.W.Frag} {mg : Str → Option Value} (C : HF fa fn K mg) : Binds K (fdOf K (Pl.ad K (.glob "_law_least"))) ["_law_asks_here"] [] := (C.fun_ 10 (d := d__law_least) rfl).bindsN fun _ _ _ _ _ _ us hl => match us, hl with | [_], _ => rfl
theorem ok__law_least (C : HF fa fn K mg) : FO cs P w K mg base 1 (.glob "_law_least") ["_law_asks_here"] 1 mf__law_least := by
  have f_len := C.free 1 rfl
  have f_range := C.free 4 rfl
  have f_max := C.free 3 rfl
  have sc := sc__law_least
  refine fn_mir (C.fun_ 10 (d := d__law_least) rfl) sc__law_least fun cdv A outer s H E p F0 hr => ?_
  exact dBcons (dParT (is := [1, 2]) rfl (dNcons (i := 1) sc.nd rfl (by first | exact Or.inl rfl | exact Or.inr rfl) (dNcons (i := 2) sc.nd rfl (by first | exact Or.inl rfl | exact Or.inr rfl) (dNnil))) (dMow (dLstO (dNil)) (dMsh (dInt) (dMnil)))) (dBcons (dFor PassesOwn.never rfl (dIrng1 rfl f_range (dCons (dCallB m_len call_lenA rfl f_len bb_len (dCons (dVar 0) (dNil))) (dNil))) (dGn (i := 3) sc.nd rfl (by first | exact Or.inl rfl | exact Or.inr rfl)) (dBcons (dSet (i := 4) sc.nd rfl (by first | exact Or.inl rfl | exact Or.inr rfl) (dCallB m_max (cr_maxA rfl) rfl f_max bb_max (dCons (dFz (dLcO (own := [("_law_k", 5)]) rfl sc.nd (dIrng2 rfl f_range (dCons (dVar 3) (dCons (dCallB m_len call_lenA rfl f_len bb_len (dCons (dVar 0) (dNil))) (dNil)))) (blkOk_by (by kernel_rfl)) (fun _ _ _ _ _ => dGn (i := 5) sc.nd rfl (by first | exact Or.inl rfl | exact Or.inr rfl)) (fun _ _ _ _ _ => dYes) (fun _ _ _ _ _ => dUn un_neg m_neg (dBin op_fdivW m_fdiv (dBin op_sub m_sub (dVar 2) (dIx ix_seq m_ix (dVar 0) (dVar 5))) (dBin op_addA m_add (dBin op_sub m_sub (dVar 5) (dVar 3)) (dInt)))))) (dNil)))) (dBcons (dIfS (dTcmp op_le m_le (dVar 4) (dInt) (nomark _)) (dBone (dFrzS 1 (dRet (dVar 1)))) (dBnil)) (dBcons (dApp 1 (dVar 4)) (dBone (dSet (i := 2) sc.nd rfl (by first | exact Or.inl rfl | exact Or.inr rfl) (dBin op_addA m_add (dVar 2) (dVar 4)))))))) (dBone (dFrzS 1 (dRet (dVar 1)))))
theorem bi__law_joined {K : PySem.W.Frag} {mg : Str → Option Value} (C : HF fa fn K mg) : Binds K (fdOf K (Pl.ad K (.glob "_law_joined"))) ["_law_tables"] [] := (C.fun_ 11 (d := d__law_joined) rfl).bindsN fun _ _ _ _ _ _ us hl => match us, hl with | [_], _ => rfl
theorem ok__law_joined (C : HF fa fn K mg) : FO cs P w K mg base 1 (.glob "_law_joined") ["_law_tables"] 1 mf__law_joined := by
  have f_len := C.free 1 rfl
  have f_max := C.free 3 rfl
  have f_range := C.free 4 rfl
  have sc := sc__law_joined
  refine fn_mir (C.fun_ 11 (d := d__law_joined) rfl) sc__law_joined fun cdv A outer s H E p F0 hr => ?_
  exact dBcons (dSet (i := 1) sc.nd rfl (by first | exact Or.inl rfl | exact Or.inr rfl) (dCallB m_max (cr_maxA rfl) rfl f_max bb_max (dCons (dBin op_addA m_add (dFz (dLstO (dCons (dInt) (dNil)))) (dFz (dLcO (own := [("_law_asks_here", 2)]) rfl sc.nd (dIany (dVar 0)) (blkOk_by (by kernel_rfl)) (fun _ _ _ _ _ => dGn (i := 2) sc.nd rfl (by first | exact Or.inl rfl | exact Or.inr rfl)) (fun _ _ _ _ _ => dYes) (fun _ _ _ _ _ => dCallB m_len call_lenA rfl f_len bb_len (dCons (dVar 2) (dNil)))))) (dNil)))) (dBone (dRet (dFz (dLcO (own := [("_law_k", 3)]) rfl sc.nd (dIrng1 rfl f_range (dCons (dVar 1) (dNil))) (blkOk_by (by kernel_rfl)) (fun _ _ _ _ _ => dGn (i := 3) sc.nd rfl (by first | exact Or.inl rfl | exact Or.inr rfl)) (fun _ _ _ _ _ => dYes) (fun _ _ _ _ _ => dCallB m_max (cr_maxA rfl) rfl f_max bb_max (dCons (dFz (dLcO (own := [("_law_asks_here", 2)]) rfl sc.nd (dIany (dVar 0)) (blkOk_by (by kernel_rfl)) (fun _ _ _ _ _ => dGn (i := 2) sc.nd rfl (by first | exact Or.inl rfl | exact Or.inr rfl)) (fun _ _ _ _ _ => pts_one (dTcmp op_lt m_lt (dVar 3) (dCallB m_len call_lenA rfl f_len bb_len (dCons (dVar 2) (dNil))) (nomark _))) (fun _ _ _ _ _ => dIx ix_seq m_ix (dVar 2) (dVar 3)))) (dNil)))))))
theorem bi_is_integer {K : PySem.W.Frag} {mg : Str → Option Value} (C : HF fa fn K mg) : Binds K (fdOf K (Pl.ad K (.glob "is_integer"))) ["value"] [] := (C.fun_ 12 (d := d_is_integer) rfl).bindsN fun _ _ _ _ _ _ us hl => match us, hl with | [_], _ => rfl
theorem ok_is_integer (C : HF fa fn K mg) : FO cs P w K mg base 1 (.glob "is_integer") ["value"] 1 mf_is_integer := by
  have isi := isi_ok (C.fact 0 rfl)
  have f_int := C.free 5 rfl
  have f_isinstance := C.free 16 rfl
  have f_bool := C.free 26 rfl
  have sc := sc_is_integer
  refine fn_mir (C.fun_ 12 (d := d_is_integer) rfl) sc_is_integer fun cdv A outer s H E p F0 hr => ?_
  exact dBone (dRet (dAndV (dCallB (m_isi isi) call_isi rfl f_isinstance bb_isinstance (dCons (dVar 0) (dCons (dTy rfl f_int bb_int) (dNil)))) (dOneV (dNotV (dCallB (m_isi isi) call_isi rfl f_isinstance bb_isinstance (dCons (dVar 0) (dCons (dTy rfl f_bool bb_bool) (dNil))))))))
theorem bi_is_natural {K : PySem.W.Frag} {mg : Str → Option Value} (C : HF fa fn K mg) : Binds K (fdOf K (Pl.ad K (.glob "is_natural"))) ["value"] [] := (C.fun_ 13 (d := d_is_natural) rfl).bindsN fun _ _ _ _ _ _ us hl => match us, hl with | [_], _ => rfl
theorem ok_is_natural (C : HF fa fn K mg) : FO cs P w K mg base 2 (.glob "is_natural") ["value"] 1 mf_is_natural := by
  have G_is_integer := ok_is_integer (P := P) (w := w) (base := base) C
  have F_is_integer := C.fun_ 12 (d := d_is_integer) rfl
  have B_is_integer := bi_is_integer C
  have g_is_integer := C.glo 27 rfl
  have sc := sc_is_natural
  refine fn_mir (C.fun_ 13 (d := d_is_natural) rfl) sc_is_natural fun cdv A outer s H E p F0 hr => ?_
  exact dBone (dRet (dAndV (dCall G_is_integer (hr.mono (by decide)) rfl g_is_integer F_is_integer.kp B_is_integer (dCons (dVar 0) (dNil))) (dOneV (dCmp op_ge m_ge (dVar 0) (dInt) (nomark _)))))
theorem bi_wrong_event {K : PySem.W.Frag} {mg : Str → Option Value} (C : HF fa fn K mg) : Binds K (fdOf K (Pl.ad K (.glob "wrong_event"))) ["events"] [] := (C.fun_ 14 (d := d_wrong_event) rfl).bindsN fun _ _ _ _ _ _ us hl => match us, hl with | [_], _ => rfl
theorem ok_wrong_event (C : HF fa fn K mg) : FO cs P w K mg base 3 (.glob "wrong_event") ["events"] 1 mf_wrong_event := by
  have f_enumerate := C.free 24 rfl
  have isi := isi_ok (C.fact 0 rfl)
  have g_Card := C.glo 25 rfl
  have f_isinstance := C.free 16 rfl
  have G_is_natural := ok_is_natural (P := P) (w := w) (base := base) C
  have F_is_natural := C.fun_ 13 (d := d_is_natural) rfl
  have B_is_natural := bi_is_natural C
  have g_is_natural := C.glo 28 rfl
  obtain ⟨_, k_MOST_BILLS⟩ := C.int 29 rfl
  obtain ⟨_, k_MOST_COMING⟩ := C.int 30 rfl
  have sc := sc_wrong_event
  refine fn_mir (C.fun_ 14 (d := d_wrong_event) rfl) sc_wrong_event fun cdv A outer s H E p F0 hr => ?_
  exact dBcons (dSet (i := 1) sc.nd rfl (by first | exact Or.inl rfl | exact Or.inr rfl) (dInt)) (dBcons (dSet (i := 2) sc.nd rfl (by first | exact Or.inl rfl | exact Or.inr rfl) (dInt)) (dBcons (dFor PassesOwn.never rfl (dIenumA rfl f_enumerate (dCons (dVar 0) (dNil))) (dGt (n := 2) rfl (dGcons (dGn (i := 3) sc.nd rfl (by first | exact Or.inl rfl | exact Or.inr rfl)) (dGcons (dGn (i := 4) sc.nd rfl (by first | exact Or.inl rfl | exact Or.inr rfl)) (dGnil)))) (dBcons (dIfS (dTst (dCallB (m_isi isi) call_isi rfl f_isinstance bb_isinstance (dCons (dVar 4) (dCons (dGC (k := "Card") hc_Card rfl g_Card) (dNil))))) (dBone (dAug (i := 2) m_addI ip_add sc.nd rfl (by first | exact Or.inl rfl | exact Or.inr rfl) (dInt))) (dBone (dIfS (dTst (dCall G_is_natural (hr.mono (by decide)) rfl g_is_natural F_is_natural.kp B_is_natural (dCons (dVar 4) (dNil)))) (dBone (dAug (i := 1) m_addI ip_add sc.nd rfl (by first | exact Or.inl rfl | exact Or.inr rfl) (dInt))) (dBone (dRet (dVar 3)))))) (dBone (dIfS (PW.pt (dOrT (dTcmp op_gt m_gt (dVar 1) (dGI rfl k_MOST_BILLS) (nomark _)) (dOr1 (dTcmp op_gt m_gt (dVar 2) (dGI rfl k_MOST_COMING) (nomark _))))) (dBone (dRet (dVar 3))) (dBnil))))) (dBone (dRet (dNon)))))
theorem bi_Course___init__ {K : PySem.W.Frag} {mg : Str → Option Value} (C : HF fa fn K mg) : Binds K (fdOf K (Pl.ad K (.meth "Course" "__init__"))) ["self", "events"] [] := (C.fun_ 15 (d := d_Course___init__) rfl).bindsN fun _ _ _ _ _ _ us hl => match us, hl with | [_, _], _ => rfl
theorem ok_Course___init__ (C : HF fa fn K mg) : FnOk P w K mg base CX0 4 (Pl.ad K (.meth "Course" "__init__")) (fdOf K (Pl.ad K (.meth "Course" "__init__"))) ["self", "events"] (spI (WW cs K) "Course" 1 mf_Course___init__) := by
  have isi := isi_ok (C.fact 0 rfl)
  have f_tuple := C.free 23 rfl
  have f_isinstance := C.free 16 rfl
  have G_wrong_event := ok_wrong_event (P := P) (w := w) (base := base) C
  have F_wrong_event := C.fun_ 14 (d := d_wrong_event) rfl
  have B_wrong_event := bi_wrong_event C
  have g_wrong_event := C.glo 31 rfl
  have n_Course_passed := C.noat 32 rfl
  have c_Course := C.cls 33 rfl
  have sc := sc_Course___init__
  refine fn_init (ck := "Course") (nm := "self") (N := ["events", "wrong"]) (n := 1) (C.fun_ 15 (d := d_Course___init__) rfl) sc_Course___init__ rfl fun cdv A outer s H E p F0 H0 sf hr => ?_
  exact dBcons (dIfS (dNotT (dTst (dCallB (m_isi isi) call_isi rfl f_isinstance bb_isinstance (dCons (dVar 1) (dCons (dTy rfl f_tuple bb_tuple) (dNil)))))) (dBone (dNever)) (dBnil)) (dBcons (dSet (i := 2) sc.nd rfl (by first | exact Or.inl rfl | exact Or.inr rfl) (dCall G_wrong_event (hr.mono (by decide)) rfl g_wrong_event F_wrong_event.kp B_wrong_event (dCons (dVar 1) (dNil)))) (dBcons (dIfS (dTcmp op_isntA m_isnt (dVar 2) (dNon) (nomark _)) (dBone (dNever)) (dBnil)) (dBone (dSelfSet (ck := "Course") 0 c_Course n_Course_passed (dVar 1)))))
theorem bi_Card___init__ {K : PySem.W.Frag} {mg : Str → Option Value} (C : HF fa fn K mg) : Binds K (fdOf K (Pl.ad K (.meth "Card" "__init__"))) ["self", "balance", "limit"] [] := (C.fun_ 16 (d := d_Card___init__) rfl).bindsN fun _ _ _ _ _ _ us hl => match us, hl with | [_, _, _], _ => rfl
theorem ok_Card___init__ (C : HF fa fn K mg) : FnOk P w K mg base CX0 3 (Pl.ad K (.meth "Card" "__init__")) (fdOf K (Pl.ad K (.meth "Card" "__init__"))) ["self", "balance", "limit"] (spI (WW cs K) "Card" 2 mf_Card___init__) := by
  have G_is_natural := ok_is_natural (P := P) (w := w) (base := base) C
  have F_is_natural := C.fun_ 13 (d := d_is_natural) rfl
  have B_is_natural := bi_is_natural C
  have g_is_natural := C.glo 28 rfl
  obtain ⟨_, k_MOST_DAYS⟩ := C.int 35 rfl
  have n_Card_held := C.noat 36 rfl
  have c_Card := C.cls 37 rfl
  have n_Card_daily := C.noat 38 rfl
  have sc := sc_Card___init__
  refine fn_init (ck := "Card") (nm := "self") (N := ["balance", "limit"]) (n := 2) (C.fun_ 16 (d := d_Card___init__) rfl) sc_Card___init__ rfl fun cdv A outer s H E p F0 H0 sf hr => ?_
  exact dBcons (dIfS (dNotT (dTst (dCall G_is_natural (hr.mono (by decide)) rfl g_is_natural F_is_natural.kp B_is_natural (dCons (dVar 1) (dNil))))) (dBone (dNever)) (dBnil)) (dBcons (dIfS (PW.pt (dOrT (dNotT (dTst (dCall G_is_natural (hr.mono (by decide)) rfl g_is_natural F_is_natural.kp B_is_natural (dCons (dVar 2) (dNil))))) (dOr1 (dTcmp (op_eqD hr.units) m_eq (dVar 2) (dInt) (nomark _))))) (dBone (dNever)) (dBnil)) (dBcons (dIfS (dTcmp op_gt m_gt (dVar 1) (dBin op_mulA m_mul (dGI rfl k_MOST_DAYS) (dVar 2)) (nomark _)) (dBone (dNever)) (dBnil)) (dBcons (dSelfSet (ck := "Card") 0 c_Card n_Card_held (dVar 1)) (dBone (dSelfSet (ck := "Card") 0 c_Card n_Card_daily (dVar 2))))))
theorem bi__law_course {K : PySem.W.Frag} {mg : Str → Option Value} (C : HF fa fn K mg) : Binds K (fdOf K (Pl.ad K (.glob "_law_course"))) ["_law_events"] [] := (C.fun_ 17 (d := d__law_course) rfl).bindsN fun _ _ _ _ _ _ us hl => match us, hl with | [_], _ => rfl
theorem ok__law_course (C : HF fa fn K mg) : FO cs P w K mg base 6 (.glob "_law_course") ["_law_events"] 1 mf__law_course := by
  have G_Course___init__ := ok_Course___init__ (P := P) (w := w) (base := base) C
  have F_Course___init__ := C.fun_ 15 (d := d_Course___init__) rfl
  have B_Course___init__ := bi_Course___init__ C
  have m_Course := C.mkr 34 rfl
  have isi := isi_ok (C.fact 0 rfl)
  have f_int := C.free 5 rfl
  have f_isinstance := C.free 16 rfl
  have G_Card___init__ := ok_Card___init__ (P := P) (w := w) (base := base) C
  have F_Card___init__ := C.fun_ 16 (d := d_Card___init__) rfl
  have B_Card___init__ := bi_Card___init__ C
  have m_Card := C.mkr 39 rfl
  have g_Card := C.glo 25 rfl
  have f_tuple := C.free 23 rfl
  have g_Course := C.glo 40 rfl
  have sc := sc__law_course
  refine fn_mir (C.fun_ 17 (d := d__law_course) rfl) sc__law_course fun cdv A outer s H E p F0 hr => ?_
  exact dBone (dRet (dMake (ck := "Course") hc_Course m_Course G_Course___init__ (hr.mono (by decide)) rfl g_Course B_Course___init__ (dCons (dCallT m_tup call_tuple_of rfl f_tuple bb_tuple (dCons (dFz (dLcO (own := [("_law_event", 1)]) rfl sc.nd (dIany (dVar 0)) (blkOk_by (by kernel_rfl)) (fun _ _ _ _ _ => dGn (i := 1) sc.nd rfl (by first | exact Or.inl rfl | exact Or.inr rfl)) (fun _ _ _ _ _ => dYes) (fun _ _ _ _ _ => dIf (dTst (dCallB (m_isi isi) call_isi rfl f_isinstance bb_isinstance (dCons (dVar 1) (dCons (dTy rfl f_int bb_int) (dNil))))) (dVar 1) (dMake (ck := "Card") hc_Card m_Card G_Card___init__ (hr.mono (by decide)) rfl g_Card B_Card___init__ (dCons (dIx ix_seq m_ix (dVar 1) (dInt)) (dCons (dIx ix_seq m_ix (dVar 1) (dInt)) (dNil))))))) (dNil))) (dNil))))
theorem bi_wrong_course {K : PySem.W.Frag} {mg : Str → Option Value} (C : HF fa fn K mg) : Binds K (fdOf K (Pl.ad K (.glob "wrong_course"))) ["values"] [] := (C.fun_ 18 (d := d_wrong_course) rfl).bindsN fun _ _ _ _ _ _ us hl => match us, hl with | [_], _ => rfl
theorem ok_wrong_course (C : HF fa fn K mg) : FO cs P w K mg base 1 (.glob "wrong_course") ["values"] 1 mf_wrong_course := by
  have f_enumerate := C.free 24 rfl
  have isi := isi_ok (C.fact 0 rfl)
  have g_Course := C.glo 40 rfl
  have f_isinstance := C.free 16 rfl
  obtain ⟨_, k_MOST_FACTS⟩ := C.int 42 rfl
  have sc := sc_wrong_course
  refine fn_mir (C.fun_ 18 (d := d_wrong_course) rfl) sc_wrong_course fun cdv A outer s H E p F0 hr => ?_
  exact dBcons (dFor PassesOwn.never rfl (dIenumA rfl f_enumerate (dCons (dVar 0) (dNil))) (dGt (n := 2) rfl (dGcons (dGn (i := 1) sc.nd rfl (by first | exact Or.inl rfl | exact Or.inr rfl)) (dGcons (dGn (i := 2) sc.nd rfl (by first | exact Or.inl rfl | exact Or.inr rfl)) (dGnil)))) (dBone (dIfS (PW.pt (dOrT (dNotT (dTst (dCallB (m_isi isi) call_isi rfl f_isinstance bb_isinstance (dCons (dVar 2) (dCons (dGC (k := "Course") hc_Course rfl g_Course) (dNil)))))) (dOr1 (dTcmp (op_eqD hr.units) m_eq (dVar 1) (dGI rfl k_MOST_FACTS) (nomark _))))) (dBone (dRet (dVar 1))) (dBnil)))) (dBone (dRet (dNon)))
theorem ok_Facts___init__ (C : HF fa fn K mg) : FnOk P w K mg base CX0 2 (Pl.ad K (.meth "Facts" "__init__")) (fdOf K (Pl.ad K (.meth "Facts" "__init__"))) ["self", "paid", "refused"] (spI (WW cs K) "Facts" 2 mf_Facts___init__) := by
  have isi := isi_ok (C.fact 0 rfl)
  have f_tuple := C.free 23 rfl
  have f_isinstance := C.free 16 rfl
  have G_wrong_course := ok_wrong_course (P := P) (w := w) (base := base) C
  have F_wrong_course := C.fun_ 18 (d := d_wrong_course) rfl
  have B_wrong_course := bi_wrong_course C
  have g_wrong_course := C.glo 43 rfl
  have n_Facts_known := C.noat 44 rfl
  have c_Facts := C.cls 45 rfl
  have n_Facts_unpaid := C.noat 46 rfl
  have sc := sc_Facts___init__
  refine fn_init (ck := "Facts") (nm := "self") (N := ["paid", "refused", "wrong"]) (n := 2) (C.fun_ 19 (d := d_Facts___init__) rfl) sc_Facts___init__ rfl fun cdv A outer s H E p F0 H0 sf hr => ?_
  exact dBcons (dIfS (dNotT (dTst (dCallB (m_isi isi) call_isi rfl f_isinstance bb_isinstance (dCons (dVar 1) (dCons (dTy rfl f_tuple bb_tuple) (dNil)))))) (dBone (dNever)) (dBnil)) (dBcons (dSet (i := 3) sc.nd rfl (by first | exact Or.inl rfl | exact Or.inr rfl) (dCall G_wrong_course (hr.mono (by decide)) rfl g_wrong_course F_wrong_course.kp B_wrong_course (dCons (dVar 1) (dNil)))) (dBcons (dIfS (dTcmp op_isntA m_isnt (dVar 3) (dNon) (nomark _)) (dBone (dNever)) (dBnil)) (dBcons (dIfS (dNotT (dTst (dCallB (m_isi isi) call_isi rfl f_isinstance bb_isinstance (dCons (dVar 2) (dCons (dTy rfl f_tuple bb_tuple) (dNil)))))) (dBone (dNever)) (dBnil)) (dBcons (dSet (i := 3) sc.nd rfl (by first | exact Or.inl rfl | exact Or.inr rfl) (dCall G_wrong_course (hr.mono (by decide)) rfl g_wrong_course F_wrong_course.kp B_wrong_course (dCons (dVar 2) (dNil)))) (dBcons (dIfS (dTcmp op_isntA m_isnt (dVar 3) (dNon) (nomark _)) (dBone (dNever)) (dBnil)) (dBcons (dSelfSet (ck := "Facts") 0 c_Facts n_Facts_known (dVar 1)) (dBone (dSelfSet (ck := "Facts") 0 c_Facts n_Facts_unpaid (dVar 2)))))))))
theorem bi_wrong_number {K : PySem.W.Frag} {mg : Str → Option Value} (C : HF fa fn K mg) : Binds K (fdOf K (Pl.ad K (.glob "wrong_number"))) ["row"] [] := (C.fun_ 20 (d := d_wrong_number) rfl).bindsN fun _ _ _ _ _ _ us hl => match us, hl with | [_], _ => rfl
theorem ok_wrong_number (C : HF fa fn K mg) : FO cs P w K mg base 3 (.glob "wrong_number") ["row"] 1 mf_wrong_number := by
  have f_enumerate := C.free 24 rfl
  have G_is_natural := ok_is_natural (P := P) (w := w) (base := base) C
  have F_is_natural := C.fun_ 13 (d := d_is_natural) rfl
  have B_is_natural := bi_is_natural C
  have g_is_natural := C.glo 28 rfl
  obtain ⟨_, k_MOST_DAYS⟩ := C.int 35 rfl
  have sc := sc_wrong_number
  refine fn_mir (C.fun_ 20 (d := d_wrong_number) rfl) sc_wrong_number fun cdv A outer s H E p F0 hr => ?_
  exact dBcons (dFor PassesOwn.never rfl (dIenumA rfl f_enumerate (dCons (dVar 0) (dNil))) (dGt (n := 2) rfl (dGcons (dGn (i := 1) sc.nd rfl (by first | exact Or.inl rfl | exact Or.inr rfl)) (dGcons (dGn (i := 2) sc.nd rfl (by first | exact Or.inl rfl | exact Or.inr rfl)) (dGnil)))) (dBcons (dIfS (PW.pt (dOrT (dNotT (dTst (dCall G_is_natural (hr.mono (by decide)) rfl g_is_natural F_is_natural.kp B_is_natural (dCons (dVar 2) (dNil))))) (dOrT (dTcmp (op_eqD hr.units) m_eq (dVar 2) (dInt) (nomark _)) (dOr1 (dTcmp (op_eqD hr.units) m_eq (dVar 1) (dGI rfl k_MOST_DAYS) (nomark _)))))) (dBone (dRet (dVar 1))) (dBnil)) (dBone (dIfS (PW.pt (dAndT (dTcmp op_gt m_gt (dVar 1) (dInt) (nomark _)) (dAnd1 (dTcmp op_gt m_gt (dVar 2) (dIx ix_seq m_ix (dVar 0) (dBin op_sub m_sub (dVar 1) (dInt))) (nomark _))))) (dBone (dRet (dVar 1))) (dBnil))))) (dBone (dRet (dNon)))
theorem bi_Form___init__ {K : PySem.W.Frag} {mg : Str → Option Value} (C : HF fa fn K mg) : Binds K (fdOf K (Pl.ad K (.meth "Form" "__init__"))) ["self", "row"] [] := (C.fun_ 21 (d := d_Form___init__) rfl).bindsN fun _ _ _ _ _ _ us hl => match us, hl with | [_, _], _ => rfl
theorem ok_Form___init__ (C : HF fa fn K mg) : FnOk P w K mg base CX0 4 (Pl.ad K (.meth "Form" "__init__")) (fdOf K (Pl.ad K (.meth "Form" "__init__"))) ["self", "row"] (spI (WW cs K) "Form" 1 mf_Form___init__) := by
  have isi := isi_ok (C.fact 0 rfl)
  have f_tuple := C.free 23 rfl
  have f_isinstance := C.free 16 rfl
  have G_wrong_number := ok_wrong_number (P := P) (w := w) (base := base) C
  have F_wrong_number := C.fun_ 20 (d := d_wrong_number) rfl
  have B_wrong_number := bi_wrong_number C
  have g_wrong_number := C.glo 49 rfl
  have n_Form_numbers := C.noat 50 rfl
  have c_Form := C.cls 51 rfl
  have sc := sc_Form___init__
  refine fn_init (ck := "Form") (nm := "self") (N := ["row", "wrong"]) (n := 1) (C.fun_ 21 (d := d_Form___init__) rfl) sc_Form___init__ rfl fun cdv A outer s H E p F0 H0 sf hr => ?_
  exact dBcons (dIfS (dNotT (dTst (dCallB (m_isi isi) call_isi rfl f_isinstance bb_isinstance (dCons (dVar 1) (dCons (dTy rfl f_tuple bb_tuple) (dNil)))))) (dBone (dNever)) (dBnil)) (dBcons (dSet (i := 2) sc.nd rfl (by first | exact Or.inl rfl | exact Or.inr rfl) (dCall G_wrong_number (hr.mono (by decide)) rfl g_wrong_number F_wrong_number.kp B_wrong_number (dCons (dVar 1) (dNil)))) (dBcons (dIfS (dTcmp op_isntA m_isnt (dVar 2) (dNon) (nomark _)) (dBone (dNever)) (dBnil)) (dBone (dSelfSet (ck := "Form") 0 c_Form n_Form_numbers (dVar 1)))))
theorem bi_least_row {K : PySem.W.Frag} {mg : Str → Option Value} (C : HF fa fn K mg) : Binds K (fdOf K (Pl.ad K (.glob "least_row"))) ["sums"] [] := (C.fun_ 22 (d := d_least_row) rfl).bindsN fun _ _ _ _ _ _ us hl => match us, hl with | [_], _ => rfl
theorem ok_least_row (C : HF fa fn K mg) : FO cs P w K mg base 1 (.glob "least_row") ["sums"] 1 mf_least_row := by
  have f_len := C.free 1 rfl
  have f_range := C.free 4 rfl
  have f_max := C.free 3 rfl
  have f_tuple := C.free 23 rfl
  have sc := sc_least_row
  refine fn_mir (C.fun_ 22 (d := d_least_row) rfl) sc_least_row fun cdv A outer s H E p F0 hr => ?_
  exact dBcons (dSetO (i := 1) sc.nd rfl (by first | exact Or.inl rfl | exact Or.inr rfl) (dLstO (dNil))) (dBcons (dSet (i := 2) sc.nd rfl (by first | exact Or.inl rfl | exact Or.inr rfl) (dInt)) (dBcons (dFor PassesOwn.never rfl (dIrng1 rfl f_range (dCons (dCallB m_len call_lenA rfl f_len bb_len (dCons (dVar 0) (dNil))) (dNil))) (dGn (i := 3) sc.nd rfl (by first | exact Or.inl rfl | exact Or.inr rfl)) (dBcons (dLcSet 4 [] (own := [("later", 6)]) rfl sc.nd rfl rfl (sw_true rfl rfl rfl (by kernel_rfl)) (dIrng2 rfl f_range (dCons (dVar 3) (dCons (dCallB m_len call_lenA rfl f_len bb_len (dCons (dVar 0) (dNil))) (dNil)))) (blkOk_by (by kernel_rfl)) (fun _ _ _ _ _ => dGn (i := 6) sc.nd rfl (by first | exact Or.inl rfl | exact Or.inr rfl)) (fun _ _ _ _ _ => dYes) (fun _ _ _ _ _ => dUn un_neg m_neg (dBin op_fdivW m_fdiv (dBin op_sub m_sub (dVar 2) (dIx ix_seq m_ix (dVar 0) (dVar 6))) (dBin op_addA m_add (dBin op_sub m_sub (dVar 6) (dVar 3)) (dInt))))) (dBcons (dSet (i := 5) sc.nd rfl (by first | exact Or.inl rfl | exact Or.inr rfl) (dCallB m_max (cr_maxA rfl) rfl f_max bb_max (dCons (dVar 4) (dNil)))) (dBcons (dIfS (dTcmp op_le m_le (dVar 5) (dInt) (nomark _)) (dBone (dBrk)) (dBnil)) (dBcons (dApp 1 (dVar 5)) (dBone (dSet (i := 2) sc.nd rfl (by first | exact Or.inl rfl | exact Or.inr rfl) (dBin op_addA m_add (dVar 2) (dVar 5))))))))) (dBone (dFrzS 1 (dRet (dCallT m_tup call_tuple_of rfl f_tuple bb_tuple (dCons (dVar 1) (dNil))))))))
theorem bi_worth {K : PySem.W.Frag} {mg : Str → Option Value} (C : HF fa fn K mg) : Binds K (fdOf K (Pl.ad K (.glob "worth"))) ["balance", "limit", "days"] [] := (C.fun_ 23 (d := d_worth) rfl).bindsN fun _ _ _ _ _ _ us hl => match us, hl with | [_, _, _], _ => rfl
theorem ok_worth (C : HF fa fn K mg) : FO cs P w K mg base 1 (.glob "worth") ["balance", "limit", "days"] 3 mf_worth := by
  have f_min := C.free 2 rfl
  have sc := sc_worth
  refine fn_mir (C.fun_ 23 (d := d_worth) rfl) sc_worth fun cdv A outer s H E p F0 hr => ?_
  exact dBone (dRet (dCallB m_min (cr_minA rfl) rfl f_min bb_min (dCons (dVar 0) (dCons (dBin op_mulA m_mul (dVar 2) (dVar 1)) (dNil)))))
theorem bi_Card_limit {K : PySem.W.Frag} {mg : Str → Option Value} (C : HF fa fn K mg) : Binds K (fdOf K (Pl.ad K (.prop "Card" "limit"))) ["self"] [] := (C.fun_ 24 (d := d_Card_limit) rfl).bindsN fun _ _ _ _ _ _ us hl => match us, hl with | [_], _ => rfl
theorem ok_Card_limit (C : HF fa fn K mg) : FO cs P w K mg base 1 (.prop "Card" "limit") ["self"] 1 mf_Card_limit := by
  have n_Card_daily := C.noat 38 rfl
  have c_Card := C.cls 37 rfl
  have sc := sc_Card_limit
  refine fn_mir (C.fun_ 24 (d := d_Card_limit) rfl) sc_Card_limit fun cdv A outer s H E p F0 hr => ?_
  exact dBone (dRet (dFld (ck := "Card") (ks := ["held", "daily"]) 1 rfl (by decide) c_Card n_Card_daily (dVar 0)))
theorem bi_Card_balance {K : PySem.W.Frag} {mg : Str → Option Value} (C : HF fa fn K mg) : Binds K (fdOf K (Pl.ad K (.prop "Card" "balance"))) ["self"] [] := (C.fun_ 25 (d := d_Card_balance) rfl).bindsN fun _ _ _ _ _ _ us hl => match us, hl with | [_], _ => rfl
theorem ok_Card_balance (C : HF fa fn K mg) : FO cs P w K mg base 1 (.prop "Card" "balance") ["self"] 1 mf_Card_balance := by
  have n_Card_held := C.noat 36 rfl
  have c_Card := C.cls 37 rfl
  have sc := sc_Card_balance
  refine fn_mir (C.fun_ 25 (d := d_Card_balance) rfl) sc_Card_balance fun cdv A outer s H E p F0 hr => ?_
  exact dBone (dRet (dFld (ck := "Card") (ks := ["held", "daily"]) 0 rfl (by decide) c_Card n_Card_held (dVar 0)))
theorem bi_asked_sets {K : PySem.W.Frag} {mg : Str → Option Value} (C : HF fa fn K mg) : Binds K (fdOf K (Pl.ad K (.glob "asked_sets"))) ["events"] [] := (C.fun_ 26 (d := d_asked_sets) rfl).bindsN fun _ _ _ _ _ _ us hl => match us, hl with | [_], _ => rfl
theorem ok_asked_sets (C : HF fa fn K mg) : FO cs P w K mg base 3 (.glob "asked_sets") ["events"] 1 mf_asked_sets := by
  have f_list := C.free 53 rfl
  have f_enumerate := C.free 24 rfl
  have f_reversed := C.free 54 rfl
  have isi := isi_ok (C.fact 0 rfl)
  have g_Card := C.glo 25 rfl
  have f_isinstance := C.free 16 rfl
  have G_worth := ok_worth (P := P) (w := w) (base := base) C
  have F_worth := C.fun_ 23 (d := d_worth) rfl
  have B_worth := bi_worth C
  have f_len := C.free 1 rfl
  have G_Card_limit := ok_Card_limit (P := P) (w := w) (base := base) C
  have F_Card_limit := C.fun_ 24 (d := d_Card_limit) rfl
  have B_Card_limit := bi_Card_limit C
  have p_Card_limit := prop_ok (C.fact 55 rfl)
  have c_Card := C.cls 37 rfl
  have G_Card_balance := ok_Card_balance (P := P) (w := w) (base := base) C
  have F_Card_balance := C.fun_ 25 (d := d_Card_balance) rfl
  have B_Card_balance := bi_Card_balance C
  have p_Card_balance := prop_ok (C.fact 56 rfl)
  have g_worth := C.glo 57 rfl
  have f_range := C.free 4 rfl
  have sc := sc_asked_sets
  refine fn_mir (C.fun_ 26 (d := d_asked_sets) rfl) sc_asked_sets fun cdv A outer s H E p F0 hr => ?_
  exact dBcons (dSet (i := 1) sc.nd rfl (by first | exact Or.inl rfl | exact Or.inr rfl) (dFz (dLstO (dCons (dTup (dCons (dInt) (dCons (dTup (dNil)) (dNil)))) (dNil))))) (dBcons (dFor PassesOwn.never rfl (dIrev rfl f_reversed (dCons (dLstEn rfl rfl f_list rfl f_enumerate (dCons (dVar 0) (dNil))) (dNil))) (dGt (n := 2) rfl (dGcons (dGn (i := 2) sc.nd rfl (by first | exact Or.inl rfl | exact Or.inr rfl)) (dGcons (dGn (i := 3) sc.nd rfl (by first | exact Or.inl rfl | exact Or.inr rfl)) (dGnil)))) (dBone (dIfS (dTst (dCallB (m_isi isi) call_isi rfl f_isinstance bb_isinstance (dCons (dVar 3) (dCons (dGC (k := "Card") hc_Card rfl g_Card) (dNil))))) (dBone (dSet (i := 1) sc.nd rfl (by first | exact Or.inl rfl | exact Or.inr rfl) (dFz (dLcO (own := [("asks", 6), ("days", 7)]) rfl sc.nd (dIany (dVar 1)) (blkOk_by (by kernel_rfl)) (fun _ _ _ _ _ => dGt (n := 2) rfl (dGcons (dGn (i := 6) sc.nd rfl (by first | exact Or.inl rfl | exact Or.inr rfl)) (dGcons (dGn (i := 7) sc.nd rfl (by first | exact Or.inl rfl | exact Or.inr rfl)) (dGnil)))) (fun _ _ _ _ _ => dYes) (fun _ _ _ _ _ => dTup (dCons (dBin op_sub m_sub (dVar 6) (dCall G_worth (hr.mono (by decide)) rfl g_worth F_worth.kp B_worth (dCons (dProp (ck := "Card") (dVar 3) c_Card p_Card_balance G_Card_balance (hr.mono (by decide)) B_Card_balance) (dCons (dProp (ck := "Card") (dVar 3) c_Card p_Card_limit G_Card_limit (hr.mono (by decide)) B_Card_limit) (dCons (dCallB m_len call_lenA rfl f_len bb_len (dCons (dVar 7) (dNil))) (dNil)))))) (dCons (dVar 7) (dNil)))))))) (dBcons (dSet (i := 4) sc.nd rfl (by first | exact Or.inl rfl | exact Or.inr rfl) (dFz (dLcO (own := [("asks", 6), ("days", 7)]) rfl sc.nd (dIany (dVar 1)) (blkOk_by (by kernel_rfl)) (fun _ _ _ _ _ => dGt (n := 2) rfl (dGcons (dGn (i := 6) sc.nd rfl (by first | exact Or.inl rfl | exact Or.inr rfl)) (dGcons (dGn (i := 7) sc.nd rfl (by first | exact Or.inl rfl | exact Or.inr rfl)) (dGnil)))) (fun _ _ _ _ _ => dYes) (fun _ _ _ _ _ => dTup (dCons (dBin op_addA m_add (dVar 6) (dVar 3)) (dCons (dBin op_addA m_add (dTup (dCons (dVar 2) (dNil))) (dVar 7)) (dNil))))))) (dBcons (dLcSet 5 [] (own := [("k", 8)]) rfl sc.nd rfl rfl (sw_true rfl rfl rfl (by kernel_rfl)) (dIrng2 rfl f_range (dCons (dInt) (dCons (dCallB m_len call_lenA rfl f_len bb_len (dCons (dVar 1) (dNil))) (dNil)))) (blkOk_by (by kernel_rfl)) (fun _ _ _ _ _ => dGn (i := 8) sc.nd rfl (by first | exact Or.inl rfl | exact Or.inr rfl)) (fun _ _ _ _ _ => dYes) (fun _ _ _ _ _ => dIf (dTcmp op_ge m_ge (dIx ix_seq m_ix (dIx ix_seq m_ix (dVar 1) (dVar 8)) (dInt)) (dIx ix_seq m_ix (dIx ix_seq m_ix (dVar 4) (dBin op_sub m_sub (dVar 8) (dInt))) (dInt)) (nomark _)) (dIx ix_seq m_ix (dVar 1) (dVar 8)) (dIx ix_seq m_ix (dVar 4) (dBin op_sub m_sub (dVar 8) (dInt))))) (dBone (dSet (i := 1) sc.nd rfl (by first | exact Or.inl rfl | exact Or.inr rfl) (dBin op_addA m_add (dBin op_addA m_add (dFz (dLstO (dCons (dIx ix_seq m_ix (dVar 1) (dInt)) (dNil)))) (dVar 5)) (dFz (dLstO (dCons (dIx ix_seq m_ix (dVar 4) (dUn un_neg m_neg (dInt))) (dNil)))))))))))) (dBone (dRet (dVar 1))))
theorem bi_asked {K : PySem.W.Frag} {mg : Str → Option Value} (C : HF fa fn K mg) : Binds K (fdOf K (Pl.ad K (.glob "asked"))) ["events"] [] := (C.fun_ 27 (d := d_asked) rfl).bindsN fun _ _ _ _ _ _ us hl => match us, hl with | [_], _ => rfl
theorem ok_asked (C : HF fa fn K mg) : FO cs P w K mg base 4 (.glob "asked") ["events"] 1 mf_asked := by
  have G_asked_sets := ok_asked_sets (P := P) (w := w) (base := base) C
  have F_asked_sets := C.fun_ 26 (d := d_asked_sets) rfl
  have B_asked_sets := bi_asked_sets C
  have g_asked_sets := C.glo 58 rfl
  have sc := sc_asked
  refine fn_mir (C.fun_ 27 (d := d_asked) rfl) sc_asked fun cdv A outer s H E p F0 hr => ?_
  exact dBone (dRet (dSl (dFz (dLcO (own := [("asks", 1), ("days", 2)]) rfl sc.nd (dIany (dCall G_asked_sets (hr.mono (by decide)) rfl g_asked_sets F_asked_sets.kp B_asked_sets (dCons (dVar 0) (dNil)))) (blkOk_by (by kernel_rfl)) (fun _ _ _ _ _ => dGt (n := 2) rfl (dGcons (dGn (i := 1) sc.nd rfl (by first | exact Or.inl rfl | exact Or.inr rfl)) (dGcons (dGn (i := 2) sc.nd rfl (by first | exact Or.inl rfl | exact Or.inr rfl)) (dGnil)))) (fun _ _ _ _ _ => dYes) (fun _ _ _ _ _ => dVar 1))) (dOs (dInt)) (dOn)))
theorem bi_Course_events {K : PySem.W.Frag} {mg : Str → Option Value} (C : HF fa fn K mg) : Binds K (fdOf K (Pl.ad K (.prop "Course" "events"))) ["self"] [] := (C.fun_ 28 (d := d_Course_events) rfl).bindsN fun _ _ _ _ _ _ us hl => match us, hl with | [_], _ => rfl
theorem ok_Course_events (C : HF fa fn K mg) : FO cs P w K mg base 1 (.prop "Course" "events") ["self"] 1 mf_Course_events := by
  have n_Course_passed := C.noat 32 rfl
  have c_Course := C.cls 33 rfl
  have sc := sc_Course_events
  refine fn_mir (C.fun_ 28 (d := d_Course_events) rfl) sc_Course_events fun cdv A outer s H E p F0 hr => ?_
  exact dBone (dRet (dFld (ck := "Course") (ks := ["passed"]) 0 rfl (by decide) c_Course n_Course_passed (dVar 0)))
theorem bi_most_asked {K : PySem.W.Frag} {mg : Str → Option Value} (C : HF fa fn K mg) : Binds K (fdOf K (Pl.ad K (.glob "most_asked"))) ["courses"] [] := (C.fun_ 29 (d := d_most_asked) rfl).bindsN fun _ _ _ _ _ _ us hl => match us, hl with | [_], _ => rfl
theorem ok_most_asked (C : HF fa fn K mg) : FO cs P w K mg base 5 (.glob "most_asked") ["courses"] 1 mf_most_asked := by
  have G_asked := ok_asked (P := P) (w := w) (base := base) C
  have F_asked := C.fun_ 27 (d := d_asked) rfl
  have B_asked := bi_asked C
  have G_Course_events := ok_Course_events (P := P) (w := w) (base := base) C
  have F_Course_events := C.fun_ 28 (d := d_Course_events) rfl
  have B_Course_events := bi_Course_events C
  have p_Course_events := prop_ok (C.fact 59 rfl)
  have c_Course := C.cls 33 rfl
  have g_asked := C.glo 60 rfl
  have f_len := C.free 1 rfl
  have f_max := C.free 3 rfl
  have f_range := C.free 4 rfl
  have sc := sc_most_asked
  refine fn_mir (C.fun_ 29 (d := d_most_asked) rfl) sc_most_asked fun cdv A outer s H E p F0 hr => ?_
  exact dBcons (dSet (i := 1) sc.nd rfl (by first | exact Or.inl rfl | exact Or.inr rfl) (dFz (dLcO (own := [("course", 3)]) rfl sc.nd (dIany (dVar 0)) (blkOk_by (by kernel_rfl)) (fun _ _ _ _ _ => dGn (i := 3) sc.nd rfl (by first | exact Or.inl rfl | exact Or.inr rfl)) (fun _ _ _ _ _ => dYes) (fun _ _ _ _ _ => dCall G_asked (hr.mono (by decide)) rfl g_asked F_asked.kp B_asked (dCons (dProp (ck := "Course") (dVar 3) c_Course p_Course_events G_Course_events (hr.mono (by decide)) B_Course_events) (dNil)))))) (dBcons (dSet (i := 2) sc.nd rfl (by first | exact Or.inl rfl | exact Or.inr rfl) (dMaxDf rfl (room65' hr) rfl f_max (dCons (dFz (dLcO (own := [("table", 4)]) rfl sc.nd (dIany (dVar 1)) (blkOk_by (by kernel_rfl)) (fun _ _ _ _ _ => dGn (i := 4) sc.nd rfl (by first | exact Or.inl rfl | exact Or.inr rfl)) (fun _ _ _ _ _ => dYes) (fun _ _ _ _ _ => dCallB m_len call_lenA rfl f_len bb_len (dCons (dVar 4) (dNil))))) (dNil)))) (dBone (dRet (dFz (dLcO (own := [("day", 5)]) rfl sc.nd (dIrng1 rfl f_range (dCons (dVar 2) (dNil))) (blkOk_by (by kernel_rfl)) (fun _ _ _ _ _ => dGn (i := 5) sc.nd rfl (by first | exact Or.inl rfl | exact Or.inr rfl)) (fun _ _ _ _ _ => dYes) (fun _ _ _ _ _ => dCallB m_max (cr_maxA rfl) rfl f_max bb_max (dCons (dFz (dLcO (own := [("table", 4)]) rfl sc.nd (dIany (dVar 1)) (blkOk_by (by kernel_rfl)) (fun _ _ _ _ _ => dGn (i := 4) sc.nd rfl (by first | exact Or.inl rfl | exact Or.inr rfl)) (fun _ _ _ _ _ => pts_one (dTcmp op_lt m_lt (dVar 5) (dCallB m_len call_lenA rfl f_len bb_len (dCons (dVar 4) (dNil))) (nomark _))) (fun _ _ _ _ _ => dIx ix_seq m_ix (dVar 4) (dVar 5)))) (dNil))))))))
theorem bi_least_of {K : PySem.W.Frag} {mg : Str → Option Value} (C : HF fa fn K mg) : Binds K (fdOf K (Pl.ad K (.glob "least_of"))) ["courses"] [] := (C.fun_ 30 (d := d_least_of) rfl).bindsN fun _ _ _ _ _ _ us hl => match us, hl with | [_], _ => rfl
theorem ok_least_of (C : HF fa fn K mg) : FO cs P w K mg base 6 (.glob "least_of") ["courses"] 1 mf_least_of := by
  have G_least_row := ok_least_row (P := P) (w := w) (base := base) C
  have F_least_row := C.fun_ 22 (d := d_least_row) rfl
  have B_least_row := bi_least_row C
  have G_most_asked := ok_most_asked (P := P) (w := w) (base := base) C
  have F_most_asked := C.fun_ 29 (d := d_most_asked) rfl
  have B_most_asked := bi_most_asked C
  have g_most_asked := C.glo 61 rfl
  have g_least_row := C.glo 62 rfl
  have sc := sc_least_of
  refine fn_mir (C.fun_ 30 (d := d_least_of) rfl) sc_least_of fun cdv A outer s H E p F0 hr => ?_
  exact dBone (dRet (dCall G_least_row (hr.mono (by decide)) rfl g_least_row F_least_row.kp B_least_row (dCons (dCall G_most_asked (hr.mono (by decide)) rfl g_most_asked F_most_asked.kp B_most_asked (dCons (dVar 0) (dNil))) (dNil))))
theorem bi_Facts_form {K : PySem.W.Frag} {mg : Str → Option Value} (C : HF fa fn K mg) : Binds K (fdOf K (Pl.ad K (.prop "Facts" "form"))) ["self"] [] := (C.fun_ 31 (d := d_Facts_form) rfl).bindsN fun _ _ _ _ _ _ us hl => match us, hl with | [_], _ => rfl
theorem ok_Facts_form (C : HF fa fn K mg) : FO cs P w K mg base 7 (.prop "Facts" "form") ["self"] 1 mf_Facts_form := by
  have G_Form___init__ := ok_Form___init__ (P := P) (w := w) (base := base) C
  have F_Form___init__ := C.fun_ 21 (d := d_Form___init__) rfl
  have B_Form___init__ := bi_Form___init__ C
  have m_Form := C.mkr 52 rfl
  have G_least_of := ok_least_of (P := P) (w := w) (base := base) C
  have F_least_of := C.fun_ 30 (d := d_least_of) rfl
  have B_least_of := bi_least_of C
  have n_Facts_known := C.noat 44 rfl
  have c_Facts := C.cls 45 rfl
  have g_least_of := C.glo 63 rfl
  have g_Form := C.glo 64 rfl
  have sc := sc_Facts_form
  refine fn_mir (C.fun_ 31 (d := d_Facts_form) rfl) sc_Facts_form fun cdv A outer s H E p F0 hr => ?_
  exact dBone (dRet (dMake (ck := "Form") hc_Form m_Form G_Form___init__ (hr.mono (by decide)) rfl g_Form B_Form___init__ (dCons (dCall G_least_of (hr.mono (by decide)) rfl g_least_of F_least_of.kp B_least_of (dCons (dFld (ck := "Facts") (ks := ["known", "unpaid"]) 0 rfl (by decide) c_Facts n_Facts_known (dVar 0)) (dNil))) (dNil))))
theorem bi_Form_row {K : PySem.W.Frag} {mg : Str → Option Value} (C : HF fa fn K mg) : Binds K (fdOf K (Pl.ad K (.prop "Form" "row"))) ["self"] [] := (C.fun_ 32 (d := d_Form_row) rfl).bindsN fun _ _ _ _ _ _ us hl => match us, hl with | [_], _ => rfl
theorem ok_Form_row (C : HF fa fn K mg) : FO cs P w K mg base 1 (.prop "Form" "row") ["self"] 1 mf_Form_row := by
  have n_Form_numbers := C.noat 50 rfl
  have c_Form := C.cls 51 rfl
  have sc := sc_Form_row
  refine fn_mir (C.fun_ 32 (d := d_Form_row) rfl) sc_Form_row fun cdv A outer s H E p F0 hr => ?_
  exact dBone (dRet (dFld (ck := "Form") (ks := ["numbers"]) 0 rfl (by decide) c_Form n_Form_numbers (dVar 0)))
theorem bi_number_at {K : PySem.W.Frag} {mg : Str → Option Value} (C : HF fa fn K mg) : Binds K (fdOf K (Pl.ad K (.glob "number_at"))) ["row", "index"] [] := (C.fun_ 33 (d := d_number_at) rfl).bindsN fun _ _ _ _ _ _ us hl => match us, hl with | [_, _], _ => rfl
theorem ok_number_at (C : HF fa fn K mg) : FO cs P w K mg base 1 (.glob "number_at") ["row", "index"] 2 mf_number_at := by
  have f_len := C.free 1 rfl
  have sc := sc_number_at
  refine fn_mir (C.fun_ 33 (d := d_number_at) rfl) sc_number_at fun cdv A outer s H E p F0 hr => ?_
  exact dBone (dRet (dIf (dTcmp op_lt m_lt (dVar 1) (dCallB m_len call_lenA rfl f_len bb_len (dCons (dVar 0) (dNil))) (nomark _)) (dIx ix_seq m_ix (dVar 0) (dVar 1)) (dInt)))
theorem bi_reaches {K : PySem.W.Frag} {mg : Str → Option Value} (C : HF fa fn K mg) : Binds K (fdOf K (Pl.ad K (.glob "reaches"))) ["row", "asks"] [] := (C.fun_ 34 (d := d_reaches) rfl).bindsN fun _ _ _ _ _ _ us hl => match us, hl with | [_, _], _ => rfl
theorem ok_reaches (C : HF fa fn K mg) : FO cs P w K mg base 2 (.glob "reaches") ["row", "asks"] 2 mf_reaches := by
  have f_enumerate := C.free 24 rfl
  have G_number_at := ok_number_at (P := P) (w := w) (base := base) C
  have F_number_at := C.fun_ 33 (d := d_number_at) rfl
  have B_number_at := bi_number_at C
  have g_number_at := C.glo 67 rfl
  have sc := sc_reaches
  refine fn_mir (C.fun_ 34 (d := d_reaches) rfl) sc_reaches fun cdv A outer s H E p F0 hr => ?_
  exact dBcons (dSet (i := 2) sc.nd rfl (by first | exact Or.inl rfl | exact Or.inr rfl) (dInt)) (dBcons (dFor PassesOwn.never rfl (dIenumA rfl f_enumerate (dCons (dVar 1) (dNil))) (dGt (n := 2) rfl (dGcons (dGn (i := 3) sc.nd rfl (by first | exact Or.inl rfl | exact Or.inr rfl)) (dGcons (dGn (i := 4) sc.nd rfl (by first | exact Or.inl rfl | exact Or.inr rfl)) (dGnil)))) (dBcons (dSet (i := 2) sc.nd rfl (by first | exact Or.inl rfl | exact Or.inr rfl) (dBin op_addA m_add (dVar 2) (dCall G_number_at (hr.mono (by decide)) rfl g_number_at F_number_at.kp B_number_at (dCons (dVar 0) (dCons (dVar 3) (dNil)))))) (dBone (dIfS (dTcmp op_lt m_lt (dVar 2) (dVar 4) (nomark _)) (dBone (dRet (dBl))) (dBnil))))) (dBone (dRet (dBl))))
theorem bi_first_paid {K : PySem.W.Frag} {mg : Str → Option Value} (C : HF fa fn K mg) : Binds K (fdOf K (Pl.ad K (.glob "first_paid"))) ["row", "courses"] [] := (C.fun_ 35 (d := d_first_paid) rfl).bindsN fun _ _ _ _ _ _ us hl => match us, hl with | [_, _], _ => rfl
theorem ok_first_paid (C : HF fa fn K mg) : FO cs P w K mg base 5 (.glob "first_paid") ["row", "courses"] 2 mf_first_paid := by
  have f_enumerate := C.free 24 rfl
  have G_reaches := ok_reaches (P := P) (w := w) (base := base) C
  have F_reaches := C.fun_ 34 (d := d_reaches) rfl
  have B_reaches := bi_reaches C
  have G_asked := ok_asked (P := P) (w := w) (base := base) C
  have F_asked := C.fun_ 27 (d := d_asked) rfl
  have B_asked := bi_asked C
  have G_Course_events := ok_Course_events (P := P) (w := w) (base := base) C
  have F_Course_events := C.fun_ 28 (d := d_Course_events) rfl
  have B_Course_events := bi_Course_events C
  have p_Course_events := prop_ok (C.fact 59 rfl)
  have c_Course := C.cls 33 rfl
  have g_asked := C.glo 60 rfl
  have g_reaches := C.glo 68 rfl
  have sc := sc_first_paid
  refine fn_mir (C.fun_ 35 (d := d_first_paid) rfl) sc_first_paid fun cdv A outer s H E p F0 hr => ?_
  exact dBcons (dFor PassesOwn.never rfl (dIenumA rfl f_enumerate (dCons (dVar 1) (dNil))) (dGt (n := 2) rfl (dGcons (dGn (i := 2) sc.nd rfl (by first | exact Or.inl rfl | exact Or.inr rfl)) (dGcons (dGn (i := 3) sc.nd rfl (by first | exact Or.inl rfl | exact Or.inr rfl)) (dGnil)))) (dBone (dIfS (dTst (dCall G_reaches (hr.mono (by decide)) rfl g_reaches F_reaches.kp B_reaches (dCons (dVar 0) (dCons (dCall G_asked (hr.mono (by decide)) rfl g_asked F_asked.kp B_asked (dCons (dProp (ck := "Course") (dVar 3) c_Course p_Course_events G_Course_events (hr.mono (by decide)) B_Course_events) (dNil))) (dNil))))) (dBone (dRet (dVar 2))) (dBnil)))) (dBone (dRet (dNon)))
theorem bi_Facts_fit {K : PySem.W.Frag} {mg : Str → Option Value} (C : HF fa fn K mg) : Binds K (fdOf K (Pl.ad K (.prop "Facts" "fit"))) ["self"] [] := (C.fun_ 36 (d := d_Facts_fit) rfl).bindsN fun _ _ _ _ _ _ us hl => match us, hl with | [_], _ => rfl
theorem ok_Facts_fit (C : HF fa fn K mg) : FO cs P w K mg base 7 (.prop "Facts" "fit") ["self"] 1 mf_Facts_fit := by
  have G_first_paid := ok_first_paid (P := P) (w := w) (base := base) C
  have F_first_paid := C.fun_ 35 (d := d_first_paid) rfl
  have B_first_paid := bi_first_paid C
  have n_Facts_unpaid := C.noat 46 rfl
  have c_Facts := C.cls 45 rfl
  have G_least_of := ok_least_of (P := P) (w := w) (base := base) C
  have F_least_of := C.fun_ 30 (d := d_least_of) rfl
  have B_least_of := bi_least_of C
  have n_Facts_known := C.noat 44 rfl
  have g_least_of := C.glo 63 rfl
  have g_first_paid := C.glo 69 rfl
  have sc := sc_Facts_fit
  refine fn_mir (C.fun_ 36 (d := d_Facts_fit) rfl) sc_Facts_fit fun cdv A outer s H E p F0 hr => ?_
  exact dBone (dRet (dCmp op_isA m_is (dCall G_first_paid (hr.mono (by decide)) rfl g_first_paid F_first_paid.kp B_first_paid (dCons (dCall G_least_of (hr.mono (by decide)) rfl g_least_of F_least_of.kp B_least_of (dCons (dFld (ck := "Facts") (ks := ["known", "unpaid"]) 0 rfl (by decide) c_Facts n_Facts_known (dVar 0)) (dNil))) (dCons (dFld (ck := "Facts") (ks := ["known", "unpaid"]) 1 rfl (by decide) c_Facts n_Facts_unpaid (dVar 0)) (dNil)))) (dNon) (nomark _)))

theorem bi__law_above {K : PySem.W.Frag} {mg : Str → Option Value} (C : HF fa fn K mg) : Binds K (fdOf K (Pl.ad K (.glob "_law_above"))) ["_law_row", "_law_asks_here"] [] := (C.fun_ 37 (d := d__law_above) rfl).bindsN fun _ _ _ _ _ _ us hl => match us, hl with | [_, _], _ => rfl
theorem ok__law_above (C : HF fa fn K mg) : FO cs P w K mg base 2 (.glob "_law_above") ["_law_row", "_law_asks_here"] 2 mf__law_above := by
  have f_len := C.free 1 rfl
  have f_max := C.free 3 rfl
  have f_range := C.free 4 rfl
  have f_sum := C.free 11 rfl
  have G__law_least := ok__law_least (P := P) (w := w) (base := base) C
  have F__law_least := C.fun_ 10 (d := d__law_least) rfl
  have B__law_least := bi__law_least C
  have G__law_joined := ok__law_joined (P := P) (w := w) (base := base) C
  have F__law_joined := C.fun_ 11 (d := d__law_joined) rfl
  have B__law_joined := bi__law_joined C
  have g__law_joined := C.glo 21 rfl
  have g__law_least := C.glo 22 rfl
  have sc := sc__law_above
  refine fn_mir (C.fun_ 37 (d := d__law_above) rfl) sc__law_above fun cdv A outer s H E p F0 hr => ?_
  exact dBcons (dLcSet 2 [] (own := [("_law_k", 3)]) rfl sc.nd rfl rfl (sw_true rfl rfl rfl (by kernel_rfl)) (dIrng1 rfl f_range (dCons (dCallB m_max (cr_maxA rfl) rfl f_max bb_max (dCons (dCallB m_len call_lenA rfl f_len bb_len (dCons (dVar 0) (dNil))) (dCons (dCallB m_len call_lenA rfl f_len bb_len (dCons (dVar 1) (dNil))) (dNil)))) (dNil))) (blkOk_by (by kernel_rfl)) (fun _ _ _ _ _ => dGn (i := 3) sc.nd rfl (by first | exact Or.inl rfl | exact Or.inr rfl)) (fun _ _ _ _ _ => dYes) (fun _ _ _ _ _ => dCallB m_sum (cr_sumA rfl) rfl f_sum bb_sum (dCons (dSl (dVar 0) (dOn) (dOs (dBin op_addA m_add (dVar 3) (dInt)))) (dNil)))) (dBone (dRet (dCall G__law_least (hr.mono (by decide)) rfl g__law_least F__law_least.kp B__law_least (dCons (dCall G__law_joined (hr.mono (by decide)) rfl g__law_joined F__law_joined.kp B__law_joined (dCons (dFz (dLstO (dCons (dVar 2) (dCons (dVar 1) (dNil))))) (dNil))) (dNil)))))
theorem bi__law_due {K : PySem.W.Frag} {mg : Str → Option Value} (C : HF fa fn K mg) : Binds K (fdOf K (Pl.ad K (.glob "_law_due"))) ["_law_row", "_law_unpaid", "_law_asks_here"] [] := (C.fun_ 38 (d := d__law_due) rfl).bindsN fun _ _ _ _ _ _ us hl => match us, hl with | [_, _, _], _ => rfl
theorem ok__law_due (C : HF fa fn K mg) : FOG cs P w K mg base 3 (.glob "_law_due") ["_law_row", "_law_unpaid", "_law_asks_here"] 3 mf__law_due := by
  have f_len := C.free 1 rfl
  have f_range := C.free 4 rfl
  have G__law_row_pays := ok__law_row_pays (P := P) (w := w) (base := base) C
  have F__law_row_pays := C.fun_ 6 (d := d__law_row_pays) rfl
  have B__law_row_pays := bi__law_row_pays C
  have g__law_row_pays := C.glo 19 rfl
  have f_str := C.free 72 rfl
  have f_repr := C.free 71 rfl
  have G__law_above := ok__law_above (P := P) (w := w) (base := base) C
  have F__law_above := C.fun_ 37 (d := d__law_above) rfl
  have B__law_above := bi__law_above C
  have g__law_above := C.glo 73 rfl
  have f_any := C.free 74 rfl
  have sc := sc__law_due
  refine fn_mirG (C.fun_ 38 (d := d__law_due) rfl) sc__law_due fun cdv A outer s H E p F0 hgd hr => ?_
  exact dBcons (dLcSet 3 [] (own := [("_law_k", 5)]) rfl sc.nd rfl rfl (sw_true rfl rfl rfl (by kernel_rfl)) (dIrng1 rfl f_range (dCons (dCallB m_len call_lenA rfl f_len bb_len (dCons (dVar 1) (dNil))) (dNil))) (blkOk_by (by kernel_rfl)) (fun _ _ _ _ _ => dGn (i := 5) sc.nd rfl (by first | exact Or.inl rfl | exact Or.inr rfl)) (fun _ _ _ _ _ => pts_one (dTst (dCall G__law_row_pays (hr.mono (by decide)) rfl g__law_row_pays F__law_row_pays.kp B__law_row_pays (dCons (dVar 0) (dCons (dIx ix_seq m_ix (dVar 1) (dVar 5)) (dNil)))))) (fun _ _ _ _ _ => dVar 5)) (dBcons (dIfS (dTcmp (op_neD hr.units) m_ne (dVar 3) (dFz (dLstO (dNil))) (nomark _)) (dBone (dRet (dTup (dCons (dStr) (dCons (dCallT m_strI call_str_int rfl f_str bb_str (dCons (dIx ix_seq m_ix (dVar 3) (dInt)) (dNil))) (dCons (dBl) (dNil))))))) (dBnil)) (dBcons (dIfS (dTst (dCall G__law_row_pays (hr.mono (by decide)) rfl g__law_row_pays F__law_row_pays.kp B__law_row_pays (dCons (dVar 0) (dCons (dVar 2) (dNil))))) (dBone (dRet (dTup (dCons (dStr) (dCons (dRepA (show RepsT _ _ 0 rtC from repsT0) hgd (hr.mono (by decide)) hr.u65 rfl f_repr (dStr)) (dNil)))))) (dBnil)) (dBcons (dSet (i := 4) sc.nd rfl (by first | exact Or.inl rfl | exact Or.inr rfl) (dCall G__law_above (hr.mono (by decide)) rfl g__law_above F__law_above.kp B__law_above (dCons (dVar 0) (dCons (dVar 2) (dNil))))) (dBone (dRet (dTup (dCons (dStr) (dCons (dRepA (show RepsT _ _ 0 rtC from repsT0) hgd (hr.mono (by decide)) hr.u65 rfl f_repr (dIf (dTst (dCallB m_any (cr_any rfl) rfl f_any bb_any (dCons (dFz (dLcO (own := [("_law_table", 6)]) rfl sc.nd (dIany (dVar 1)) (blkOk_by (by kernel_rfl)) (fun _ _ _ _ _ => dGn (i := 6) sc.nd rfl (by first | exact Or.inl rfl | exact Or.inr rfl)) (fun _ _ _ _ _ => dYes) (fun _ _ _ _ _ => dCall G__law_row_pays (hr.mono (by decide)) rfl g__law_row_pays F__law_row_pays.kp B__law_row_pays (dCons (dVar 4) (dCons (dVar 6) (dNil)))))) (dNil)))) (dStr) (dStr))) (dNil)))))))))
theorem bi__law_end {K : PySem.W.Frag} {mg : Str → Option Value} (C : HF fa fn K mg) : Binds K (fdOf K (Pl.ad K (.glob "_law_end"))) ["_law_act"] [] := (C.fun_ 39 (d := d__law_end) rfl).bindsN fun _ _ _ _ _ _ us hl => match us, hl with | [_], _ => rfl
theorem gv__law_end {X : Cx} {q : Str} (C : HF fa fn X.K X.mg) (hgd : X.A.guards = some []) (hr0 : Room 2 X.A) (cdg : Value) : GivesN X ["_law_act", "_law_told", "e"] "_law_end" (defScope st__law_end) (ga X.K "_law_end") cdg (defBody st__law_end) "_law_act" q (TTm (WW cs X.K) (mh__law_end es rtC rtH)) := by
  have isi := isi_ok (C.fact 0 rfl)
  have isx := isx_ok2 (cs := cs) (C.fact 77 rfl)
  have f_isinstance := C.free 16 rfl
  have f_repr := C.free 71 rfl
  have sc := sc__law_end
  refine gives_mir (mt := mt__law_end es rtH) (mr := mr__law_end rtC) (by decide) (fun f => rfl) (fun f c' s H p F act tl hact htl => ?_) (fun s H p F => ?_)
  · have hr : Room 1 (cxOf CX0 X.prog X.w X.K X.mg X.base ["_law_act", "_law_told", "e"] "_law_end" (defScope st__law_end) (ga X.K "_law_end") cdg X.A X.stack s H E0).nox.A := hr0.deeper _
    exact dTryAct1 (i := 1) (j := 2) rfl rfl sc.nd rfl (by first | exact Or.inl rfl | exact Or.inr rfl) (by first | exact Or.inl rfl | exact Or.inr rfl) (fun _ _ => rfl) rfl rfl ⟨rfl, by decide, Or.inl (C.gls 76 rfl (x := "NoWallet") (by decide))⟩ rfl hact htl (exm_ok (C.fact 79 rfl)) (fun a oe pn F1 H1 hh => (have hr : L2H.RoomH 1 ((cxOf CX0 X.prog X.w X.K X.mg X.base ["_law_act", "_law_told", "e"] "_law_end" (defScope st__law_end) (ga X.K "_law_end") cdg X.A X.stack s H E0).nox.suite a pn).A := ⟨hr.dp, hr.un⟩; dBone (dRet (dTup (dCons (dStr) (dCons (dRepH (show RepsH _ _ 0 rtH from repsH0) hgd hh (hr.mono (by decide)) hr.u65 rfl f_repr (dExf2 isx (noa_ok (C.fact 78 rfl) (by decide)) rfl (dVar 2))) (dCons (dCallB (m_isx2 isi isx) call_isx rfl f_isinstance bb_isinstance (dCons (dVar 2) (dCons (dGE (k := "NoAnswer") (by decide) rfl (C.gls 76 rfl (x := "NoAnswer") (by decide))) (dNil)))) (dNil))))))))
  · have hr : Room 1 (cxOf CX0 X.prog X.w X.K X.mg X.base ["_law_act", "_law_told", "e"] "_law_end" (defScope st__law_end) (ga X.K "_law_end") cdg X.A X.stack s H E0).nox.A := hr0.deeper _
    exact dBone (dRet (dTup (dCons (dStr) (dCons (dRepA (show RepsT _ _ 0 rtC from repsT0) hgd (hr.mono (by decide)) hr.u65 rfl f_repr (dVar 1)) (dNil)))))
theorem bi_check_course {K : PySem.W.Frag} {mg : Str → Option Value} (C : HF fa fn K mg) : Binds K (fdOf K (Pl.ad K (.glob "check_course"))) ["value"] [] := (C.fun_ 40 (d := d_check_course) rfl).bindsN fun _ _ _ _ _ _ us hl => match us, hl with | [_], _ => rfl
theorem ok_check_course (C : HF fa fn K mg) : FO cs P w K mg base 1 (.glob "check_course") ["value"] 1 mf_check_course := by
  have isi := isi_ok (C.fact 0 rfl)
  have g_Course := C.glo 40 rfl
  have f_isinstance := C.free 16 rfl
  have sc := sc_check_course
  refine fn_mir (C.fun_ 40 (d := d_check_course) rfl) sc_check_course fun cdv A outer s H E p F0 hr => ?_
  exact dBone (dIfS (dNotT (dTst (dCallB (m_isi isi) call_isi rfl f_isinstance bb_isinstance (dCons (dVar 0) (dCons (dGC (k := "Course") hc_Course rfl g_Course) (dNil)))))) (dBone (dNever)) (dBnil))
theorem bi_Facts_paid {K : PySem.W.Frag} {mg : Str → Option Value} (C : HF fa fn K mg) : Binds K (fdOf K (Pl.ad K (.prop "Facts" "paid"))) ["self"] [] := (C.fun_ 41 (d := d_Facts_paid) rfl).bindsN fun _ _ _ _ _ _ us hl => match us, hl with | [_], _ => rfl
theorem ok_Facts_paid (C : HF fa fn K mg) : FO cs P w K mg base 1 (.prop "Facts" "paid") ["self"] 1 mf_Facts_paid := by
  have n_Facts_known := C.noat 44 rfl
  have c_Facts := C.cls 45 rfl
  have sc := sc_Facts_paid
  refine fn_mir (C.fun_ 41 (d := d_Facts_paid) rfl) sc_Facts_paid fun cdv A outer s H E p F0 hr => ?_
  exact dBone (dRet (dFld (ck := "Facts") (ks := ["known", "unpaid"]) 0 rfl (by decide) c_Facts n_Facts_known (dVar 0)))
theorem bi_Facts_refused {K : PySem.W.Frag} {mg : Str → Option Value} (C : HF fa fn K mg) : Binds K (fdOf K (Pl.ad K (.prop "Facts" "refused"))) ["self"] [] := (C.fun_ 42 (d := d_Facts_refused) rfl).bindsN fun _ _ _ _ _ _ us hl => match us, hl with | [_], _ => rfl
theorem ok_Facts_refused (C : HF fa fn K mg) : FO cs P w K mg base 1 (.prop "Facts" "refused") ["self"] 1 mf_Facts_refused := by
  have n_Facts_unpaid := C.noat 46 rfl
  have c_Facts := C.cls 45 rfl
  have sc := sc_Facts_refused
  refine fn_mir (C.fun_ 42 (d := d_Facts_refused) rfl) sc_Facts_refused fun cdv A outer s H E p F0 hr => ?_
  exact dBone (dRet (dFld (ck := "Facts") (ks := ["known", "unpaid"]) 1 rfl (by decide) c_Facts n_Facts_unpaid (dVar 0)))

theorem bi_fitting_row {K : PySem.W.Frag} {mg : Str → Option Value} (C : HF fa fn K mg) : Binds K (fdOf K (Pl.ad K (.glob "fitting_row"))) ["facts"] [] := (C.fun_ 44 (d := d_fitting_row) rfl).bindsN fun _ _ _ _ _ _ us hl => match us, hl with | [_], _ => rfl
theorem okX_fitting_row (C : HF fa fn K mg) : FnOk P w K mg base (L2N.CX P w) 7 (Pl.ad K (.glob "fitting_row")) (fdOf K (Pl.ad K (.glob "fitting_row"))) ["facts"] (spX (WW cs K) 1 mfX_fitting_row) := by
  have G_least_of := ok_least_of (P := P) (w := w) (base := base) C
  have F_least_of := C.fun_ 30 (d := d_least_of) rfl
  have B_least_of := bi_least_of C
  have G_Facts_paid := ok_Facts_paid (P := P) (w := w) (base := base) C
  have F_Facts_paid := C.fun_ 41 (d := d_Facts_paid) rfl
  have B_Facts_paid := bi_Facts_paid C
  have p_Facts_paid := prop_ok (C.fact 81 rfl)
  have c_Facts := C.cls 45 rfl
  have g_least_of := C.glo 63 rfl
  have G_first_paid := ok_first_paid (P := P) (w := w) (base := base) C
  have F_first_paid := C.fun_ 35 (d := d_first_paid) rfl
  have B_first_paid := bi_first_paid C
  have G_Facts_refused := ok_Facts_refused (P := P) (w := w) (base := base) C
  have F_Facts_refused := C.fun_ 42 (d := d_Facts_refused) rfl
  have B_Facts_refused := bi_Facts_refused C
  have p_Facts_refused := prop_ok (C.fact 82 rfl)
  have g_first_paid := C.glo 69 rfl
  have er_NoWallet := erT_ok (C.fact 83 rfl) (C.fun_ 43 (d := d_NoWallet___init__) rfl) rfl rfl ⟨_, _, rfl⟩ ⟨_, _, _, _, rfl⟩ rfl
  have sc := sc_fitting_row
  refine fn_mirX (C.fun_ 44 (d := d_fitting_row) rfl) sc_fitting_row fun cdv A outer s H E p F0 hr tk => ?_
  exact dBcons (dSet (i := 1) sc.nd rfl (by first | exact Or.inl rfl | exact Or.inr rfl) (dCall G_least_of (hr.mono (by decide)) rfl g_least_of F_least_of.kp B_least_of (dCons (dProp (ck := "Facts") (dVar 0) c_Facts p_Facts_paid G_Facts_paid (hr.mono (by decide)) B_Facts_paid) (dNil)))) (dBcons (dSet (i := 2) sc.nd rfl (by first | exact Or.inl rfl | exact Or.inr rfl) (dCall G_first_paid (hr.mono (by decide)) rfl g_first_paid F_first_paid.kp B_first_paid (dCons (dVar 1) (dCons (dProp (ck := "Facts") (dVar 0) c_Facts p_Facts_refused G_Facts_refused (hr.mono (by decide)) B_Facts_refused) (dNil))))) (dBcons (dIfS (dTcmp op_isntA m_isnt (dVar 2) (dNon) (nomark _)) (dBone (dRaise (k := "NoWallet") (f := "index") rfl tk (by decide) (.inr (.inl rfl)) er_NoWallet hr rfl (C.gls 76 rfl (x := "NoWallet") (by decide)) (dCons (dVar 2) (dNil)) len1)) (dBnil)) (dBone (dRet (dVar 1)))))
theorem bi_sums_of {K : PySem.W.Frag} {mg : Str → Option Value} (C : HF fa fn K mg) : Binds K (fdOf K (Pl.ad K (.glob "sums_of"))) ["row"] [] := (C.fun_ 45 (d := d_sums_of) rfl).bindsN fun _ _ _ _ _ _ us hl => match us, hl with | [_], _ => rfl
theorem ok_sums_of (C : HF fa fn K mg) : FO cs P w K mg base 1 (.glob "sums_of") ["row"] 1 mf_sums_of := by
  have sc := sc_sums_of
  refine fn_mir (C.fun_ 45 (d := d_sums_of) rfl) sc_sums_of fun cdv A outer s H E p F0 hr => ?_
  exact dBcons (dSetO (i := 1) sc.nd rfl (by first | exact Or.inl rfl | exact Or.inr rfl) (dLstO (dCons (dInt) (dNil)))) (dBcons (dFor PassesOwn.never rfl (dIany (dVar 0)) (dGn (i := 2) sc.nd rfl (by first | exact Or.inl rfl | exact Or.inr rfl)) (dBone (dApp 1 (dBin op_addA m_add (dIxO 1 (dUn un_neg m_neg (dInt))) (dVar 2))))) (dBone (dFrzS 1 (dRet (dVar 1)))))
theorem bi_row_total {K : PySem.W.Frag} {mg : Str → Option Value} (C : HF fa fn K mg) : Binds K (fdOf K (Pl.ad K (.glob "row_total"))) ["sums"] [] := (C.fun_ 46 (d := d_row_total) rfl).bindsN fun _ _ _ _ _ _ us hl => match us, hl with | [_], _ => rfl
theorem ok_row_total (C : HF fa fn K mg) : FO cs P w K mg base 1 (.glob "row_total") ["sums"] 1 mf_row_total := by
  have sc := sc_row_total
  refine fn_mir (C.fun_ 46 (d := d_row_total) rfl) sc_row_total fun cdv A outer s H E p F0 hr => ?_
  exact dBone (dRet (dIf (dTcmp (op_neD hr.units) m_ne (dVar 0) (dFz (dLstO (dNil))) (nomark _)) (dIx ix_seq m_ix (dVar 0) (dUn un_neg m_neg (dInt))) (dInt)))
theorem bi_higher {K : PySem.W.Frag} {mg : Str → Option Value} (C : HF fa fn K mg) : Binds K (fdOf K (Pl.ad K (.glob "higher"))) ["row", "asks"] [] := (C.fun_ 47 (d := d_higher) rfl).bindsN fun _ _ _ _ _ _ us hl => match us, hl with | [_, _], _ => rfl
theorem ok_higher (C : HF fa fn K mg) : FO cs P w K mg base 2 (.glob "higher") ["row", "asks"] 2 mf_higher := by
  have G_sums_of := ok_sums_of (P := P) (w := w) (base := base) C
  have F_sums_of := C.fun_ 45 (d := d_sums_of) rfl
  have B_sums_of := bi_sums_of C
  have g_sums_of := C.glo 85 rfl
  have f_len := C.free 1 rfl
  have f_max := C.free 3 rfl
  have G_row_total := ok_row_total (P := P) (w := w) (base := base) C
  have F_row_total := C.fun_ 46 (d := d_row_total) rfl
  have B_row_total := bi_row_total C
  have g_row_total := C.glo 86 rfl
  have G_least_row := ok_least_row (P := P) (w := w) (base := base) C
  have F_least_row := C.fun_ 22 (d := d_least_row) rfl
  have B_least_row := bi_least_row C
  have f_range := C.free 4 rfl
  have g_least_row := C.glo 62 rfl
  have sc := sc_higher
  refine fn_mir (C.fun_ 47 (d := d_higher) rfl) sc_higher fun cdv A outer s H E p F0 hr => ?_
  exact dBcons (dSet (i := 2) sc.nd rfl (by first | exact Or.inl rfl | exact Or.inr rfl) (dSl (dCall G_sums_of (hr.mono (by decide)) rfl g_sums_of F_sums_of.kp B_sums_of (dCons (dVar 0) (dNil))) (dOs (dInt)) (dOn))) (dBcons (dSet (i := 3) sc.nd rfl (by first | exact Or.inl rfl | exact Or.inr rfl) (dCallB m_max (cr_maxA rfl) rfl f_max bb_max (dCons (dCallB m_len call_lenA rfl f_len bb_len (dCons (dVar 2) (dNil))) (dCons (dCallB m_len call_lenA rfl f_len bb_len (dCons (dVar 1) (dNil))) (dNil))))) (dBcons (dSet (i := 4) sc.nd rfl (by first | exact Or.inl rfl | exact Or.inr rfl) (dBin op_addA m_add (dVar 2) (dBin op_mulA m_mul (dFz (dLstO (dCons (dCall G_row_total (hr.mono (by decide)) rfl g_row_total F_row_total.kp B_row_total (dCons (dVar 2) (dNil))) (dNil)))) (dBin op_sub m_sub (dVar 3) (dCallB m_len call_lenA rfl f_len bb_len (dCons (dVar 2) (dNil))))))) (dBone (dRet (dCall G_least_row (hr.mono (by decide)) rfl g_least_row F_least_row.kp B_least_row (dCons (dFz (dLcO (own := [("day", 5)]) rfl sc.nd (dIrng1 rfl f_range (dCons (dVar 3) (dNil))) (blkOk_by (by kernel_rfl)) (fun _ _ _ _ _ => dGn (i := 5) sc.nd rfl (by first | exact Or.inl rfl | exact Or.inr rfl)) (fun _ _ _ _ _ => dYes) (fun _ _ _ _ _ => dIf (dTcmp op_lt m_lt (dVar 5) (dCallB m_len call_lenA rfl f_len bb_len (dCons (dVar 1) (dNil))) (nomark _)) (dCallB m_max (cr_maxA rfl) rfl f_max bb_max (dCons (dIx ix_seq m_ix (dVar 4) (dVar 5)) (dCons (dIx ix_seq m_ix (dVar 1) (dVar 5)) (dNil)))) (dIx ix_seq m_ix (dVar 4) (dVar 5))))) (dNil)))))))
theorem bi_Facts_answer {K : PySem.W.Frag} {mg : Str → Option Value} (C : HF fa fn K mg) : Binds K (fdOf K (Pl.ad K (.meth "Facts" "answer"))) ["self", "course"] [] := (C.fun_ 48 (d := d_Facts_answer) rfl).bindsN fun _ _ _ _ _ _ us hl => match us, hl with | [_, _], _ => rfl
theorem okX_Facts_answer (C : HF fa fn K mg) : FnOk P w K mg base (L2N.CX P w) 8 (Pl.ad K (.meth "Facts" "answer")) (fdOf K (Pl.ad K (.meth "Facts" "answer"))) ["self", "course"] (spX (WW cs K) 2 mfX_Facts_answer) := by
  have G_check_course := ok_check_course (P := P) (w := w) (base := base) C
  have F_check_course := C.fun_ 40 (d := d_check_course) rfl
  have B_check_course := bi_check_course C
  have g_check_course := C.glo 80 rfl
  have GX_fitting_row := okX_fitting_row (P := P) (w := w) (base := base) C
  have F_fitting_row := C.fun_ 44 (d := d_fitting_row) rfl
  have B_fitting_row := bi_fitting_row C
  have g_fitting_row := C.glo 84 rfl
  have G_asked := ok_asked (P := P) (w := w) (base := base) C
  have F_asked := C.fun_ 27 (d := d_asked) rfl
  have B_asked := bi_asked C
  have G_Course_events := ok_Course_events (P := P) (w := w) (base := base) C
  have F_Course_events := C.fun_ 28 (d := d_Course_events) rfl
  have B_Course_events := bi_Course_events C
  have p_Course_events := prop_ok (C.fact 59 rfl)
  have c_Course := C.cls 33 rfl
  have g_asked := C.glo 60 rfl
  have G_reaches := ok_reaches (P := P) (w := w) (base := base) C
  have F_reaches := C.fun_ 34 (d := d_reaches) rfl
  have B_reaches := bi_reaches C
  have g_reaches := C.glo 68 rfl
  have G_first_paid := ok_first_paid (P := P) (w := w) (base := base) C
  have F_first_paid := C.fun_ 35 (d := d_first_paid) rfl
  have B_first_paid := bi_first_paid C
  have n_Facts_unpaid := C.noat 46 rfl
  have c_Facts := C.cls 45 rfl
  have G_higher := ok_higher (P := P) (w := w) (base := base) C
  have F_higher := C.fun_ 47 (d := d_higher) rfl
  have B_higher := bi_higher C
  have g_higher := C.glo 87 rfl
  have g_first_paid := C.glo 69 rfl
  have sc := sc_Facts_answer
  refine fn_mirX (C.fun_ 48 (d := d_Facts_answer) rfl) sc_Facts_answer fun cdv A outer s H E p F0 hr tk => ?_
  exact dBcons (dExpr (dCall G_check_course (hr.mono (by decide)) rfl g_check_course F_check_course.kp B_check_course (dCons (dVar 1) (dNil)))) (dBcons (dSetX (i := 2) sc.nd rfl (by first | exact Or.inl rfl | exact Or.inr rfl) (dCallX tk GX_fitting_row (hr.mono (by decide)) rfl g_fitting_row F_fitting_row.kp B_fitting_row (dCons (dVar 0) (dNil)))) (dBcons (dSet (i := 3) sc.nd rfl (by first | exact Or.inl rfl | exact Or.inr rfl) (dCall G_asked (hr.mono (by decide)) rfl g_asked F_asked.kp B_asked (dCons (dProp (ck := "Course") (dVar 1) c_Course p_Course_events G_Course_events (hr.mono (by decide)) B_Course_events) (dNil)))) (dBcons (dIfS (dTst (dCall G_reaches (hr.mono (by decide)) rfl g_reaches F_reaches.kp B_reaches (dCons (dVar 2) (dCons (dVar 3) (dNil))))) (dBone (dRet (dStr))) (dBnil)) (dBone (dRet (dIf (dTcmp op_isA m_is (dCall G_first_paid (hr.mono (by decide)) rfl g_first_paid F_first_paid.kp B_first_paid (dCons (dCall G_higher (hr.mono (by decide)) rfl g_higher F_higher.kp B_higher (dCons (dVar 2) (dCons (dVar 3) (dNil)))) (dCons (dFld (ck := "Facts") (ks := ["known", "unpaid"]) 1 rfl (by decide) c_Facts n_Facts_unpaid (dVar 0)) (dNil)))) (dNon) (nomark _)) (dStr) (dStr)))))))
theorem bi__law_right {K : PySem.W.Frag} {mg : Str → Option Value} (C : HF fa fn K mg) : Binds K (fdOf K (Pl.ad K (.glob "_law_right"))) ["_law_pot_here"] [] := (C.fun_ 49 (d := d__law_right) rfl).bindsN fun _ _ _ _ _ _ us hl => match us, hl with | [_], _ => rfl
theorem ok__law_right (C : HF fa fn K mg) (BT : BaseT K mg base xs) : FOG cs P w K mg base 11 (.glob "_law_right") ["_law_pot_here"] 1 mf__law_right := by
  have G__law_drawn := ok__law_drawn (P := P) (w := w) (base := base) C
  have F__law_drawn := C.fun_ 9 (d := d__law_drawn) rfl
  have B__law_drawn := bi__law_drawn C
  have g__law_drawn := C.glo 20 rfl
  have f_range := C.free 4 rfl
  have G__law_near_row := ok__law_near_row (P := P) (w := w) (base := base) C
  have F__law_near_row := C.fun_ 5 (d := d__law_near_row) rfl
  have B__law_near_row := bi__law_near_row C
  have g__law_near_row := C.glo 14 rfl
  have G__law_asks := ok__law_asks (P := P) (w := w) (base := base) C
  have F__law_asks := C.fun_ 8 (d := d__law_asks) rfl
  have B__law_asks := bi__law_asks C
  have g__law_asks := C.glo 18 rfl
  have G__law_least := ok__law_least (P := P) (w := w) (base := base) C
  have F__law_least := C.fun_ 10 (d := d__law_least) rfl
  have B__law_least := bi__law_least C
  have G__law_joined := ok__law_joined (P := P) (w := w) (base := base) C
  have F__law_joined := C.fun_ 11 (d := d__law_joined) rfl
  have B__law_joined := bi__law_joined C
  have g__law_joined := C.glo 21 rfl
  have g__law_least := C.glo 22 rfl
  have G__law_course := ok__law_course (P := P) (w := w) (base := base) C
  have F__law_course := C.fun_ 17 (d := d__law_course) rfl
  have B__law_course := bi__law_course C
  have g__law_course := C.glo 41 rfl
  have G_Facts___init__ := ok_Facts___init__ (P := P) (w := w) (base := base) C
  have F_Facts___init__ := C.fun_ 19 (d := d_Facts___init__) rfl
  have m_Facts := C.mkr 47 rfl
  have K_kb_Facts___init___1_paid_refused := kb_Facts___init___1_paid_refused C
  have f_tuple := C.free 23 rfl
  have g_Facts := C.glo 48 rfl
  have G_Facts_form := ok_Facts_form (P := P) (w := w) (base := base) C
  have F_Facts_form := C.fun_ 31 (d := d_Facts_form) rfl
  have B_Facts_form := bi_Facts_form C
  have p_Facts_form := prop_ok (C.fact 65 rfl)
  have c_Facts := C.cls 45 rfl
  have G_Form_row := ok_Form_row (P := P) (w := w) (base := base) C
  have F_Form_row := C.fun_ 32 (d := d_Form_row) rfl
  have B_Form_row := bi_Form_row C
  have p_Form_row := prop_ok (C.fact 66 rfl)
  have c_Form := C.cls 51 rfl
  have G_Facts_fit := ok_Facts_fit (P := P) (w := w) (base := base) C
  have F_Facts_fit := C.fun_ 36 (d := d_Facts_fit) rfl
  have B_Facts_fit := bi_Facts_fit C
  have p_Facts_fit := prop_ok (C.fact 70 rfl)
  have f_repr := C.free 71 rfl
  have G__law_due := ok__law_due (P := P) (w := w) (base := base) C
  have F__law_due := C.fun_ 38 (d := d__law_due) rfl
  have B__law_due := bi__law_due C
  have g__law_due := C.glo 75 rfl
  have F__law_end := C.fun_ 39 (d := d__law_end) rfl
  have B__law_end := bi__law_end C
  have GX_Facts_answer := okX_Facts_answer (P := P) (w := w) (base := base) C
  have F_Facts_answer := C.fun_ 48 (d := d_Facts_answer) rfl
  have B_Facts_answer := bi_Facts_answer C
  have t_Facts_answer := C.meth 88 rfl
  have g__law_end := C.glo 89 rfl
  have sc := sc__law_right
  obtain ⟨cT, PT, htT, hTB, hTm, hTu⟩ := BT.tb "_law_right" (by decide)
  refine fn_mirL2 (C.fun_ 49 (d := d__law_right) rfl) sc__law_right fun cdv A outer s H E p F0 hcode hgd hr => ?_
  have hcd := code_tab (eqO_ok (C.fact 90 rfl)) hcode htT
  exact dBcons (dAsg (dCall G__law_drawn (hr.mono (by decide)) rfl g__law_drawn F__law_drawn.kp B__law_drawn (dCons (dVar 0) (dNil))) (dGt (n := 3) rfl (dGcons (dGn (i := 1) sc.nd rfl (by first | exact Or.inl rfl | exact Or.inr rfl)) (dGcons (dGn (i := 2) sc.nd rfl (by first | exact Or.inl rfl | exact Or.inr rfl)) (dGcons (dGn (i := 3) sc.nd rfl (by first | exact Or.inl rfl | exact Or.inr rfl)) (dGnil)))))) (dBcons (dLcSet 4 [] (own := [("_law_k", 12)]) rfl sc.nd rfl rfl (sw_true rfl rfl rfl (by kernel_rfl)) (dIrng1 rfl f_range (dCons (dInt) (dNil))) (blkOk_by (by kernel_rfl)) (fun _ _ _ _ _ => dGn (i := 12) sc.nd rfl (by first | exact Or.inl rfl | exact Or.inr rfl)) (fun _ _ _ _ _ => dYes) (fun _ _ _ _ _ => dCall G__law_near_row (hr.mono (by decide)) rfl g__law_near_row F__law_near_row.kp B__law_near_row (dCons (dVar 0) (dCons (dVar 1) (dNil))))) (dBcons (dPar (i := 5) (j := 6) rfl sc.nd rfl rfl (by decide) rfl rfl (dMsh (dCall G__law_least (hr.mono (by decide)) rfl g__law_least F__law_least.kp B__law_least (dCons (dCall G__law_joined (hr.mono (by decide)) rfl g__law_joined F__law_joined.kp B__law_joined (dCons (dFz (dLcO (own := [("_law_events", 9)]) rfl sc.nd (dIany (dVar 2)) (blkOk_by (by kernel_rfl)) (fun _ _ _ _ _ => dGn (i := 9) sc.nd rfl (by first | exact Or.inl rfl | exact Or.inr rfl)) (fun _ _ _ _ _ => dYes) (fun _ _ _ _ _ => dCall G__law_asks (hr.mono (by decide)) rfl g__law_asks F__law_asks.kp B__law_asks (dCons (dVar 9) (dNil))))) (dNil))) (dNil))) (dMsh (dFz (dLcO (own := [("_law_one", 13)]) rfl sc.nd (dIany (dVar 3)) (blkOk_by (by kernel_rfl)) (fun _ _ _ _ _ => dGn (i := 13) sc.nd rfl (by first | exact Or.inl rfl | exact Or.inr rfl)) (fun _ _ _ _ _ => dYes) (fun _ _ _ _ _ => dCall G__law_asks (hr.mono (by decide)) rfl g__law_asks F__law_asks.kp B__law_asks (dCons (dVar 13) (dNil))))) (dMnil)))) (dBcons (dLcSet 7 [] (own := [("_law_events", 9)]) rfl sc.nd rfl rfl (sw_true rfl rfl rfl (by kernel_rfl)) (dIany (dVar 2)) (blkOk_by (by kernel_rfl)) (fun _ _ _ _ _ => dGn (i := 9) sc.nd rfl (by first | exact Or.inl rfl | exact Or.inr rfl)) (fun _ _ _ _ _ => dYes) (fun _ _ _ _ _ => dCall G__law_course (hr.mono (by decide)) rfl g__law_course F__law_course.kp B__law_course (dCons (dVar 9) (dNil)))) (dBcons (dSet (i := 8) sc.nd rfl (by first | exact Or.inl rfl | exact Or.inr rfl) (dMakeK (ks := ["paid", "refused"]) (ck := "Facts") (perm' := [0, 1]) hc_Facts m_Facts G_Facts___init__ (hr.mono (by decide)) rfl g_Facts K_kb_Facts___init___1_paid_refused (dKcons (dCallT m_tup call_tuple_of rfl f_tuple bb_tuple (dCons (dVar 7) (dNil))) (dKcons (dCallT m_tup call_tuple_of rfl f_tuple bb_tuple (dCons (dFz (dLcO (own := [("_law_events", 9)]) rfl sc.nd (dIany (dVar 3)) (blkOk_by (by kernel_rfl)) (fun _ _ _ _ _ => dGn (i := 9) sc.nd rfl (by first | exact Or.inl rfl | exact Or.inr rfl)) (fun _ _ _ _ _ => dYes) (fun _ _ _ _ _ => dCall G__law_course (hr.mono (by decide)) rfl g__law_course F__law_course.kp B__law_course (dCons (dVar 9) (dNil))))) (dNil))) (dKnil))) (fun _ _ => rfl))) (dBcons (dIfS (PW.pt (dOrT (dTcmp (op_neD hr.units) m_ne (dProp (ck := "Form") (dProp (ck := "Facts") (dVar 8) c_Facts p_Facts_form G_Facts_form (hr.mono (by decide)) B_Facts_form) c_Form p_Form_row G_Form_row (hr.mono (by decide)) B_Form_row) (dCallT m_tup call_tuple_of rfl f_tuple bb_tuple (dCons (dVar 5) (dNil))) (nomark _)) (dOr1 (dTcmp op_ne m_neS (dRepA (show RepsT _ _ 0 rtC from repsT0) hgd (hr.mono (by decide)) hr.u65 rfl f_repr (dProp (ck := "Facts") (dVar 8) c_Facts p_Facts_fit G_Facts_fit (hr.mono (by decide)) B_Facts_fit)) (dRepA (show RepsT _ _ 0 rtC from repsT0) hgd (hr.mono (by decide)) hr.u65 rfl f_repr (dCmp (op_eqD hr.units) m_eq (dIx ix_seq m_ix (dCallG G__law_due hgd (hr.mono (by decide)) rfl g__law_due F__law_due.kp B__law_due (dCons (dVar 5) (dCons (dVar 6) (dCons (dFz (dLstO (dNil))) (dNil))))) (dInt)) (dStr) (nomark _))) (nomark _))))) (dBone (dRet (dBl))) (dBnil)) (dBcons (dFor PassesOwn.never rfl (dIany (dBin op_addA m_add (dBin op_addA m_add (dBin op_addA m_add (dVar 4) (dVar 3)) (dVar 2)) (dSl (dVar 4) (dOn) (dOs (dInt))))) (dGn (i := 9) sc.nd rfl (by first | exact Or.inl rfl | exact Or.inr rfl)) (dBcons (dAsg (dTup (dCons (dCall G__law_course (hr.mono (by decide)) rfl g__law_course F__law_course.kp B__law_course (dCons (dVar 9) (dNil))) (dCons (dCallG G__law_due hgd (hr.mono (by decide)) rfl g__law_due F__law_due.kp B__law_due (dCons (dVar 5) (dCons (dVar 6) (dCons (dCall G__law_asks (hr.mono (by decide)) rfl g__law_asks F__law_asks.kp B__law_asks (dCons (dVar 9) (dNil))) (dNil))))) (dNil)))) (dGt (n := 2) rfl (dGcons (dGn (i := 10) sc.nd rfl (by first | exact Or.inl rfl | exact Or.inr rfl)) (dGcons (dGn (i := 11) sc.nd rfl (by first | exact Or.inl rfl | exact Or.inr rfl)) (dGnil))))) (dBone (dIfS (dTcmp (op_neD hr.units) m_ne (dLam (k := 8) BT.loose F__law_end rfl g__law_end F__law_end.kp B__law_end sc__law_end rfl (by first | exact Or.inl rfl | exact Or.inr (Or.inl rfl)) (gv__law_end C hgd (hr.mono (by decide))) hTB hcd hTm hTu (hr.mono (by decide)) (LamX.lamS_by (by kernel_rfl)) rfl (fun _ _ _ _ _ => rfl) (fun E A outer s H f c' hgu hr tk => (have hgd : A.guards = some [] := hgu.trans hgd; dMethX (ck := "Facts") rfl tk (dVar 8) c_Facts t_Facts_answer GX_Facts_answer (hr.mono (by decide)) B_Facts_answer (dCons (dVar 10) (dNil))))) (dVar 11) (nomark _)) (dBone (dRet (dBl))) (dBnil))))) (dBone (dRet (dCmp (op_eqD hr.units) m_eq (dProp (ck := "Form") (dProp (ck := "Facts") (dVar 8) c_Facts p_Facts_form G_Facts_form (hr.mono (by decide)) B_Facts_form) c_Form p_Form_row G_Form_row (hr.mono (by decide)) B_Form_row) (dCallT m_tup call_tuple_of rfl f_tuple bb_tuple (dCons (dVar 5) (dNil))) (nomark _))))))))))
theorem bi__law_pot {K : PySem.W.Frag} {mg : Str → Option Value} (C : HF fa fn K mg) : Binds K (fdOf K (Pl.ad K (.glob "_law_pot"))) ["_law_cells", "_law_k"] [] := (C.fun_ 50 (d := d__law_pot) rfl).bindsN fun _ _ _ _ _ _ us hl => match us, hl with | [_, _], _ => rfl
theorem okL__law_pot (C : HF fa fn K mg) : FnOk P w K mg base CX0 1 (Pl.ad K (.glob "_law_pot")) (fdOf K (Pl.ad K (.glob "_law_pot"))) ["_law_cells", "_law_k"] (spL (WW cs K) 2 mfL__law_pot) := by
  have f_len := C.free 1 rfl
  have f_int := C.free 5 rfl
  have f_abs := C.free 91 rfl
  have sc := sc__law_pot
  refine fn_mirL (C.fun_ 50 (d := d__law_pot) rfl) sc__law_pot fun cdv A outer s H E p F0 hr => ?_
  exact dBcons (dSet (i := 2) sc.nd rfl (by first | exact Or.inl rfl | exact Or.inr rfl) (dIf (dTcmp op_lt m_lt (dVar 1) (dCallB m_len call_lenA rfl f_len bb_len (dCons (dVar 0) (dNil))) (nomark _)) (dIx ix_seq m_ix (dVar 0) (dVar 1)) (dBin op_addA m_add (dBin op_mulA m_mul (dInt) (dVar 1)) (dInt)))) (dBcons (dIfS (dTcmp op_ge m_ge (dVar 1) (dCallB m_len call_lenA rfl f_len bb_len (dCons (dVar 0) (dNil))) (nomark _)) (dBone (dFor PassesOwn.never rfl (dIany (dSl (dVar 0) (dOn) (dOs (dInt)))) (dGn (i := 3) sc.nd rfl (by first | exact Or.inl rfl | exact Or.inr rfl)) (dBone (dSet (i := 2) sc.nd rfl (by first | exact Or.inl rfl | exact Or.inr rfl) (dBin op_mod m_mod (dCallT m_int1 call_int1 rfl f_int bb_int (dCons (dBin op_addA m_add (dBin op_mulA m_mul (dVar 2) (dInt)) (dVar 3)) (dNil))) (dInt)))))) (dBnil)) (dBcons (dSet (i := 4) sc.nd rfl (by first | exact Or.inl rfl | exact Or.inr rfl) (dIf (dTcmp op_ge m_ge (dCallB m_abs call_abs rfl f_abs bb_abs (dCons (dVar 2) (dNil))) (dBin op_pow m_pow (dInt) (dInt)) (nomark _)) (dCallB m_abs call_abs rfl f_abs bb_abs (dCons (dVar 2) (dNil))) (dInt))) (dBone (dRetL (dLstO (dCons (dVar 4) (dCons (dBin op_mod m_mod (dCallT m_int1 call_int1 rfl f_int bb_int (dCons (dBin op_addA m_add (dBin op_addA m_add (dBin op_mulA m_mul (dVar 2) (dInt)) (dBin op_mulA m_mul (dInt) (dVar 1))) (dInt)) (dNil))) (dInt)) (dCons (dInt) (dNil)))))))))
theorem bi_law {K : PySem.W.Frag} {mg : Str → Option Value} (C : HF fa fn K mg) : Binds K (fdOf K (Pl.ad K (.glob "law"))) ["_law_cells"] [] := (C.fun_ 51 (d := d_law) rfl).bindsN fun _ _ _ _ _ _ us hl => match us, hl with | [_], _ => rfl
theorem ok_law (C : HF fa fn K mg) (BT : BaseT K mg base xs) : FOG cs P w K mg base 12 (.glob "law") ["_law_cells"] 1 mf_law := by
  have f_len := C.free 1 rfl
  have f_min := C.free 2 rfl
  have f_max := C.free 3 rfl
  have f_range := C.free 4 rfl
  have G__law_right := ok__law_right (P := P) (w := w) (base := base) C BT
  have F__law_right := C.fun_ 49 (d := d__law_right) rfl
  have B__law_right := bi__law_right C
  have GL__law_pot := okL__law_pot (P := P) (w := w) (base := base) C
  have F__law_pot := C.fun_ 50 (d := d__law_pot) rfl
  have B__law_pot := bi__law_pot C
  have g__law_pot := C.glo 92 rfl
  have g__law_right := C.glo 90 rfl
  have f_all := C.free 15 rfl
  have sc := sc_law
  refine fn_mirG (C.fun_ 51 (d := d_law) rfl) sc_law fun cdv A outer s H E p F0 hgd hr => ?_
  exact dBone (dRet (dCallB m_all (cr_all rfl) rfl f_all bb_all (dCons (dFz (dLcO (own := [("_law_k", 1)]) rfl sc.nd (dIrng1 rfl f_range (dCons (dCallB m_max (cr_maxA rfl) rfl f_max bb_max (dCons (dInt) (dCons (dCallB m_min (cr_minA rfl) rfl f_min bb_min (dCons (dCallB m_len call_lenA rfl f_len bb_len (dCons (dVar 0) (dNil))) (dCons (dInt) (dNil)))) (dNil)))) (dNil))) (blkOk_by (by kernel_rfl)) (fun _ _ _ _ _ => dGn (i := 1) sc.nd rfl (by first | exact Or.inl rfl | exact Or.inr rfl)) (fun _ _ _ _ _ => dYes) (fun _ _ _ _ _ => dWithG G__law_right hgd (hr.mono (by decide)) rfl g__law_right F__law_right.kp B__law_right (dCallL GL__law_pot (hr.mono (by decide)) rfl g__law_pot F__law_pot.kp B__law_pot (dCons (dVar 0) (dCons (dVar 1) (dNil))))))) (dNil))))
theorem glaw (C : HF fa fn K mg) : mg "law" = some (.ref (ga K "law")) := C.glo 93 rfl
theorem flaw (C : HF fa fn K mg) : FunP K d_law := C.fun_ 51 rfl
end
end G57




set_option Elab.async false
set_option linter.all false
set_option maxRecDepth 100000
set_option maxHeartbeats 4000000
/-! P20m: the least falling row above given sums, plain. -/
namespace P20
/-- what must still come on a day: the greatest of the rounded-up means -/
def need (total : Int) (i : Nat) (s : Int) : Int := -((total - s) / ((i : Int) + 1))
/-- k is the greatest of the needs -/
def IsMax (k total : Int) (ss : List Int) : Prop := (∃ i s, ss[i]? = some s ∧ k = need total i s) ∧ ∀ i s, ss[i]? = some s → need total i s ≤ k
theorem need_le {total s k : Int} {i : Nat} (h : need total i s ≤ k) : s - total ≤ k * ((i : Int) + 1) := by
  unfold need at h
  have hp : (0 : Int) < (i : Int) + 1 := by omega
  have h1 : -k ≤ (total - s) / ((i : Int) + 1) := by omega
  have h2 : (-k) * ((i : Int) + 1) ≤ total - s := (Int.le_ediv_iff_mul_le hp).mp h1
  rw [Int.neg_mul] at h2
  omega
theorem need_gt {total s k : Int} {i : Nat} (h : k ≤ need total i s) : (k - 1) * ((i : Int) + 1) < s - total := by
  unfold need at h
  have hp : (0 : Int) < (i : Int) + 1 := by omega
  have h1 : (total - s) / ((i : Int) + 1) < -k + 1 := by omega
  have h2 : total - s < (-k + 1) * ((i : Int) + 1) := Int.lt_mul_of_ediv_lt hp h1
  have e : (-k + 1) * ((i : Int) + 1) = -((k - 1) * ((i : Int) + 1)) := by
    rw [← Int.neg_mul]; congr 1; omega
  rw [e] at h2
  omega
/-- the row as it is built, from the sums ss that are left behind a total -/
inductive Least : Int → List Int → List Int → Prop
  | nil (total : Int) : Least total [] []
  | stop {total k : Int} {ss : List Int} (h : IsMax k total ss) (hk : k ≤ 0) : Least total ss []
  | more {total k s : Int} {ss row : List Int} (h : IsMax k total (s :: ss)) (hk : 0 < k) (r : Least (total + k) ss row) : Least total (s :: ss) (k :: row)
theorem Least.len {t : Int} {ss row : List Int} (h : Least t ss row) : row.length ≤ ss.length := by
  induction h with
  | nil => simp
  | stop => simp
  | more _ _ _ ih => simpa using ih
theorem Least.pos {t : Int} {ss row : List Int} (h : Least t ss row) : ∀ x ∈ row, 0 < x := by
  induction h with
  | nil => simp
  | stop => simp
  | more _ hk _ ih =>
    intro x hx
    rcases List.mem_cons.mp hx with rfl | hx
    · exact hk
    · exact ih x hx
/-- the first number behind a day is at most the day's -/
theorem Least.fall {t k s : Int} {ss row : List Int} (hm : IsMax k t (s :: ss)) (hk : 0 < k) (h : Least (t + k) ss row) : ∀ x, row[0]? = some x → x ≤ k := by
  intro x hx
  cases h with
  | nil => cases hx
  | stop => cases hx
  | more h2 hk2 r =>
    simp at hx
    subst hx
    obtain ⟨⟨i, s2, e, rfl⟩, _⟩ := h2
    have h3 := need_le (hm.2 (i + 1) s2 (by simpa using e))
    have h4 := @need_gt (t + k) s2 _ i (Int.le_refl _)
    apply Decidable.byContradiction
    intro hc
    have h5 : k ≤ need (t + k) i s2 - 1 := by omega
    have h6 : k * ((i : Int) + 1) ≤ (need (t + k) i s2 - 1) * ((i : Int) + 1) := Int.mul_le_mul_of_nonneg_right h5 (by omega)
    have h7 : k * (((i + 1 : Nat) : Int) + 1) = k * ((i : Int) + 1) + k := by
      rw [show (((i + 1 : Nat) : Int) + 1) = ((i : Int) + 1) + 1 by omega, Int.mul_add, Int.mul_one]
    rw [h7] at h3
    omega
theorem Least.falls {t : Int} {ss row : List Int} (h : Least t ss row) : ∀ (k : Nat) (x y : Int), row[k]? = some x → row[k + 1]? = some y → y ≤ x := by
  induction h with
  | nil => intro k x y h; cases h
  | stop => intro k x y h; cases h
  | more hm hk r ih =>
    intro k x y hx hy
    cases k with
    | zero =>
      simp at hx hy
      subst hx
      exact Least.fall hm hk r y (by simpa using hy)
    | succ k => exact ih k x y (by simpa using hx) (by simpa using hy)
/-- sum of the first n numbers -/
def sumN (row : List Int) : Nat → Int
  | 0 => 0
  | n + 1 => row.headD 0 + sumN row.tail n
theorem sumN_nil (n : Nat) : sumN [] n = 0 := by
  induction n with
  | zero => rfl
  | succ n ih => show (0 : Int) + sumN [] n = 0; rw [ih]; rfl
theorem Least.cover {t : Int} {ss row : List Int} (h : Least t ss row) : ∀ (n : Nat) (s : Int), ss[n]? = some s → s ≤ t + sumN row (n + 1) := by
  induction h with
  | nil => intro n s h; cases h
  | @stop t k ss h hk =>
    intro n s e
    rw [sumN_nil]
    have h1 := need_le (h.2 n s e)
    have h2 : k * ((n : Int) + 1) ≤ 0 := by
      have := Int.mul_le_mul_of_nonneg_right hk (show (0 : Int) ≤ (n : Int) + 1 by omega)
      rw [Int.zero_mul] at this
      exact this
    omega
  | @more t k s0 ss row h hk r ih =>
    intro n s e
    cases n with
    | zero =>
      simp at e
      subst e
      have h1 := need_le (h.2 0 s0 rfl)
      show s0 ≤ t + (k + 0)
      have h2 : k * (((0 : Nat) : Int) + 1) = k := by simp
      rw [h2] at h1
      omega
    | succ n =>
      have h1 := ih n s (by simpa using e)
      show s ≤ t + (k + sumN row (n + 1))
      omega
theorem Least.tight {t : Int} {ss row : List Int} (h : Least t ss row) : ∀ (k : Nat) (x : Int), row[k]? = some x → ∃ (i : Nat) (s : Int), ss[k + i]? = some s ∧ t + sumN row k + ((i : Int) + 1) * (x - 1) < s := by
  induction h with
  | nil => intro k x h; cases h
  | stop => intro k x h; cases h
  | @more t m s0 ss row h hk r ih =>
    intro k x e
    cases k with
    | zero =>
      simp at e
      subst e
      obtain ⟨⟨i, s, e1, e2⟩, _⟩ := h
      have h2 := @need_gt t s m i (by omega)
      rw [Int.mul_comm] at h2
      refine ⟨i, s, by simpa using e1, ?_⟩
      show t + 0 + _ < s
      omega
    | succ k =>
      obtain ⟨i, s, e1, h1⟩ := ih k x (by simpa using e)
      refine ⟨i, s, by rw [show k + 1 + i = (k + i) + 1 by omega]; simpa using e1, ?_⟩
      show t + (m + sumN row k) + _ < s
      omega
/-- the least row is one only -/
theorem IsMax.uniq {a b t : Int} {ss : List Int} (h : IsMax a t ss) (k : IsMax b t ss) : a = b := by
  obtain ⟨⟨i, s, e, rfl⟩, h2⟩ := h
  obtain ⟨⟨j, s', e', rfl⟩, k2⟩ := k
  have := h2 _ _ e'
  have := k2 _ _ e
  omega
theorem Least.uniq {t : Int} {ss row row' : List Int} (h : Least t ss row) (k : Least t ss row') : row = row' := by
  induction h generalizing row' with
  | nil =>
    cases k with
    | nil => rfl
    | stop => rfl
  | stop h hk =>
    cases k with
    | nil => rfl
    | stop => rfl
    | more h2 hk2 r => have := h.uniq h2; omega
  | more h hk r ih =>
    cases k with
    | stop h2 hk2 => have := h.uniq h2; omega
    | more h2 hk2 r2 =>
      have := h.uniq h2
      subst this
      rw [ih r2]
/-- a falling row of numbers above 0 is the least one above its own sums -/
def Falls (row : List Int) : Prop := (∀ x ∈ row, 0 < x) ∧ ∀ (k : Nat) (x y : Int), row[k]? = some x → row[k + 1]? = some y → y ≤ x
theorem Falls.tail {x : Int} {row : List Int} (h : Falls (x :: row)) : Falls row := ⟨fun y hy => h.1 y (List.mem_cons_of_mem _ hy), fun k a b e1 e2 => h.2 (k + 1) a b (by simpa using e1) (by simpa using e2)⟩
def sumsFrom (t : Int) : List Int → List Int
  | [] => []
  | x :: row => (t + x) :: sumsFrom (t + x) row
end P20

set_option Elab.async false
set_option linter.all false
set_option maxRecDepth 100000
set_option maxHeartbeats 4000000
namespace Sh
open PySem L2 Mi P20
@[simp] theorem isint_ok {n : Int} {u : PuS} {P : D → PuS → Prop} : Ok (mf_is_integer [.int n]) u P ↔ P (.bl true) u := ok_of rfl
@[simp] theorem isnat_ok {n : Int} {u : PuS} {P : D → PuS → Prop} : Ok (mf_is_natural [.int n]) u P ↔ P (.bl (decide (0 ≤ n))) u := by
  unfold mf_is_natural mb_is_natural
  simp
theorem getI {ns : List Int} {k : Nat} {x : Int} (h : ns[k]? = some x) : atI (ns.map D.int) (k : Int) = some (.int x) := at_nat (by rw [List.getElem?_map, h]; rfl)
/-- a row as forms have it -/
def Good (row : List Int) : Prop := Falls row ∧ row.length ≤ 24
theorem wrong_ok {row : List Int} (h : Good row) {u : PuS} {P : D → PuS → Prop} (hp : P .non u) : Ok (mf_wrong_number [.tup (row.map D.int)]) u P := by
  unfold mf_wrong_number mb_wrong_number
  simp
  refine ok_list (enumD (row.map D.int)) (fun k ρ u' => u' = u ∧ ∃ t w, ρ = [.sh (.tup (row.map D.int)), t, w]) ?_ ?_ _ _ ⟨rfl, _, _, rfl⟩
  · rintro k d ρ u' e ⟨rfl, t, w, rfl⟩
    obtain ⟨x, ex, rfl⟩ := enumD_ints e
    have hk : k < row.length := (List.getElem?_eq_some_iff.mp ex).1
    have hx : 0 < x := h.1.1 x (List.mem_of_getElem? ex)
    have h24 := h.2
    unfold lb_wrong_number_1
    have h1 : ¬ (k : Int) = 24 := by omega
    have h2 : ¬ x = 0 := by omega
    have h3 : 0 ≤ x := by omega
    by_cases h0 : 0 < k
    · obtain ⟨j, rfl⟩ : ∃ j, k = j + 1 := ⟨k - 1, by omega⟩
      have ej : row[j]? = some row[j] := List.getElem?_eq_getElem (by omega)
      have hle := h.1.2 j _ _ ej ex
      have e1 : atI (row.map D.int) (((j + 1 : Nat) : Int) - 1) = some (.int row[j]) := by
        rw [show (((j + 1 : Nat) : Int) - 1) = (j : Int) by omega]
        exact getI ej
      have h5 : ¬ row[j] < x := by omega
      simp at h1 e1
      simp [h1, h2, h3, h0, e1, h5]
    · have h0' : k = 0 := by omega
      subst h0'
      simp [h2, h3]
  · rintro ρ u' ⟨rfl, t, w, rfl⟩
    simpa using hp
theorem init_ok {row : List Int} (h : Good row) {u : PuS} {P : List Str × List D → PuS → Prop} (hp : P (["numbers"], [.tup (row.map D.int)]) u) : Ok (mf_Form___init__ [.tup (row.map D.int)]) u P := by
  unfold mf_Form___init__ mb_Form___init__
  have e : isiD [.tup (row.map D.int), .ty "tuple"] = some (.bl true) := rfl
  simp [startI, e]
  refine wrong_ok h ?_
  have e2 : isntD .non .non = some (.bl false) := rfl
  simp [e2]
  exact ⟨[], [], ⟨rfl, rfl⟩, by simp, by decide, hp⟩
/-- the needs of the days behind k -/
def nd (ns : List Int) (k : Nat) (t : Int) (i : Nat) : Int := need t i ((ns.drop k).getD i 0)
/-- the least row of these sums -/
theorem least_row_any {d : D} {ns : List Int} (e_len : lenD [d] = some (.int ns.length)) (e_ix : ∀ i : Int, ixD d (.int i) = atI (ns.map D.int) i) (hl : ns.length ≤ 24) {u : PuS} {P : D → PuS → Prop} (hp : ∀ row, Least 0 ns row → P (.tup (row.map D.int)) u) : Ok (mf_least_row [d]) u P := by
  generalize hdd : d = dd at e_len e_ix ⊢
  unfold mf_least_row mb_least_row
  simp [e_len]
  refine ⟨by omega, ?_⟩
  refine ok_range 0 ns.length (fun k ρ u' => u' = u ∧ ∃ (pre : List Int) (t : Int) (a b c d : Sd), pre.length = k ∧ (∀ row, Least t (ns.drop k) row → Least 0 ns (pre ++ row)) ∧ ρ = [.sh dd, .ow (pre.map D.int), .sh (.int t), a, b, c, d]) ?_ ?_ _ _ ⟨rfl, [], 0, _, _, _, _, rfl, fun row h => h, rfl⟩
  · rintro k ρ u' hk ⟨rfl, pre, t, a, b, c, d, hpre, hrow, rfl⟩
    unfold lb_least_row_2
    simp [mBorLs, e_len]
    refine ⟨by omega, by rw [rngD_len]; omega, ?_⟩
    refine ok_lcr (fun i => [.sh dd, .ow (pre.map D.int), .sh (.int t), .sh (.int k), b, c, .sh (.int (k + (i : Nat)))]) (fun _ => true) (fun i => .int (nd ns k t i)) ?_ ?_ ?_ ?_
    · intro i hi; rfl
    · intro i hi; simp
    · intro i hi _
      unfold ce_least_row_1
      have ei : ns[k + i]? = some ns[k + i] := List.getElem?_eq_getElem (by omega)
      have e1 : atI (ns.map D.int) ((k : Int) + (i : Int)) = some (.int ns[k + i]) := by
        have := getI ei
        rwa [show ((k + i : Nat) : Int) = (k : Int) + (i : Int) by omega] at this
      have e2 : (ns.drop k).getD i 0 = ns[k + i] := by
        rw [List.getD_eq_getElem?_getD, List.getElem?_drop, ei]; rfl
      have e3 : fdivC (t - ns[k + i]) ((k : Int) + (i : Int) - (k : Int) + 1) = true := fdivC_small (by omega)
      have e4 : nd ns k t i = -((t - ns[k + i]) / ((k : Int) + (i : Int) - (k : Int) + 1)) := by
        unfold nd need
        rw [e2, show (k : Int) + (i : Int) - (k : Int) + 1 = (i : Int) + 1 by omega]
      rw [e4]
      simp [e_ix, e1, e3]
    · rw [List.filter_eq_self.mpr (fun _ _ => rfl)]
      obtain ⟨m, hm⟩ : ∃ m, ns.length - k = m + 1 := ⟨ns.length - k - 1, by omega⟩
      rw [hm]
      have eL : (List.range (m + 1)).map (fun i => D.int (nd ns k t i)) = ((List.range (m + 1)).map (nd ns k t)).map D.int := by rw [List.map_map]; rfl
      obtain ⟨n0, nr, eC⟩ : ∃ n0 nr, (List.range (m + 1)).map (nd ns k t) = n0 :: nr := by
        rw [List.range_succ_eq_map, List.map_cons]
        exact ⟨_, _, rfl⟩
      rw [eL, eC]
      obtain ⟨hm1, hm2⟩ := maxL_mem (ns := n0 :: nr) (by simp)
      have hmax : IsMax (maxL (n0 :: nr)) t (ns.drop k) := by
        constructor
        · rw [← eC] at hm1
          obtain ⟨i, hi, e⟩ := List.mem_map.mp hm1
          have hi := List.mem_range.mp hi
          refine ⟨i, (ns.drop k).getD i 0, ?_, by rw [← eC]; exact e.symm⟩
          rw [List.getD_eq_getElem?_getD, List.getElem?_drop, List.getElem?_eq_getElem (by omega)]; rfl
        · intro i s e
          refine hm2 _ ?_
          rw [← eC]
          have hi : i < m + 1 := by
            have := (List.getElem?_eq_some_iff.mp e).1
            simp at this
            omega
          refine List.mem_map.mpr ⟨i, List.mem_range.mpr hi, ?_⟩
          unfold nd
          rw [List.getD_eq_getElem?_getD, e]; rfl
      refine ⟨.int (maxL (n0 :: nr)), s_maxL, ?_⟩
      by_cases hz : maxL (n0 :: nr) ≤ 0
      · simp [hz]
        have := hrow [] (.stop hmax hz)
        rw [List.append_nil] at this
        exact hp _ this
      · have e0 : ns.drop k = ns[k] :: ns.drop (k + 1) := List.drop_eq_getElem_cons hk
        simp [hz]
        refine ⟨by omega, pre ++ [maxL (n0 :: nr)], by simp [hpre], fun row hr => ?_, by simp⟩
        have := hrow (maxL (n0 :: nr) :: row) (by rw [e0] at hmax ⊢; exact .more hmax (by omega) hr)
        simpa using this
  · rintro ρ u' ⟨rfl, pre, t, a, b, c, d, hpre, hrow, rfl⟩
    simp
    have := hrow [] (by rw [List.drop_eq_nil_of_le (Nat.le_refl _)]; exact .nil t)
    rw [List.append_nil] at this
    exact hp _ this
theorem least_row_lst {ns : List Int} (hl : ns.length ≤ 24) {u : PuS} {P : D → PuS → Prop} (hp : ∀ row, Least 0 ns row → P (.tup (row.map D.int)) u) : Ok (mf_least_row [.lst (ns.map D.int)]) u P :=
  least_row_any (by simp) (fun _ => rfl) hl hp
/-- a form as data -/
def formD (row : List Int) : D := .obj "Form" ["numbers"] [.tup (row.map D.int)]
theorem Least.good {ns row : List Int} (h : Least 0 ns row) (hl : ns.length ≤ 24) : Good row := ⟨⟨h.pos, h.falls⟩, Nat.le_trans h.len hl⟩
@[simp] theorem row_ok' {row : List Int} {u : PuS} {P : D → PuS → Prop} : Ok (mf_Form_row [.obj "Form" ["numbers"] [.tup (row.map D.int)]]) u P ↔ P (.tup (row.map D.int)) u := by
  unfold mf_Form_row mb_Form_row
  simp
theorem sums_of_ok {row : List Int} (hl : row.length ≤ 24) {u : PuS} {P : D → PuS → Prop} (hp : P (.lst ((0 :: sumsFrom 0 row).map D.int)) u) : Ok (mf_sums_of [.tup (row.map D.int)]) u P := by
  unfold mf_sums_of mb_sums_of
  simp
  refine ok_list (row.map D.int) (fun k ρ u' => u' = u ∧ ∃ (pre : List Int) (t : Int) (w : Sd), pre.length = k ∧ (pre ++ [t]) ++ sumsFrom t (row.drop k) = 0 :: sumsFrom 0 row ∧ ρ = [.sh (.tup (row.map D.int)), .ow ((pre ++ [t]).map D.int), w]) ?_ ?_ _ _ ⟨rfl, [], 0, _, rfl, rfl, rfl⟩
  · rintro k d ρ u' e ⟨rfl, pre, t, w, hk, hs, rfl⟩
    have hkl : k < row.length := by have := (List.getElem?_eq_some_iff.mp e).1; simpa using this
    have ed : d = .int row[k] := by rw [List.getElem?_map, List.getElem?_eq_getElem hkl] at e; exact (Option.some.inj e).symm
    subst ed
    unfold lb_sums_of_1
    have e1 : atI ((pre ++ [t]).map D.int) (-1) = some (.int t) := by rw [List.map_append]; exact at_last
    simp at e1
    simp [e1]
    refine ⟨by omega, pre ++ [t], by simp [hk], ?_, by simp⟩
    rw [← hs, List.drop_eq_getElem_cons hkl]
    simp [sumsFrom]
  · rintro ρ u' ⟨rfl, pre, t, w, hk, hs, rfl⟩
    rw [List.length_map] at hk
    rw [List.drop_eq_nil_of_le (by simp)] at hs
    simp only [sumsFrom, List.append_nil] at hs
    rw [← hs] at hp
    simpa using hp
theorem sumsFrom_len : ∀ (row : List Int) (t : Int), (sumsFrom t row).length = row.length
  | [], _ => rfl
  | x :: row, t => congrArg Nat.succ (sumsFrom_len row (t + x))
end Sh

set_option Elab.async false
set_option linter.all false
set_option maxRecDepth 100000
set_option maxHeartbeats 4000000
/-! W2m: what cards can pay, plain. -/
namespace P20
/-- what a card can pay in k days -/
def wor (b l : Int) (k : Nat) : Int := min b ((k : Int) * l)
/-- what cards can pay in k days -/
def FF (am : List (Int × Int)) (k : Nat) : Int := (am.map fun q => wor q.1 q.2 k).sum
/-- cards as they may be -/
def Am (am : List (Int × Int)) : Prop := ∀ q ∈ am, 1 ≤ q.2 ∧ 0 ≤ q.1 ∧ q.1 ≤ 24 * q.2
theorem Am.tail {q : Int × Int} {am : List (Int × Int)} (h : Am (q :: am)) : Am am := fun x hx => h x (List.mem_cons_of_mem _ hx)
theorem Am.nil : Am [] := fun q h => by cases h
theorem Am.cons {q : Int × Int} {am : List (Int × Int)} (h : 1 ≤ q.2 ∧ 0 ≤ q.1 ∧ q.1 ≤ 24 * q.2) (a : Am am) : Am (q :: am) := fun x hx => by
  rcases List.mem_cons.mp hx with rfl | hx
  · exact h
  · exact a x hx
theorem Am.append {am bm : List (Int × Int)} (a : Am am) (b : Am bm) : Am (am ++ bm) := fun x hx => by
  rcases List.mem_append.mp hx with h | h
  · exact a x h
  · exact b x h
theorem FF_cons (q : Int × Int) (am : List (Int × Int)) (k : Nat) : FF (q :: am) k = wor q.1 q.2 k + FF am k := by simp [FF]
theorem wor_zero {b l : Int} (h : 0 ≤ b) : wor b l 0 = 0 := by unfold wor; simp; omega
theorem succ_mul' (k : Nat) (l : Int) : ((k + 1 : Nat) : Int) * l = (k : Int) * l + l := by
  rw [show ((k + 1 : Nat) : Int) = (k : Int) + 1 by omega, Int.add_mul, Int.one_mul]
theorem wor_mono {b l : Int} (hl : 0 ≤ l) (k : Nat) : wor b l k ≤ wor b l (k + 1) := by
  unfold wor
  rw [succ_mul']
  omega
theorem wor_conc {b l : Int} (hl : 0 ≤ l) (k : Nat) : wor b l (k + 2) - wor b l (k + 1) ≤ wor b l (k + 1) - wor b l k := by
  unfold wor
  rw [show k + 2 = (k + 1) + 1 from rfl, succ_mul' (k + 1), succ_mul' k]
  omega
theorem wor_step {b l : Int} (hl : 1 ≤ l) (k : Nat) : wor b l k < wor b l (k + 1) ↔ (k : Int) * l < b := by
  unfold wor
  rw [succ_mul']
  omega
theorem FF_zero {am : List (Int × Int)} (h : Am am) : FF am 0 = 0 := by
  induction am with
  | nil => rfl
  | cons q am ih => rw [FF_cons, ih h.tail, wor_zero (h q List.mem_cons_self).2.1]; rfl
theorem FF_mono {am : List (Int × Int)} (h : Am am) (k : Nat) : FF am k ≤ FF am (k + 1) := by
  induction am with
  | nil => simp [FF]
  | cons q am ih =>
    have := ih h.tail
    have := wor_mono (b := q.1) (show 0 ≤ q.2 by have := (h q List.mem_cons_self).1; omega) k
    rw [FF_cons, FF_cons]
    omega
theorem FF_conc {am : List (Int × Int)} (h : Am am) (k : Nat) : FF am (k + 2) - FF am (k + 1) ≤ FF am (k + 1) - FF am k := by
  induction am with
  | nil => simp [FF]
  | cons q am ih =>
    have := ih h.tail
    have := wor_conc (b := q.1) (show 0 ≤ q.2 by have := (h q List.mem_cons_self).1; omega) k
    rw [FF_cons, FF_cons, FF_cons]
    omega
/-- on day k + 1 some card can still pay -/
def Mor (am : List (Int × Int)) (k : Nat) : Prop := ∃ q ∈ am, (k : Int) * q.2 < q.1
theorem Mor.less {am : List (Int × Int)} (h : Am am) {k : Nat} : Mor am (k + 1) → Mor am k := by
  rintro ⟨q, hq, h1⟩
  refine ⟨q, hq, ?_⟩
  have := (h q hq).1
  rw [succ_mul'] at h1
  omega
theorem FF_step {am : List (Int × Int)} (h : Am am) (k : Nat) : FF am k < FF am (k + 1) ↔ Mor am k := by
  induction am with
  | nil => simp [FF, Mor]
  | cons q am ih =>
    have ih := ih h.tail
    have h1 := FF_mono h.tail k
    have h0 := (h q List.mem_cons_self).1
    have h2 := wor_mono (b := q.1) (show 0 ≤ q.2 by omega) k
    have h3 := wor_step (b := q.1) h0 k
    rw [FF_cons, FF_cons]
    constructor
    · intro z
      by_cases hq : (k : Int) * q.2 < q.1
      · exact ⟨q, List.mem_cons_self, hq⟩
      · obtain ⟨x, hx, hm⟩ := ih.mp (by omega)
        exact ⟨x, List.mem_cons_of_mem _ hx, hm⟩
    · rintro ⟨x, hx, hm⟩
      rcases List.mem_cons.mp hx with rfl | hx
      · have := h3.mpr hm; omega
      · have := ih.mpr ⟨x, hx, hm⟩; omega
/-- the row of cards: the numbers by which the sums grow, as long as they do -/
def IsRow (am : List (Int × Int)) (row : List Int) : Prop := ∃ d : Nat, d ≤ 24 ∧ (∀ k, k < d → Mor am k) ∧ ¬ Mor am d ∧ row = (List.range d).map fun k => FF am (k + 1) - FF am k
theorem Am.stop {am : List (Int × Int)} (h : Am am) : ¬ Mor am 24 := by
  rintro ⟨q, hq, h1⟩
  have := (h q hq).2.2
  omega
theorem sumN_app : ∀ (n : Nat) (row : List Int), sumN row (n + 1) = sumN row n + row.getD n 0
  | 0, row => by cases row <;> simp [sumN]
  | n + 1, row => by
    show row.headD 0 + sumN row.tail (n + 1) = (row.headD 0 + sumN row.tail n) + row.getD (n + 1) 0
    rw [sumN_app n row.tail]
    have : row.getD (n + 1) 0 = row.tail.getD n 0 := by cases row <;> simp
    omega
theorem Mor.from {am : List (Int × Int)} (h : Am am) {d : Nat} (hd : ¬ Mor am d) : ∀ k, d ≤ k → ¬ Mor am k := by
  intro k hk
  induction k with
  | zero => have : d = 0 := by omega
            subst this; exact hd
  | succ k ih =>
    by_cases e : d = k + 1
    · subst e; exact hd
    · exact fun z => ih (by omega) (z.less h)
theorem FF_flat {am : List (Int × Int)} (h : Am am) {d : Nat} (hd : ¬ Mor am d) : ∀ k, d ≤ k → FF am k = FF am d := by
  intro k hk
  induction k with
  | zero => have : d = 0 := by omega
            subst this; rfl
  | succ k ih =>
    by_cases e : d = k + 1
    · subst e; rfl
    · have h1 := ih (by omega)
      have h2 := Mor.from h hd k (by omega)
      have h3 := FF_mono h k
      have h4 := mt (FF_step h k).mp h2
      omega
theorem IsRow.sum {am : List (Int × Int)} (h : Am am) {row : List Int} (r : IsRow am row) : ∀ n, sumN row n = FF am n := by
  obtain ⟨d, hd, h1, h2, rfl⟩ := r
  intro n
  induction n with
  | zero => rw [FF_zero h]; rfl
  | succ n ih =>
    rw [sumN_app, ih]
    by_cases hn : n < d
    · have : ((List.range d).map fun k => FF am (k + 1) - FF am k).getD n 0 = FF am (n + 1) - FF am n := by
        rw [List.getD_eq_getElem?_getD, List.getElem?_map, List.getElem?_range hn]; rfl
      omega
    · have : ((List.range d).map fun k => FF am (k + 1) - FF am k).getD n 0 = 0 := by
        rw [List.getD_eq_getElem?_getD, List.getElem?_eq_none (by simp; omega)]; rfl
      have := FF_flat h h2 n (by omega)
      have := FF_flat h h2 (n + 1) (by omega)
      omega
theorem IsRow.len {am : List (Int × Int)} {row : List Int} (r : IsRow am row) : row.length ≤ 24 := by
  obtain ⟨d, hd, h1, h2, rfl⟩ := r
  simpa using hd
theorem IsRow.falls {am : List (Int × Int)} (h : Am am) {row : List Int} (r : IsRow am row) : Falls row := by
  obtain ⟨d, hd, h1, h2, rfl⟩ := r
  refine ⟨fun x hx => ?_, fun k x y hx hy => ?_⟩
  · obtain ⟨k, hk, rfl⟩ := List.mem_map.mp hx
    have := (FF_step h k).mpr (h1 k (List.mem_range.mp hk))
    omega
  · rw [List.getElem?_map] at hx hy
    have hk : k + 1 < d := by
      by_cases z : k + 1 < d
      · exact z
      · rw [List.getElem?_eq_none (by simp; omega)] at hy; cases hy
    rw [List.getElem?_range (by omega)] at hx
    rw [List.getElem?_range hk] at hy
    cases hx
    cases hy
    exact FF_conc h k
/-- rows of numbers above 0 are told apart by their sums -/
theorem pos_uniq : ∀ {a b : List Int}, (∀ x ∈ a, 0 < x) → (∀ x ∈ b, 0 < x) → (∀ n, sumN a n = sumN b n) → a = b
  | [], [], _, _, _ => rfl
  | [], y :: b, _, hb, h => by
    have h1 := h 1
    have := hb y List.mem_cons_self
    simp [sumN] at h1
    omega
  | x :: a, [], ha, _, h => by
    have h1 := h 1
    have := ha x List.mem_cons_self
    simp [sumN] at h1
    omega
  | x :: a, y :: b, ha, hb, h => by
    have h1 := h 1
    simp [sumN] at h1
    subst h1
    rw [pos_uniq (a := a) (b := b) (fun z hz => ha z (List.mem_cons_of_mem _ hz)) (fun z hz => hb z (List.mem_cons_of_mem _ hz)) fun n => ?_]
    have h2 := h (n + 1)
    simp [sumN] at h2
    exact h2
theorem IsRow.uniq {am : List (Int × Int)} (h : Am am) {row row' : List Int} (r : IsRow am row) (r' : IsRow am row') : row = row' :=
  pos_uniq (r.falls h).1 (r'.falls h).1 fun n => by rw [r.sum h, r'.sum h]
theorem sumN_flat : ∀ (row : List Int) (n : Nat), row.length ≤ n → sumN row n = sumN row row.length
  | [], n, _ => by rw [sumN_nil, sumN_nil]
  | x :: row, 0, h => by simp at h
  | x :: row, n + 1, h => by
    show x + sumN row n = x + sumN row row.length
    rw [sumN_flat row n (by simpa using h)]
theorem sumN_mono {row : List Int} (h : ∀ x ∈ row, 0 ≤ x) : ∀ n, sumN row n ≤ sumN row (n + 1) := by
  intro n
  rw [sumN_app]
  by_cases hn : n < row.length
  · have : 0 ≤ row.getD n 0 := by
      rw [List.getD_eq_getElem?_getD, List.getElem?_eq_getElem hn]
      exact h _ (List.getElem_mem hn)
    omega
  · have : row.getD n 0 = 0 := by rw [List.getD_eq_getElem?_getD, List.getElem?_eq_none (by omega)]; rfl
    omega
theorem sumN_le {row : List Int} (h : ∀ x ∈ row, 0 ≤ x) {m n : Nat} (hmn : m ≤ n) : sumN row m ≤ sumN row n := by
  induction n with
  | zero => have : m = 0 := by omega
            subst this; exact Int.le_refl _
  | succ n ih =>
    by_cases e : m = n + 1
    · subst e; exact Int.le_refl _
    · have := ih (by omega); have := sumN_mono h n; omega
end P20

set_option Elab.async false
set_option linter.all false
set_option maxRecDepth 100000
set_option maxHeartbeats 4000000
namespace Mi
open PySem L2
/-- a comprehension over data made of plain things, that draws nothing -/
theorem ok_lcm {α : Type} {g : MG} {mt : MT} {me : ME} {ρ : Env} {u : PuS} {xs : List α} {f : α → D} (r : α → Env) (t : α → Bool) (e : α → D) {P : List D → PuS → Prop} (h1 : ∀ x ∈ xs, g (f x) ρ = some (r x)) (h2 : ∀ x ∈ xs, Ok (mt (r x)) u fun b u' => b = t x ∧ u' = u)
    (h3 : ∀ x ∈ xs, t x = true → Ok (me (r x)) u fun b u' => b = e x ∧ u' = u) (h : P ((xs.filter t).map e) u) : Ok (lcD g mt me ρ (xs.map f)) u P := by
  have : lcD g mt me ρ (xs.map f) u = some ((xs.filter t).map e, u) := by
    clear h
    induction xs with
    | nil => rfl
    | cons x xs ih =>
      have ih := ih (fun y hy => h1 y (List.mem_cons_of_mem _ hy)) (fun y hy => h2 y (List.mem_cons_of_mem _ hy)) (fun y hy => h3 y (List.mem_cons_of_mem _ hy))
      refine eq_of_ok ?_
      rw [List.map_cons]
      unfold lcD
      rw [ok_bind, ok_lft]
      refine ⟨_, h1 x List.mem_cons_self, ?_⟩
      rw [ok_bind, ok_of (eq_of_ok (h2 x List.mem_cons_self))]
      cases ht : t x with
      | false =>
        rw [if_neg (by decide), ok_of ih]
        simp [ht]
      | true =>
        rw [if_pos rfl, ok_bind, ok_of (eq_of_ok (h3 x List.mem_cons_self ht)), ok_bind, ok_of ih, ok_pure]
        simp [ht]
  exact (ok_of this).mpr h
/-- .. of all items -/
theorem ok_lca {α : Type} {g : MG} {me : ME} {ρ : Env} {u : PuS} {xs : List α} {f : α → D} (r : α → Env) (e : α → D) {P : List D → PuS → Prop} (h1 : ∀ x ∈ xs, g (f x) ρ = some (r x))
    (h3 : ∀ x ∈ xs, Ok (me (r x)) u fun b u' => b = e x ∧ u' = u) (h : P (xs.map e) u) : Ok (lcD g mYes me ρ (xs.map f)) u P :=
  ok_lcm r (fun _ => true) e h1 (fun x hx => by simp) (fun x hx _ => h3 x hx) (by rw [List.filter_eq_self.mpr fun _ _ => rfl]; exact h)
/-- .. of all items of a range -/
theorem ok_lcra {g : MG} {me : ME} {ρ : Env} {u : PuS} {lo : Int} {n : Nat} (r : Nat → Env) (e : Nat → D) {P : List D → PuS → Prop} (h1 : ∀ i, i < n → g (.int (lo + (i : Nat))) ρ = some (r i))
    (h3 : ∀ i, i < n → Ok (me (r i)) u fun b u' => b = e i ∧ u' = u) (h : P ((List.range n).map e) u) : Ok (lcD g mYes me ρ (rngD lo n)) u P :=
  ok_lcr r (fun _ => true) e h1 (fun i hi => by simp) (fun i hi _ => h3 i hi) (by rw [List.filter_eq_self.mpr fun _ _ => rfl]; exact h)
theorem s_sumI {ns : List Int} : sumD [.lst (ns.map D.int)] = some (.int ns.sum) := by
  show (intsD (ns.map D.int)).map (fun ns => D.int ns.sum) = _
  rw [intsD_map]; rfl
end Mi
namespace Sh
open PySem L2 Mi P20
def prD (q : Int × Int) : D := .tup [.int q.1, .int q.2]
def cardD (q : Int × Int) : D := .obj "Card" ["held", "daily"] [.int q.1, .int q.2]
def pairD (x : Str × (Int × Int)) : D := .tup [.str x.1, cardD x.2]
def walD (ps : List (Str × (Int × Int))) : D := .obj "Wallet" ["pairs"] [.tup (ps.map pairD)]
theorem worth_ok {b l : Int} {k : Nat} (hk : k ≤ 1000) {u : PuS} {P : D → PuS → Prop} (h : P (.int (wor b l k)) u) : Ok (mf_worth [.int b, .int l, .int k]) u P := by
  unfold mf_worth mb_worth
  simp
  refine ⟨.inl (.inl (by omega)), ?_⟩
  have : (if (k : Int) * l < b then (k : Int) * l else b) = wor b l k := by unfold wor; split <;> omega
  rw [this]
  exact h
theorem card_init {b l : Int} (hl : 1 ≤ l) (hb : 0 ≤ b) (h24 : b ≤ 24 * l) {u : PuS} {P : List Str × List D → PuS → Prop} (h : P (["held", "daily"], [.int b, .int l]) u) : Ok (mf_Card___init__ [.int b, .int l]) u P := by
  unfold mf_Card___init__ mb_Card___init__
  have h1 : 0 ≤ l := by omega
  have h2 : ¬ l = 0 := by omega
  have h3 : ¬ 24 * l < b := by omega
  simp [startI, hb, h1, h2, h3]
  exact ⟨[], [], ⟨rfl, rfl⟩, by simp, by decide, ⟨by simp, by decide⟩, by decide, h⟩
theorem dmC_log {a b : Int} (h : 0 < b) (h2 : b.natAbs.log2 < 8000) : dmC a b = true := by
  unfold dmC
  have e : Builtin.divisionGoesByPylong a b = false := by
    unfold Builtin.divisionGoesByPylong
    simp only []
    have hb : ¬ ((if (b == 0) = true then 0 else b.natAbs.log2 / 30 + 1) > 300) := by
      split
      · omega
      · omega
    simp only [hb, decide_false, Bool.false_and]
  rw [e, decide_eq_true h]; rfl
theorem sumsFrom_at : ∀ (row : List Int) (t : Int) (k : Nat), k < row.length → (sumsFrom t row)[k]? = some (t + sumN row (k + 1))
  | [], t, k, h => by simp at h
  | x :: row, t, 0, h => by simp [sumsFrom, sumN]
  | x :: row, t, k + 1, h => by
    show (sumsFrom (t + x) row)[k]? = some (t + (x + sumN row (k + 1)))
    rw [sumsFrom_at row (t + x) k (by simpa using h)]
    congr 1
    omega
end Sh

set_option Elab.async false
set_option linter.all false
set_option maxRecDepth 100000
set_option maxHeartbeats 4000000
/-! K2m: what courses ask, plain. -/
namespace P20
/-- an event: a bill, or a card that comes -/
abbrev Ev := Sum Int (Int × Int)
def isB : Ev → Bool
  | .inl _ => true
  | .inr _ => false
def nB (evs : List Ev) : Nat := (evs.filter isB).length
def nC (evs : List Ev) : Nat := (evs.filter fun e => !isB e).length
theorem nB_inl (x : Int) (r : List Ev) : nB (.inl x :: r) = nB r + 1 := rfl
theorem nB_inr (q : Int × Int) (r : List Ev) : nB (.inr q :: r) = nB r := rfl
/-- sets of days with their worth -/
inductive Sel : Int → List Ev → List Int → Int → Prop
  | nil (i : Int) : Sel i [] [] 0
  | card {i b l v : Int} {rest : List Ev} {s : List Int} (h : Sel (i + 1) rest s v) : Sel i (.inr (b, l) :: rest) s (v - wor b l s.length)
  | skip {i x v : Int} {rest : List Ev} {s : List Int} (h : Sel (i + 1) rest s v) : Sel i (.inl x :: rest) s v
  | take {i x v : Int} {rest : List Ev} {s : List Int} (h : Sel (i + 1) rest s v) : Sel i (.inl x :: rest) (i :: s) (x + v)
/-- one step of the table, at an event with this index -/
def askStep (i : Int) (e : Ev) (best : List (Int × List Int)) : List (Int × List Int) := match e with
  | .inr (b, l) => best.map fun q => (q.1 - wor b l q.2.length, q.2)
  | .inl x =>
    let longer := best.map fun q => (q.1 + x, i :: q.2)
    [best.headD (0, [])] ++ ((List.range (best.length - 1)).map fun k => if (longer.getD k (0, [])).1 ≤ (best.getD (k + 1) (0, [])).1 then best.getD (k + 1) (0, []) else longer.getD k (0, [])) ++ [longer.getLastD (0, [])]
def asked (i : Int) : List Ev → List (Int × List Int)
  | [] => [(0, [])]
  | e :: rest => askStep i e (asked (i + 1) rest)
/-- a table as it should be -/
structure Tab (i : Int) (evs : List Ev) (t : List (Int × List Int)) : Prop where
  len : t.length = nB evs + 1
  at_ : ∀ (k : Nat) (a : Int) (ds : List Int), t[k]? = some (a, ds) → ds.length = k ∧ Sel i evs ds a ∧ ∀ s v, Sel i evs s v → s.length = k → v ≤ a
theorem Sel.len {i : Int} {evs : List Ev} {s : List Int} {v : Int} (h : Sel i evs s v) : s.length ≤ nB evs := by
  induction h with
  | nil => exact Nat.le_refl _
  | card h ih => rw [nB_inr]; exact ih
  | skip h ih => rw [nB_inl]; omega
  | take h ih => rw [nB_inl, List.length_cons]; omega
theorem asked_tab : ∀ (evs : List Ev) (i : Int), Tab i evs (asked i evs)
  | [], i => ⟨rfl, fun k a ds e => by
      cases k with
      | zero =>
        simp [asked] at e
        obtain ⟨rfl, rfl⟩ := e
        exact ⟨rfl, .nil i, fun s v h _ => by cases h; exact Int.le_refl _⟩
      | succ k => simp [asked] at e⟩
  | .inr (b, l) :: rest, i => by
    have ih := asked_tab rest (i + 1)
    refine ⟨?_, fun k a ds e => ?_⟩
    · show ((asked (i + 1) rest).map _).length = _
      rw [List.length_map, ih.len, nB_inr]
    · have e' : ((asked (i + 1) rest).map fun q => (q.1 - wor b l q.2.length, q.2))[k]? = some (a, ds) := e
      rw [List.getElem?_map] at e'
      cases e1 : (asked (i + 1) rest)[k]? with
      | none => rw [e1] at e'; cases e'
      | some q =>
        obtain ⟨a', ds'⟩ := q
        rw [e1] at e'
        cases e'
        obtain ⟨h1, h2, h3⟩ := ih.at_ k a' _ e1
        refine ⟨h1, .card h2, fun s v h hs => ?_⟩
        cases h with
        | card h =>
          have := h3 _ _ h hs
          rw [hs, h1]
          omega
  | .inl x :: rest, i => by
    have ih := asked_tab rest (i + 1)
    have hn : nB (.inl x :: rest) = nB rest + 1 := rfl
    have hlen : (asked (i + 1) rest).length = nB rest + 1 := ih.len
    generalize hb : asked (i + 1) rest = best at ih hlen
    have hres : asked i (.inl x :: rest) = askStep i (.inl x) best := by rw [← hb]; rfl
    rw [hres]
    obtain ⟨q0, br, rfl⟩ : ∃ q br, best = q :: br := by
      cases best with
      | nil => simp at hlen
      | cons q br => exact ⟨q, br, rfl⟩
    have hget : ∀ k, k < nB rest + 1 → (q0 :: br)[k]? = some ((q0 :: br).getD k (0, [])) := fun k hk => by
      rw [List.getD_eq_getElem?_getD, List.getElem?_eq_getElem (by omega)]; rfl
    have hgl : ∀ k, k < nB rest + 1 → ((q0 :: br).map fun q => (q.1 + x, i :: q.2)).getD k (0, []) = (((q0 :: br).getD k (0, [])).1 + x, i :: ((q0 :: br).getD k (0, [])).2) := fun k hk => by
      rw [List.getD_eq_getElem?_getD, List.getElem?_map, hget k hk]; rfl
    have hst : ∀ k, k ≤ nB rest + 1 → (askStep i (.inl x) (q0 :: br))[k]? = some (if k = 0 then q0 else if h : k < nB rest + 1 then (if ((q0 :: br).getD (k - 1) (0, [])).1 + x ≤ ((q0 :: br).getD k (0, [])).1 then (q0 :: br).getD k (0, []) else (((q0 :: br).getD (k - 1) (0, [])).1 + x, i :: ((q0 :: br).getD (k - 1) (0, [])).2)) else (((q0 :: br).getD (nB rest) (0, [])).1 + x, i :: ((q0 :: br).getD (nB rest) (0, [])).2)) := fun k hk => by
      unfold askStep
      simp only []
      cases k with
      | zero => simp
      | succ k =>
        rw [if_neg (by omega)]
        show ((([(q0 :: br).headD (0, [])] ++ _) ++ [_])[k + 1]?) = _
        by_cases hk2 : k + 1 < nB rest + 1
        · have hlen' : br.length = nB rest := by rw [List.length_cons] at hlen; omega
          rw [dif_pos hk2, List.getElem?_append_left (by simp; omega)]
          show ((List.range ((q0 :: br).length - 1)).map _)[k]? = _
          rw [List.getElem?_map, List.getElem?_range (by rw [hlen]; omega)]
          simp only [Option.map_some, hgl k (by omega)]
          rfl
        · rw [dif_neg hk2]
          have hke : k = nB rest := by omega
          have hlen' : br.length = nB rest := by rw [List.length_cons] at hlen; omega
          rw [List.getElem?_append_right (by simp; omega)]
          have e0 : k + 1 - ([(q0 :: br).headD (0, [])] ++ ((List.range ((q0 :: br).length - 1)).map fun k => if (((q0 :: br).map fun q => (q.1 + x, i :: q.2)).getD k (0, [])).1 ≤ ((q0 :: br).getD (k + 1) (0, [])).1 then (q0 :: br).getD (k + 1) (0, []) else ((q0 :: br).map fun q => (q.1 + x, i :: q.2)).getD k (0, []))).length = 0 := by simp; omega
          rw [e0]
          simp only [List.getElem?_cons_zero]
          congr 1
          rw [List.getLastD_eq_getLast?, List.getLast?_eq_getElem?]
          have e1 : ((q0 :: br).map fun q => (q.1 + x, i :: q.2)).length - 1 = nB rest := by rw [List.length_map, hlen]; omega
          rw [e1, List.getElem?_map, hget (nB rest) (by omega)]
          rfl
    refine ⟨?_, fun k a ds e => ?_⟩
    · rw [hn]
      unfold askStep
      simp
      simp at hlen
      omega
    · have hk : k ≤ nB rest + 1 := by
        have := (List.getElem?_eq_some_iff.mp e).1
        have h2 : (askStep i (.inl x) (q0 :: br)).length = nB rest + 2 := by
          unfold askStep
          simp
          simp at hlen
          omega
        omega
      rw [hst k hk] at e
      have e := Option.some.inj e
      have tk : ∀ j, j < nB rest + 1 → ∀ q, q = (q0 :: br).getD j (0, []) → q.2.length = j ∧ Sel (i + 1) rest q.2 q.1 ∧ ∀ s v, Sel (i + 1) rest s v → s.length = j → v ≤ q.1 := fun j hj q hq => ih.at_ j q.1 q.2 (by rw [hget j hj, hq])
      have cmp : ∀ (s : List Int) (v : Int), Sel i (.inl x :: rest) s v → (Sel (i + 1) rest s v) ∨ ∃ s' v', s = i :: s' ∧ v = x + v' ∧ Sel (i + 1) rest s' v' := fun s v h => by
        cases h with
        | skip h => exact .inl h
        | take h => exact .inr ⟨_, _, rfl, rfl, h⟩
      by_cases k0 : k = 0
      · subst k0
        rw [if_pos rfl] at e
        obtain ⟨h1, h2, h3⟩ := tk 0 (by omega) q0 rfl
        subst e
        refine ⟨h1, .skip h2, fun s v h hs => ?_⟩
        rcases cmp s v h with h | ⟨s', v', es, ev, h'⟩
        · exact h3 s v h hs
        · rw [es] at hs; simp at hs
      · rw [if_neg k0] at e
        obtain ⟨p1, p2, p3⟩ := tk (k - 1) (by omega) _ rfl
        by_cases hk2 : k < nB rest + 1
        · rw [dif_pos hk2] at e
          obtain ⟨h1, h2, h3⟩ := tk k hk2 _ rfl
          split at e
          · rename_i hc
            rw [e] at h1 h2 h3 hc
            refine ⟨h1, .skip h2, fun s v h hs => ?_⟩
            rcases cmp s v h with h | ⟨s', v', es, ev, h'⟩
            · exact h3 s v h hs
            · have := p3 s' v' h' (by rw [es, List.length_cons] at hs; omega)
              simp only [] at hc
              omega
          · rename_i hc
            obtain ⟨ea, ed⟩ := Prod.mk.inj e
            subst ea ed
            refine ⟨by rw [List.length_cons, p1]; omega, ?_, fun s v h hs => ?_⟩
            · rw [Int.add_comm]; exact .take p2
            · rcases cmp s v h with h | ⟨s', v', es, ev, h'⟩
              · have := h3 s v h hs; omega
              · have := p3 s' v' h' (by rw [es, List.length_cons] at hs; omega); omega
        · rw [dif_neg hk2] at e
          have hke : k - 1 = nB rest := by omega
          rw [← hke] at e
          obtain ⟨ea, ed⟩ := Prod.mk.inj e
          subst ea ed
          refine ⟨by rw [List.length_cons, p1]; omega, ?_, fun s v h hs => ?_⟩
          · rw [Int.add_comm]; exact .take p2
          · rcases cmp s v h with h | ⟨s', v', es, ev, h'⟩
            · have := h.len; omega
            · have := p3 s' v' h' (by rw [es, List.length_cons] at hs; omega); omega
/-- what a course asks of 1, 2, .. days -/
def asks (evs : List Ev) : List Int := ((asked 0 evs).map Prod.fst).drop 1
theorem asked_len (evs : List Ev) (i : Int) : (asked i evs).length = nB evs + 1 := (asked_tab evs i).len
theorem asks_len (evs : List Ev) : (asks evs).length = nB evs := by simp [asks, asked_len]
theorem asked_zero : ∀ (evs : List Ev) (i : Int), Am (evs.filterMap fun e => match e with | .inr q => some q | .inl _ => none) → (asked i evs)[0]? = some (0, [])
  | [], i, _ => rfl
  | .inr (b, l) :: rest, i, h => by
    have ih := asked_zero rest (i + 1) (fun q hq => h q (by simp; exact .inr (by simpa using hq)))
    show ((asked (i + 1) rest).map _)[0]? = _
    rw [List.getElem?_map, ih]
    have := (h (b, l) (by simp)).2.1
    simp [wor_zero this]
  | .inl x :: rest, i, h => by
    have ih := asked_zero rest (i + 1) (fun q hq => h q (by simpa using hq))
    show (askStep i (.inl x) (asked (i + 1) rest))[0]? = _
    unfold askStep
    cases hb : asked (i + 1) rest with
    | nil => rw [hb] at ih; simp at ih
    | cons q br => rw [hb] at ih; simp at ih; simp [ih]
/-! ### sets of days, one by one -/
def spotsI : Int → List Ev → List Int
  | _, [] => []
  | i, .inl _ :: r => i :: spotsI (i + 1) r
  | i, .inr _ :: r => spotsI (i + 1) r
theorem spotsI_ge : ∀ (evs : List Ev) (i d : Int), d ∈ spotsI i evs → i ≤ d
  | [], i, d, h => by cases h
  | .inl x :: r, i, d, h => by
    rcases List.mem_cons.mp h with rfl | h
    · exact Int.le_refl _
    · have := spotsI_ge r (i + 1) d h; omega
  | .inr q :: r, i, d, h => by have := spotsI_ge r (i + 1) d h; omega
theorem spotsI_len : ∀ (evs : List Ev) (i : Int), (spotsI i evs).length = nB evs
  | [], i => rfl
  | .inl x :: r, i => by rw [nB_inl]; show (spotsI (i + 1) r).length + 1 = _; rw [spotsI_len r]
  | .inr q :: r, i => by rw [nB_inr]; exact spotsI_len r (i + 1)
def bAt (evs : List Ev) (d : Int) : Int := match evs[d.toNat]? with
  | some (.inl x) => x
  | _ => 0
def cutSum : Int → List Ev → List Int → Int
  | _, [], _ => 0
  | i, .inr q :: r, s => wor q.1 q.2 (s.filter fun d => decide (i < d)).length + cutSum (i + 1) r s
  | i, .inl _ :: r, s => cutSum (i + 1) r s
def lv (i : Int) (evs : List Ev) (s : List Int) : Int := (s.map fun d => bAt evs (d - i)).sum - cutSum i evs s
theorem bAt_cons {e : Ev} {r : List Ev} {i d : Int} (h : i + 1 ≤ d) : bAt (e :: r) (d - i) = bAt r (d - (i + 1)) := by
  unfold bAt
  have : (d - i).toNat = (d - (i + 1)).toNat + 1 := by omega
  rw [this]
  rfl
theorem cutSum_drop : ∀ (evs : List Ev) (i j : Int) (s : List Int), j < i → cutSum i evs (j :: s) = cutSum i evs s
  | [], i, j, s, h => rfl
  | .inr q :: r, i, j, s, h => by
    show wor q.1 q.2 ((j :: s).filter fun d => decide (i < d)).length + cutSum (i + 1) r (j :: s) = _
    rw [cutSum_drop r (i + 1) j s (by omega), List.filter_cons_of_neg (by simp; omega)]
    rfl
  | .inl x :: r, i, j, s, h => cutSum_drop r (i + 1) j s (by omega)
theorem sel_of_sub : ∀ (evs : List Ev) (i : Int) (s : List Int), s.Sublist (spotsI i evs) → Sel i evs s (lv i evs s)
  | [], i, s, h => by
    have : s = [] := List.eq_nil_of_sublist_nil h
    subst this
    exact .nil i
  | .inr (b, l) :: r, i, s, h => by
    have hs : s.Sublist (spotsI (i + 1) r) := h
    have ge : ∀ d ∈ s, i + 1 ≤ d := fun d hd => spotsI_ge r (i + 1) d (hs.subset hd)
    have ih := sel_of_sub r (i + 1) s hs
    have e : lv i (.inr (b, l) :: r) s = lv (i + 1) r s - wor b l s.length := by
      unfold lv
      have e1 : (s.map fun d => bAt (.inr (b, l) :: r) (d - i)) = s.map fun d => bAt r (d - (i + 1)) := List.map_congr_left fun d hd => bAt_cons (ge d hd)
      have e2 : s.filter (fun d => decide (i < d)) = s := List.filter_eq_self.mpr fun d hd => decide_eq_true (by have := ge d hd; omega)
      show _ - (wor b l (s.filter fun d => decide (i < d)).length + cutSum (i + 1) r s) = _
      rw [e1, e2]
      omega
    rw [e]
    exact .card ih
  | .inl x :: r, i, s, h => by
    have hs : s.Sublist (i :: spotsI (i + 1) r) := h
    have key : ∀ s' : List Int, s'.Sublist (spotsI (i + 1) r) → lv i (.inl x :: r) s' = lv (i + 1) r s' := fun s' hs' => by
      have ge : ∀ d ∈ s', i + 1 ≤ d := fun d hd => spotsI_ge r (i + 1) d (hs'.subset hd)
      unfold lv
      have e1 : (s'.map fun d => bAt (.inl x :: r) (d - i)) = s'.map fun d => bAt r (d - (i + 1)) := List.map_congr_left fun d hd => bAt_cons (ge d hd)
      rw [e1]
      rfl
    rcases List.sublist_cons_iff.mp hs with hs' | ⟨s', rfl, hs'⟩
    · rw [key s hs']
      exact .skip (sel_of_sub r (i + 1) s hs')
    · have ge : ∀ d ∈ s', i + 1 ≤ d := fun d hd => spotsI_ge r (i + 1) d (hs'.subset hd)
      have e : lv i (.inl x :: r) (i :: s') = x + lv (i + 1) r s' := by
        rw [← key s' hs']
        unfold lv
        rw [List.map_cons, List.sum_cons]
        have e2 : bAt (.inl x :: r) (i - i) = x := by rw [Int.sub_self]; rfl
        have e3 : cutSum i (.inl x :: r) (i :: s') = cutSum i (.inl x :: r) s' := cutSum_drop r (i + 1) i s' (by omega)
        rw [e2, e3]
        omega
      rw [e]
      exact .take (sel_of_sub r (i + 1) s' hs')
theorem Sel.sub {i : Int} {evs : List Ev} {s : List Int} {v : Int} (h : Sel i evs s v) : s.Sublist (spotsI i evs) := by
  induction h with
  | nil => exact List.Sublist.refl _
  | card h ih => exact ih
  | skip h ih => exact ih.cons _
  | take h ih => exact ih.cons_cons _
theorem Sel.uniq {i : Int} {evs : List Ev} {s : List Int} {v v' : Int} (h : Sel i evs s v) (h' : Sel i evs s v') : v = v' := by
  induction h generalizing v' with
  | nil => cases h'; rfl
  | card h ih =>
    cases h' with
    | card h2 => rw [ih h2]
  | @skip i x v rest s h ih =>
    cases h' with
    | skip h2 => exact ih h2
    | take h2 =>
      have := spotsI_ge _ _ _ (h.sub.subset List.mem_cons_self)
      omega
  | @take i x v rest s h ih =>
    cases h' with
    | take h2 => rw [ih h2]
    | skip h2 =>
      have := spotsI_ge _ _ _ (h2.sub.subset List.mem_cons_self)
      omega
theorem Sel.val {i : Int} {evs : List Ev} {s : List Int} {v : Int} (h : Sel i evs s v) : v = lv i evs s := h.uniq (sel_of_sub evs i s h.sub)
/-- all sets, as they are made one by one -/
def subsets (xs : List Int) : List (List Int) := xs.foldl (fun ss x => ss ++ ss.map fun s => s ++ [x]) [[]]
theorem subsets_snoc (xs : List Int) (x : Int) : subsets (xs ++ [x]) = subsets xs ++ (subsets xs).map fun s => s ++ [x] := by
  unfold subsets
  rw [List.foldl_append]
  rfl
theorem mem_subsets (xs s : List Int) : s ∈ subsets xs ↔ s.Sublist xs := by
  induction hn : xs.length generalizing xs s with
  | zero =>
    have : xs = [] := List.length_eq_zero_iff.mp hn
    subst this
    simp [subsets]
  | succ n ih =>
    obtain ⟨ys, y, rfl⟩ : ∃ ys y, xs = ys ++ [y] := by
      rcases List.eq_nil_or_concat xs with h | ⟨p, l, h⟩
      · rw [h] at hn; simp at hn
      · exact ⟨p, l, by simpa using h⟩
    have ih' := fun s => ih ys s (by simp at hn; exact hn)
    rw [subsets_snoc, List.mem_append, ih', List.mem_map, List.sublist_append_iff]
    constructor
    · rintro (h | ⟨s', h, rfl⟩)
      · exact ⟨s, [], by simp, h, List.nil_sublist _⟩
      · exact ⟨s', [y], rfl, (ih' s').mp h, List.Sublist.refl _⟩
    · rintro ⟨l1, l2, rfl, h1, h2⟩
      rcases List.sublist_cons_iff.mp h2 with h3 | ⟨l3, rfl, h3⟩
      · have := List.eq_nil_of_sublist_nil h3
        subst this
        exact .inl (by simpa using h1)
      · have := List.eq_nil_of_sublist_nil h3
        subst this
        exact .inr ⟨l1, (ih' l1).mpr h1, rfl⟩
theorem subsets_len (xs : List Int) : (subsets xs).length = 2 ^ xs.length := by
  induction hn : xs.length generalizing xs with
  | zero =>
    have : xs = [] := List.length_eq_zero_iff.mp hn
    subst this
    rfl
  | succ n ih =>
    obtain ⟨ys, y, rfl⟩ : ∃ ys y, xs = ys ++ [y] := by
      rcases List.eq_nil_or_concat xs with h | ⟨p, l, h⟩
      · rw [h] at hn; simp at hn
      · exact ⟨p, l, by simpa using h⟩
    have := ih ys (by simp at hn; exact hn)
    rw [subsets_snoc, List.length_append, List.length_map, this, Nat.pow_succ]
    omega
end P20

set_option Elab.async false
set_option linter.all false
set_option maxRecDepth 100000
set_option maxHeartbeats 4000000
namespace Sh
open PySem L2 Mi P20
def evD : Ev → D
  | .inl x => .int x
  | .inr q => cardD q
def courD (evs : List Ev) : D := .obj "Course" ["passed"] [.tup (evs.map evD)]
def evOk : Ev → Prop
  | .inl x => 0 ≤ x
  | .inr q => 1 ≤ q.2 ∧ 0 ≤ q.1 ∧ q.1 ≤ 24 * q.2
structure EvsOk (evs : List Ev) : Prop where
  each : ∀ e ∈ evs, evOk e
  bills : nB evs ≤ 12
  cards : nC evs ≤ 6
theorem nBC : ∀ evs : List Ev, nB evs + nC evs = evs.length
  | [] => rfl
  | .inl x :: r => by have := nBC r; rw [nB_inl]; show nB r + 1 + nC r = r.length + 1; omega
  | .inr q :: r => by have := nBC r; rw [nB_inr]; show nB r + (nC r + 1) = r.length + 1; omega
theorem EvsOk.len {evs : List Ev} (h : EvsOk evs) : evs.length ≤ 18 := by have := nBC evs; have := h.bills; have := h.cards; omega
theorem nB_append (a b : List Ev) : nB (a ++ b) = nB a + nB b := by simp [nB]
theorem nC_append (a b : List Ev) : nC (a ++ b) = nC a + nC b := by simp [nC]
theorem nB_take (evs : List Ev) (k : Nat) : nB (evs.take k) ≤ nB evs := by
  have := nB_append (evs.take k) (evs.drop k)
  rw [List.take_append_drop] at this
  omega
theorem nC_take (evs : List Ev) (k : Nat) : nC (evs.take k) ≤ nC evs := by
  have := nC_append (evs.take k) (evs.drop k)
  rw [List.take_append_drop] at this
  omega
@[simp] theorem bal_ok {q : Int × Int} {u : PuS} {P : D → PuS → Prop} : Ok (mf_Card_balance [.obj "Card" ["held", "daily"] [.int q.1, .int q.2]]) u P ↔ P (.int q.1) u := by
  unfold mf_Card_balance mb_Card_balance
  simp
@[simp] theorem lim_ok {q : Int × Int} {u : PuS} {P : D → PuS → Prop} : Ok (mf_Card_limit [.obj "Card" ["held", "daily"] [.int q.1, .int q.2]]) u P ↔ P (.int q.2) u := by
  unfold mf_Card_limit mb_Card_limit
  simp
theorem wrong_event_ok {evs : List Ev} (h : EvsOk evs) {u : PuS} {P : D → PuS → Prop} (hp : P .non u) : Ok (mf_wrong_event [.tup (evs.map evD)]) u P := by
  unfold mf_wrong_event mb_wrong_event
  simp
  refine ok_list (enumD (evs.map evD)) (fun k ρ u' => u' = u ∧ ∃ a b, ρ = [.sh (.tup (evs.map evD)), .sh (.int (nB (evs.take k))), .sh (.int (nC (evs.take k))), a, b]) ?_ ?_ _ _ ⟨rfl, _, _, rfl⟩
  · rintro k d ρ u' e ⟨rfl, a, b, rfl⟩
    obtain ⟨x, ex, rfl⟩ := enumD_at e
    rw [List.getElem?_map] at ex
    cases e2 : evs[k]? with
    | none => rw [e2] at ex; cases ex
    | some ev =>
      rw [e2] at ex
      cases ex
      have e7 : evs.take (k + 1) = evs.take k ++ [ev] := by rw [List.take_succ, e2]; simp
      have hb := nB_take evs (k + 1)
      have hc := nC_take evs (k + 1)
      have b12 := h.bills
      have c6 := h.cards
      unfold lb_wrong_event_1
      rw [e7] at hb hc ⊢
      rw [nB_append] at hb
      rw [nC_append] at hc
      rw [nB_append, nC_append]
      have hev := h.each ev (List.mem_of_getElem? e2)
      cases ev with
      | inl x =>
        have e3 : isiD [.int x, .cls "Card"] = some (.bl false) := rfl
        have n1 : nB [(Sum.inl x : Ev)] = 1 := rfl
        have n2 : nC [(Sum.inl x : Ev)] = 0 := rfl
        rw [n1] at hb
        rw [n2] at hc
        rw [n1, n2]
        have hx : 0 ≤ x := hev
        have h1 : ¬ (12 : Int) < (nB (evs.take k) : Int) + 1 := by omega
        have h2 : ¬ (6 : Int) < (nC (evs.take k) : Int) := by omega
        have e4 : evD (.inl x) = .int x := rfl
        simp [e3, e4, hx, h1, h2]
      | inr q =>
        have e3 : isiD [evD (.inr q), .cls "Card"] = some (.bl true) := rfl
        have n1 : nB [(Sum.inr q : Ev)] = 0 := rfl
        have n2 : nC [(Sum.inr q : Ev)] = 1 := rfl
        rw [n1] at hb
        rw [n2] at hc
        rw [n1, n2]
        have h1 : ¬ (12 : Int) < (nB (evs.take k) : Int) := by omega
        have h2 : ¬ (6 : Int) < (nC (evs.take k) : Int) + 1 := by omega
        simp [e3, h1, h2]
  · rintro ρ u' ⟨rfl, a, b, rfl⟩
    simpa using hp
theorem cour_init {evs : List Ev} (h : EvsOk evs) {u : PuS} {P : List Str × List D → PuS → Prop} (hp : P (["passed"], [.tup (evs.map evD)]) u) : Ok (mf_Course___init__ [.tup (evs.map evD)]) u P := by
  unfold mf_Course___init__ mb_Course___init__
  have e : isiD [.tup (evs.map evD), .ty "tuple"] = some (.bl true) := rfl
  simp [startI, e]
  refine wrong_event_ok h ?_
  have e2 : isntD .non .non = some (.bl false) := rfl
  simp [e2]
  exact ⟨[], [], ⟨rfl, rfl⟩, by simp, by decide, hp⟩
@[simp] theorem check_course_ok {evs : List Ev} {u : PuS} {P : D → PuS → Prop} : Ok (mf_check_course [courD evs]) u P ↔ P .non u := by
  unfold mf_check_course mb_check_course
  have e : isiD [courD evs, .cls "Course"] = some (.bl true) := rfl
  simp [e]
/-- an entry of the table -/
def askD (q : Int × List Int) : D := .tup [.int q.1, .tup (q.2.map D.int)]
theorem drop_cons {evs : List Ev} {k : Nat} {ev : Ev} (h : evs[k]? = some ev) : evs.drop k = ev :: evs.drop (k + 1) := by
  have hk : k < evs.length := (List.getElem?_eq_some_iff.mp h).1
  have e : ev = evs[k] := (List.getElem?_eq_some_iff.mp h).2.symm
  rw [e]; exact List.drop_eq_getElem_cons hk
theorem asked_sets_ok {evs : List Ev} (h18 : evs.length ≤ 100) {u : PuS} {P : D → PuS → Prop} (hp : P (.lst ((asked 0 evs).map askD)) u) : Ok (mf_asked_sets [.tup (evs.map evD)]) u P := by
  unfold mf_asked_sets mb_asked_sets
  simp
  have e0 : enL [.tup (evs.map evD)] = some (.lst (enumD (evs.map evD))) := rfl
  simp [e0]
  refine ok_list (enumD (evs.map evD)).reverse (fun k ρ u' => u' = u ∧ ∃ a b c d e f g, ρ = [.sh (.tup (evs.map evD)), .sh (.lst ((asked ((evs.length - k : Nat) : Int) (evs.drop (evs.length - k))).map askD)), a, b, c, d, e, f, g]) ?_ ?_ _ _ ?_
  · rintro k d ρ u' e ⟨rfl, a, b, c, d', e', f, g, rfl⟩
    have hk : k < evs.length := by
      have := (List.getElem?_eq_some_iff.mp e).1
      simpa [enumD_len] using this
    rw [List.getElem?_reverse (by rw [enumD_len, List.length_map]; exact hk), enumD_len, List.length_map] at e
    obtain ⟨x, ex, rfl⟩ := enumD_at e
    rw [List.getElem?_map] at ex
    have hj : evs.length - 1 - k + 1 = evs.length - k := by omega
    rw [show evs.length - (k + 1) = evs.length - 1 - k by omega]
    generalize hjj : evs.length - 1 - k = j at hj ex
    rw [← hj]
    cases e2 : evs[j]? with
    | none => rw [e2] at ex; cases ex
    | some ev =>
      rw [e2] at ex
      cases ex
      rw [drop_cons e2]
      have hn : (asked ((j + 1 : Nat) : Int) (evs.drop (j + 1))).length ≤ 101 := by
        rw [asked_len]
        have := nBC (evs.drop (j + 1))
        simp at this
        omega
      have hst : asked (j : Int) (ev :: evs.drop (j + 1)) = askStep (j : Int) ev (asked ((j + 1 : Nat) : Int) (evs.drop (j + 1))) := by
        show askStep (j : Int) ev (asked ((j : Int) + 1) _) = _
        rw [show ((j + 1 : Nat) : Int) = (j : Int) + 1 by omega]
      rw [hst]
      have hlen1 : 1 ≤ (asked ((j + 1 : Nat) : Int) (evs.drop (j + 1))).length := by rw [asked_len]; omega
      have hds : ∀ q ∈ asked ((j + 1 : Nat) : Int) (evs.drop (j + 1)), q.2.length ≤ 100 := fun q hq => by
        obtain ⟨n, hn', e3⟩ := List.mem_iff_getElem.mp hq
        have := ((asked_tab (evs.drop (j + 1)) ((j + 1 : Nat) : Int)).at_ n q.1 q.2 (by rw [List.getElem?_eq_getElem hn', e3])).1
        omega
      generalize asked ((j + 1 : Nat) : Int) (evs.drop (j + 1)) = best at hn hlen1 hds ⊢
      cases ev with
      | inr q =>
        have e3 : isiD [evD (.inr q), .cls "Card"] = some (.bl true) := rfl
        simp [e3, -s_Gt]
        refine ⟨_, rfl, ?_⟩
        simp [e3]
        refine ⟨by omega, ?_⟩
        refine ok_lca (fun z => [.sh (.tup (evs.map evD)), .sh (.lst (best.map askD)), .sh (.int j), .sh (evD (.inr q)), c, d', .sh (.int z.1), .sh (.tup (z.2.map D.int)), g]) (fun z => askD (z.1 - wor q.1 q.2 z.2.length, z.2)) ?_ ?_ ?_
        · intro z hz; rfl
        · intro z hz
          unfold ce_asked_sets_1
          simp
          refine ⟨_, _, rfl, ?_⟩
          simp
          refine ⟨_, _, rfl, ?_⟩
          simp
          refine worth_ok (by have := hds z hz; omega) ?_
          simp
          rfl
        · have e5 : best.map (fun z => askD (z.1 - wor q.1 q.2 z.2.length, z.2)) = (askStep (j : Int) (.inr q) best).map askD := by
            show _ = (best.map _).map askD
            rw [List.map_map]; rfl
          exact ⟨rfl, e5⟩
      | inl x =>
        have e3 : isiD [evD (.inl x), .cls "Card"] = some (.bl false) := rfl
        have ev4 : evD (.inl x) = .int x := rfl
        refine ⟨_, rfl, ?_⟩
        unfold lb_asked_sets_4
        rw [ok_ifS]
        simp only [ok_B, ok_CB, ok_cons, ok_nil, ok_var, ok_C, s_vSh, List.set_cons_succ, List.set_cons_zero, List.getElem?_cons_succ, List.getElem?_cons_zero, Option.some.injEq, exists_eq_left', e3, onB_bl, br_f]
        have hstp : (askStep (j : Int) (.inl x) best).map askD = [askD (best.headD (0, []))] ++ ((List.range (best.length - 1)).map fun k => askD (if ((best.map fun z => (z.1 + x, (j : Int) :: z.2)).getD k (0, [])).1 ≤ (best.getD (k + 1) (0, [])).1 then best.getD (k + 1) (0, []) else (best.map fun z => (z.1 + x, (j : Int) :: z.2)).getD k (0, []))) ++ [askD ((best.map fun z => (z.1 + x, (j : Int) :: z.2)).getLastD (0, []))] := by
          unfold askStep
          simp only [List.map_append, List.map_cons, List.map_nil, List.map_map]
          rfl
        generalize (askStep (j : Int) (.inl x) best).map askD = res at hstp ⊢
        refine seq_step fun kk hkk => ?_
        simp
        refine ⟨by omega, ?_⟩
        refine ok_lca (fun z => [.sh (.tup (evs.map evD)), .sh (.lst (best.map askD)), .sh (.int j), .sh (evD (.inl x)), c, d', .sh (.int z.1), .sh (.tup (z.2.map D.int)), g]) (fun z => askD (z.1 + x, (j : Int) :: z.2)) ?_ ?_ ?_
        · intro z hz; rfl
        · intro z hz
          unfold ce_asked_sets_2
          have ea : addD (.tup [.int (j : Int)]) (.tup (z.2.map D.int)) = some (.tup (((j : Int) :: z.2).map D.int)) := if_pos (by have := hds z hz; simp; omega)
          simp [ev4, ea]
          rfl
        have el : best.map (fun z => askD (z.1 + x, (j : Int) :: z.2)) = (best.map fun z => (z.1 + x, (j : Int) :: z.2)).map askD := by rw [List.map_map]; rfl
        rw [el]
        have hll : (best.map fun z => (z.1 + x, (j : Int) :: z.2)).length = best.length := List.length_map ..
        generalize (best.map fun z => (z.1 + x, (j : Int) :: z.2)) = longer at hll hstp ⊢
        refine hkk _ _ ?_
        clear hkk kk
        refine seq_step fun kk hkk => ?_
        simp [mBorLs]
        refine ⟨by omega, by rw [rngD_len]; omega, ?_⟩
        refine ok_lcra (fun k => [.sh (.tup (evs.map evD)), .sh (.lst (best.map askD)), .sh (.int j), .sh (evD (.inl x)), .sh (.lst (longer.map askD)), d', e', f, .sh (.int (1 + (k : Nat)))]) (fun k => askD (if (longer.getD k (0, [])).1 ≤ (best.getD (k + 1) (0, [])).1 then best.getD (k + 1) (0, []) else longer.getD k (0, []))) ?_ ?_ ?_
        · intro k hk; rfl
        · intro k hk
          unfold ce_asked_sets_3
          have i1 : atI (best.map askD) (1 + (k : Int)) = some (askD (best.getD (k + 1) (0, []))) := by
            rw [show (1 + (k : Int)) = ((k + 1 : Nat) : Int) by omega]
            exact at_nat (by rw [List.getElem?_map, List.getD_eq_getElem?_getD, List.getElem?_eq_getElem (by omega)]; rfl)
          have i2 : atI (longer.map askD) (1 + (k : Int) - 1) = some (askD (longer.getD k (0, []))) := by
            rw [show (1 + (k : Int) - 1) = (k : Int) by omega]
            exact at_nat (by rw [List.getElem?_map, List.getD_eq_getElem?_getD, List.getElem?_eq_getElem (by omega)]; rfl)
          have i3 : ∀ q, ixD (askD q) (.int 0) = some (.int q.1) := fun q => rfl
          generalize best.getD (k + 1) (0, []) = q1 at i1 ⊢
          generalize longer.getD k (0, []) = q2 at i2 ⊢
          simp [i1, i2, i3]
          refine brd (fun z => ?_) (fun z => ?_)
          · simp [z]
          · have z' : q1.1 < q2.1 := by omega
            simp [z, z']
        have hk0 : atI (best.map askD) 0 = some (askD (best.headD (0, []))) := by
          refine at_nat (k := 0) ?_
          cases best with
          | nil => simp at hlen1
          | cons a b => rfl
        have hkl : atI (longer.map askD) (-1) = some (askD (longer.getLastD (0, []))) := by
          obtain ⟨pre, last, rfl⟩ : ∃ pre last, longer = pre ++ [last] := by
            rcases List.eq_nil_or_concat longer with h | ⟨p, l, h⟩
            · rw [h] at hll; simp at hll; omega
            · exact ⟨p, l, by simpa using h⟩
          rw [List.map_append]
          simp only [List.map_cons, List.map_nil]
          rw [at_last, List.getLastD_eq_getLast?]
          simp
        refine hkk _ _ ?_
        clear hkk kk
        have hkp : ∃ kept : List D, ((List.range (best.length - 1)).map fun k => askD (if (longer.getD k (0, [])).1 ≤ (best.getD (k + 1) (0, [])).1 then best.getD (k + 1) (0, []) else longer.getD k (0, []))) = kept ∧ kept.length ≤ 200 := ⟨_, rfl, by simp; omega⟩
        obtain ⟨kept, ek, hkept⟩ := hkp
        rw [ek] at hstp ⊢
        generalize askD (best.headD (0, [])) = fst at hk0 hstp ⊢
        generalize askD (longer.getLastD (0, [])) = lst at hkl hstp ⊢
        have a1 : addD (.lst [fst]) (.lst kept) = some (.lst ([fst] ++ kept)) := s_addL (by simp; omega)
        have a2 : addD (.lst ([fst] ++ kept)) (.lst [lst]) = some (.lst (([fst] ++ kept) ++ [lst])) := s_addL (by simp; omega)
        simp only [List.singleton_append] at a1 a2
        rw [hstp]
        simp [hk0, hkl, a1, a2]
  · rintro ρ u' ⟨rfl, a, b, c, d', e', f, g, rfl⟩
    simp [enumD_len]
    simpa using hp
  · refine ⟨rfl, .un, .un, .un, .un, .un, .un, .un, ?_⟩
    rw [Nat.sub_zero, List.drop_eq_nil_of_le (Nat.le_refl _)]
    rfl
theorem asked_ok {evs : List Ev} (h18 : evs.length ≤ 100) {u : PuS} {P : D → PuS → Prop} (hp : P (.lst ((asks evs).map D.int)) u) : Ok (mf_asked [.tup (evs.map evD)]) u P := by
  unfold mf_asked mb_asked
  simp
  refine asked_sets_ok h18 ?_
  have hl : (asked 0 evs).length ≤ 101 := by rw [asked_len]; have := nBC evs; omega
  simp
  refine ⟨by omega, ?_⟩
  refine ok_lca (fun z => [.sh (.tup (evs.map evD)), .sh (.int z.1), .sh (.tup (z.2.map D.int))]) (fun z => .int z.1) ?_ ?_ ?_
  · intro z hz; rfl
  · intro z hz; simp
  have e : cutD ((asked 0 evs).map fun z => D.int z.1) (some 1) none = (asks evs).map D.int := by
    rw [show (1 : Int) = ((1 : Nat) : Int) from rfl, cut_from]
    unfold asks
    rw [List.map_drop, List.map_map]
    rfl
  simp [e]
  exact hp
@[simp] theorem events_ok {evs : List Ev} {u : PuS} {P : D → PuS → Prop} : Ok (mf_Course_events [.obj "Course" ["passed"] [.tup (evs.map evD)]]) u P ↔ P (.tup (evs.map evD)) u := by
  unfold mf_Course_events mb_Course_events
  simp
end Sh

set_option Elab.async false
set_option linter.all false
set_option maxRecDepth 100000
set_option maxHeartbeats 4000000
/-! K3m: rows of bills with cards ahead and behind, plain. -/
namespace P20
open Mi L2
theorem asked_is {evs : List Ev} {i : Int} {L : List Int} (hl : L.length = nB evs + 1) (h : ∀ (k : Nat) (x : Int), L[k]? = some x → (∃ s, Sel i evs s x ∧ s.length = k) ∧ ∀ s v, Sel i evs s v → s.length = k → v ≤ x) : (asked i evs).map Prod.fst = L := by
  have T := asked_tab evs i
  apply List.ext_getElem?
  intro k
  by_cases hk : k < nB evs + 1
  · have hk1 : k < (asked i evs).length := by rw [T.len]; exact hk
    have hk2 : k < L.length := by rw [hl]; exact hk
    have e1 : (asked i evs)[k]? = some (asked i evs)[k] := List.getElem?_eq_getElem hk1
    have e2 : L[k]? = some L[k] := List.getElem?_eq_getElem hk2
    rw [List.getElem?_map, e1, e2]
    obtain ⟨t1, t2, t3⟩ := T.at_ k _ _ e1
    obtain ⟨⟨s, s1, s2⟩, s3⟩ := h k _ e2
    have h1 := t3 s _ s1 s2
    have h2 := s3 _ _ t2 t1
    simp only [Option.map_some]
    exact congrArg some (Int.le_antisymm h2 h1)
  · rw [List.getElem?_eq_none (by rw [List.length_map, T.len]; omega), List.getElem?_eq_none (by omega)]
/-- cards alone ask nothing -/
theorem sel_cards : ∀ {cs : List (Int × Int)} {i : Int} {s : List Int} {v : Int}, Am cs → Sel i (cs.map Sum.inr) s v → s = [] ∧ v = 0
  | [], i, s, v, _, h => by cases h; exact ⟨rfl, rfl⟩
  | (b, l) :: cs, i, s, v, ha, h => by
    cases h with
    | card h =>
      obtain ⟨rfl, rfl⟩ := sel_cards ha.tail h
      have := wor_zero (l := l) (ha (b, l) List.mem_cons_self).2.1
      exact ⟨rfl, by simp at this ⊢; omega⟩
theorem sel_cards' : ∀ {cs : List (Int × Int)} {i : Int}, Am cs → Sel i (cs.map Sum.inr) [] 0
  | [], i, _ => .nil i
  | (b, l) :: cs, i, ha => by
    have h := Sel.card (b := b) (l := l) (sel_cards' (cs := cs) (i := i + 1) ha.tail)
    have := wor_zero (l := l) (ha (b, l) List.mem_cons_self).2.1
    have e : (0 : Int) - wor b l ([] : List Int).length = 0 := by simp; omega
    rw [e] at h
    exact h
theorem sel_bills : ∀ {bs : List Int} {cs : List (Int × Int)} {i : Int} {s : List Int} {v : Int}, Am cs → Sel i (bs.map Sum.inl ++ cs.map Sum.inr) s v → ∃ t : List Int, t.Sublist bs ∧ t.length = s.length ∧ t.sum = v
  | [], cs, i, s, v, ha, h => by
    obtain ⟨rfl, rfl⟩ := sel_cards ha h
    exact ⟨[], List.Sublist.refl _, rfl, rfl⟩
  | b :: bs, cs, i, s, v, ha, h => by
    cases h with
    | skip h =>
      obtain ⟨t, h1, h2, h3⟩ := sel_bills ha h
      exact ⟨t, h1.cons _, h2, h3⟩
    | take h =>
      obtain ⟨t, h1, h2, h3⟩ := sel_bills ha h
      exact ⟨b :: t, h1.cons_cons _, by simp [h2], by simp [h3]⟩
theorem bills_sel : ∀ {bs : List Int} {cs : List (Int × Int)} {i : Int} {t : List Int}, Am cs → t.Sublist bs → ∃ s, Sel i (bs.map Sum.inl ++ cs.map Sum.inr) s t.sum ∧ s.length = t.length
  | [], cs, i, t, ha, h => by
    have := List.eq_nil_of_sublist_nil h
    subst this
    exact ⟨[], sel_cards' ha, rfl⟩
  | b :: bs, cs, i, t, ha, h => by
    rcases List.sublist_cons_iff.mp h with h' | ⟨t', rfl, h'⟩
    · obtain ⟨s, h1, h2⟩ := bills_sel (i := i + 1) ha h'
      exact ⟨s, .skip h1, h2⟩
    · obtain ⟨s, h1, h2⟩ := bills_sel (i := i + 1) ha h'
      exact ⟨i :: s, by rw [List.sum_cons]; exact .take h1, by simp [h2]⟩
theorem sel_ahead : ∀ {cs : List (Int × Int)} {rest : List Ev} {i : Int} {s : List Int} {v : Int}, Sel i (cs.map Sum.inr ++ rest) s v ↔ Sel (i + cs.length) rest s (v + FF cs s.length)
  | [], rest, i, s, v => by simp [FF]
  | (b, l) :: cs, rest, i, s, v => by
    have e : i + (((b, l) :: cs).length : Nat) = i + 1 + (cs.length : Nat) := by simp; omega
    rw [e, FF_cons]
    constructor
    · intro h
      cases h with
      | card h =>
        have := sel_ahead.mp h
        rename_i v'
        have e2 : v' - wor b l s.length + (wor b l s.length + FF cs s.length) = v' + FF cs s.length := by omega
        show Sel _ rest s (v' - wor b l s.length + (wor b l s.length + FF cs s.length))
        rw [e2]
        exact this
    · intro h
      have h2 : Sel (i + 1) (cs.map Sum.inr ++ rest) s (v + wor b l s.length) := sel_ahead.mpr (by
        have e2 : v + wor b l s.length + FF cs s.length = v + (wor b l s.length + FF cs s.length) := by omega
        rw [e2]; exact h)
      have h3 := Sel.card (b := b) (l := l) h2
      have e3 : v + wor b l s.length - wor b l s.length = v := by omega
      rw [e3] at h3
      exact h3
/-! ### the greatest ones -/
theorem take_le {x : Int} {r : List Int} (h : ∀ y ∈ r, y ≤ x) : ∀ n, n ≤ r.length → (r.take n).sum ≤ ((x :: r).take n).sum
  | 0, _ => by simp
  | n + 1, hn => by
    have hn' : n < r.length := by omega
    have := h r[n] (List.getElem_mem hn')
    have e : (r.take (n + 1)).sum = (r.take n).sum + r[n] := by
      rw [List.take_succ, List.getElem?_eq_getElem hn', List.sum_append]
      simp
    rw [e, List.take_succ_cons, List.sum_cons]
    omega
theorem sub_le : ∀ {r t : List Int}, r.Pairwise (· ≥ ·) → t.Sublist r → t.sum ≤ (r.take t.length).sum
  | [], t, _, h => by
    have := List.eq_nil_of_sublist_nil h
    subst this
    simp
  | x :: r, t, hr, h => by
    obtain ⟨h1, h2⟩ := List.pairwise_cons.mp hr
    rcases List.sublist_cons_iff.mp h with h' | ⟨t', rfl, h'⟩
    · have := sub_le h2 h'
      have := take_le (x := x) (r := r) (fun y hy => h1 y hy) t.length h'.length_le
      omega
    · have := sub_le h2 h'
      rw [List.sum_cons, List.length_cons, List.take_succ_cons, List.sum_cons]
      omega
theorem perm_sum {a b : List Int} (h : a.Perm b) : a.sum = b.sum := by
  induction h with
  | nil => rfl
  | cons x h ih => simp [ih]
  | swap x y l => simp; omega
  | trans h1 h2 ih1 ih2 => rw [ih1, ih2]
/-- the sums of the greatest ones, less what the cards ahead can pay -/
def dueR (ah : List (Int × Int)) (fs : List Int) : List Int := (List.range (fs.length + 1)).map fun k => (fs.take k).sum - FF ah k
theorem nB_mix (ah : List (Int × Int)) (bs : List Int) (be : List (Int × Int)) : nB (ah.map Sum.inr ++ (bs.map Sum.inl ++ be.map Sum.inr)) = bs.length := by
  have h1 : ∀ cs : List (Int × Int), nB (cs.map (Sum.inr : Int × Int → Ev)) = 0 := fun cs => by
    induction cs with
    | nil => rfl
    | cons c cs ih => exact ih
  have h2 : nB (bs.map (Sum.inl : Int → Ev)) = bs.length := by
    induction bs with
    | nil => rfl
    | cons b bs ih => rw [List.map_cons, nB_inl, ih]; rfl
  have h3 : ∀ a b : List Ev, nB (a ++ b) = nB a + nB b := fun a b => by simp [nB]
  rw [h3, h3, h1, h1, h2]
  omega
theorem asked_mix {ah : List (Int × Int)} {bs : List Int} {be : List (Int × Int)} (hbe : Am be) {fs : List Int} (hp : fs.Perm bs) (ho : fs.Pairwise (· ≥ ·)) : (asked 0 (ah.map Sum.inr ++ (bs.map Sum.inl ++ be.map Sum.inr))).map Prod.fst = dueR ah fs := by
  refine asked_is (by rw [nB_mix]; simp [dueR, hp.length_eq]) fun k x e => ?_
  have hk : k < fs.length + 1 := by
    have := (List.getElem?_eq_some_iff.mp e).1
    simpa [dueR] using this
  unfold dueR at e
  rw [List.getElem?_map, List.getElem?_range hk] at e
  cases e
  constructor
  · obtain ⟨t, ht1, ht2⟩ := List.exists_perm_sublist (List.take_sublist k fs) hp
    obtain ⟨s, s1, s2⟩ := bills_sel (cs := be) (i := 0 + ah.length) hbe ht2
    have hl : t.length = k := by rw [ht1.length_eq, List.length_take]; omega
    refine ⟨s, sel_ahead.mpr ?_, by omega⟩
    have : (fs.take k).sum - FF ah k + FF ah s.length = t.sum := by rw [s2, hl, perm_sum ht1]; omega
    rw [this]
    exact s1
  · intro s v h hs
    obtain ⟨t, t1, t2, t3⟩ := sel_bills hbe (sel_ahead.mp h)
    obtain ⟨t', q1, q2⟩ := List.exists_perm_sublist t1 hp.symm
    have := sub_le ho q2
    have hl : t'.length = k := by rw [q1.length_eq, t2, hs]
    rw [hl, perm_sum q1, t3, hs] at this
    show v ≤ (fs.take k).sum - FF ah k
    omega
end P20

set_option Elab.async false
set_option linter.all false
set_option maxRecDepth 100000
set_option maxHeartbeats 4000000
/-! K4m: the least row among falling rows, plain. -/
namespace P20
open Mi L2
theorem sumN_one {row : List Int} {x : Int} (h : Falls (x :: row)) : sumN row 1 ≤ x := by
  cases row with
  | nil => rw [sumN_nil]; have := h.1 x List.mem_cons_self; omega
  | cons y r =>
    have := h.2 0 x y rfl rfl
    show y + sumN r 0 ≤ x
    have : sumN r 0 = 0 := by cases r <;> rfl
    omega
theorem sumN_ccv : ∀ {row : List Int}, Falls row → ∀ n, sumN row (n + 2) - sumN row (n + 1) ≤ sumN row (n + 1) - sumN row n
  | [], _, n => by simp [sumN_nil]
  | x :: row, h, 0 => by
    have h1 := sumN_one h
    have h2 : sumN (x :: row) 2 = x + sumN row 1 := rfl
    have h3 : sumN (x :: row) 1 = x + sumN row 0 := rfl
    have h4 : sumN row 0 = 0 := by cases row <;> rfl
    have h5 : sumN (x :: row) 0 = 0 := rfl
    show sumN (x :: row) 2 - sumN (x :: row) 1 ≤ sumN (x :: row) 1 - sumN (x :: row) 0
    omega
  | x :: row, h, n + 1 => by
    have ih := sumN_ccv h.tail n
    have h1 : sumN (x :: row) (n + 1 + 2) = x + sumN row (n + 2) := rfl
    have h2 : sumN (x :: row) (n + 1 + 1) = x + sumN row (n + 1) := rfl
    have h3 : sumN (x :: row) (n + 1) = x + sumN row n := rfl
    omega
theorem ccv_many {row : List Int} (h : Falls row) (k : Nat) : ∀ i : Nat, sumN row (k + 1 + i) ≤ sumN row (k + 1) + (i : Int) * (sumN row (k + 1) - sumN row k) ∧ sumN row (k + 1 + i + 1) - sumN row (k + 1 + i) ≤ sumN row (k + 1) - sumN row k
  | 0 => ⟨by simp, sumN_ccv h k⟩
  | i + 1 => by
    obtain ⟨h1, h2⟩ := ccv_many h k i
    have h3 := sumN_ccv h (k + 1 + i)
    refine ⟨?_, by
      show sumN row (k + 1 + i + 2) - sumN row (k + 1 + i + 1) ≤ _
      omega⟩
    rw [show ((i + 1 : Nat) : Int) = (i : Int) + 1 by omega, Int.add_mul, Int.one_mul]
    show sumN row (k + 1 + i + 1) ≤ _
    omega
/-- the least row has the least sums -/
theorem Least.least {t : Int} {ss row other : List Int} (h : Least t ss row) (ho : Falls other) (hc : ∀ (n : Nat) (s : Int), ss[n]? = some s → s ≤ t + sumN other (n + 1)) : ∀ n, sumN row n ≤ sumN other n
  | 0 => by
    have h1 : sumN row 0 = 0 := by cases row <;> rfl
    have h2 : sumN other 0 = 0 := by cases other <;> rfl
    omega
  | k + 1 => by
    have ih := h.least ho hc k
    have hm := sumN_mono (row := other) (fun x hx => by have := ho.1 x hx; omega) k
    by_cases hk : k < row.length
    · have ek : row[k]? = some row[k] := List.getElem?_eq_getElem hk
      obtain ⟨i, s, e1, h1⟩ := h.tight k _ ek
      have h2 := hc _ _ e1
      have h3 := (ccv_many ho k i).1
      have es : sumN row (k + 1) = sumN row k + row[k] := by rw [sumN_app, List.getD_eq_getElem?_getD, ek]; rfl
      rcases Int.lt_or_le (sumN other (k + 1)) (sumN row (k + 1)) with z | z
      · have hd : sumN other (k + 1) - sumN other k ≤ row[k] - 1 := by omega
        have h4 : (i : Int) * (sumN other (k + 1) - sumN other k) ≤ (i : Int) * (row[k] - 1) := Int.mul_le_mul_of_nonneg_left hd (by omega)
        rw [Int.add_mul, Int.one_mul] at h1
        rw [show k + i + 1 = k + 1 + i by omega] at h2
        omega
      · exact z
    · have h1 := sumN_flat row (k + 1) (by omega)
      have h2 := sumN_flat row k (by omega)
      omega
/-! the rows still to be gone through -/
end P20

set_option Elab.async false
set_option linter.all false
set_option maxRecDepth 100000
set_option maxHeartbeats 4000000
/-! W3m: sparing payments, plain. -/
namespace P20
open Mi L2
/-- the parts of the cards at a level -/
def pts (am : List (Int × Int)) (k : Nat) : List Int := am.map fun q => wor q.1 q.2 (k + 1) - wor q.1 q.2 k
theorem pts_sum (am : List (Int × Int)) (k : Nat) : (pts am k).sum = FF am (k + 1) - FF am k := by
  induction am with
  | nil => rfl
  | cons q am ih =>
    rw [FF_cons, FF_cons]
    show (wor q.1 q.2 (k + 1) - wor q.1 q.2 k) + (pts am k).sum = _
    omega
/-- the greatest level with parts for this bill -/
def IsLev (am : List (Int × Int)) (x : Int) (L : Nat) : Prop := (pts am (L + 1)).sum < x ∧ ∀ j, j < L → x ≤ (pts am (j + 1)).sum
theorem IsLev.uniq {am : List (Int × Int)} {x : Int} {L L' : Nat} (h : IsLev am x L) (h' : IsLev am x L') : L = L' := by
  rcases Nat.lt_trichotomy L L' with z | z | z
  · have := h'.2 L z; have := h.1; omega
  · exact z
  · have := h.2 L' z; have := h'.1; omega
/-- the level -/
noncomputable def lev (am : List (Int × Int)) (x : Int) : Nat := by classical exact if h : ∃ L, IsLev am x L then Classical.choose h else 0
theorem IsLev.top {am : List (Int × Int)} {x : Int} {L : Nat} (h : IsLev am x L) (hx : x ≤ FF am 1) (ha : Am am) : x ≤ (pts am L).sum := by
  cases L with
  | zero => rw [pts_sum, FF_zero ha]; show x ≤ FF am (0 + 1) - 0; simpa using hx
  | succ L => exact h.2 L (Nat.lt_succ_self _)
noncomputable def lows (am : List (Int × Int)) (x : Int) : List Int := if x = 0 then am.map (fun _ => 0) else pts am (lev am x + 1)
noncomputable def highs (am : List (Int × Int)) (x : Int) : List Int := if x = 0 then am.map (fun _ => 0) else pts am (lev am x)
/-- a sum is spread between bounds -/
def sprd : Int → List (Int × Int) → List Int
  | _, [] => []
  | r, q :: l => (q.1 + min r (q.2 - q.1)) :: sprd (r - min r (q.2 - q.1)) l
noncomputable def pay (am : List (Int × Int)) (x : Int) : List Int := sprd (x - (lows am x).sum) ((lows am x).zip (highs am x))
def lbh (am : List (Int × Int)) (ys : List Int) : List (Int × Int) := (am.zip ys).map fun q => (q.1.1 - q.2, q.1.2)
/-- a row between bounds -/
def Betw : List Int → List Int → List Int → Prop
  | [], [], [] => True
  | a :: as, y :: ys, b :: bs => a ≤ y ∧ y ≤ b ∧ Betw as ys bs
  | _, _, _ => False
theorem Betw.len : ∀ {as ys bs : List Int}, Betw as ys bs → ys.length = as.length ∧ bs.length = as.length
  | [], [], [], _ => ⟨rfl, rfl⟩
  | _ :: _, _ :: _, _ :: _, h => by
    have := Betw.len h.2.2
    simp [this]
  | [], _ :: _, _, h => by simp [Betw] at h
  | [], [], _ :: _, h => by simp [Betw] at h
  | _ :: _, [], _, h => by simp [Betw] at h
  | _ :: _, _ :: _, [], h => by simp [Betw] at h
def Evs0 (evs : List Ev) : Prop := (∀ q, Sum.inr q ∈ evs → 1 ≤ q.2 ∧ 0 ≤ q.1 ∧ q.1 ≤ 24 * q.2) ∧ ∀ x, Sum.inl x ∈ evs → (0 : Int) ≤ x
theorem Evs0.tail {e : Ev} {evs : List Ev} (h : Evs0 (e :: evs)) : Evs0 evs := ⟨fun q hq => h.1 q (List.mem_cons_of_mem _ hq), fun x hx => h.2 x (List.mem_cons_of_mem _ hx)⟩
end P20


set_option Elab.async false
set_option linter.all false
set_option maxRecDepth 100000
set_option maxHeartbeats 4000000
namespace S2
open PySem PySem.Spec PyProof.Rows L2 Mi He Sh
@[reducible] def mb__law_draw : MS := mSeq (mIfS (mB (mBin gtD (mIxP 0 (mC (.int 1))) (mC (.int 0)))) (mSeq (mDmP 0 (mC (.int 1)) 2 (mCB dmD (mCons (mIxP 0 (mC (.int 1))) (mCons (mVar 1) (mNil))))) (mRet (mVar 2))) (mNext)) (mSeq (mSet 3 (mCB int1D (mCons (mIxP 0 (mC (.int 0))) (mNil)))) (mSeq (mPutP 0 (mBin modD (mCB int1D (mCons (mBin addD (mBin mulD (mVar 3) (mBin addD (mBin modD (mCB int1D (mCons (mVar 3) (mNil))) (mC (.int 997))) (mC (.int 69621)))) (mC (.int 7919))) (mNil))) (mC (.int 2147483629))) (mC (.int 0))) (mRet (mBin modD (mCB int1D (mCons (mBin fdivD (mIxP 0 (mC (.int 0))) (mC (.int 512))) (mNil))) (mVar 1)))))
def mf__law_draw : List D → M D := mFn 4 mb__law_draw
@[reducible] def lb__law_wide_1 : MS := mSet 2 (mBin addD (mBin mulD (mVar 2) (mC (.int 1000003))) (mCall 2 mf__law_draw (mCons (mVar 0) (mCons (mC (.int 1000003)) (mNil)))))
@[reducible] def mb__law_wide : MS := mSeq (mIfS (mOr (mB (mBin ltD (mVar 1) (mC (.int 1000000)))) (mB (mBin gtD (mIxP 0 (mC (.int 1))) (mC (.int 0))))) (mRet (mCall 2 mf__law_draw (mCons (mVar 0) (mCons (mVar 1) (mNil))))) (mNext)) (mSeq (mSet 2 (mC (.int 0))) (mSeq (mFor (mIof rng1 (mCons (mC (.int 6)) (mNil))) (mGn 3) (lb__law_wide_1)) (mRet (mBin modD (mCB int1D (mCons (mVar 2) (mNil))) (mVar 1)))))
def mf__law_wide : List D → M D := mFn 4 mb__law_wide
@[reducible] def mb__law_amount : MS := mRet (mCall 2 mf__law_wide (mCons (mVar 0) (mCons (mBin ixD (mFz (mLstO (mCons (mC (.int 4)) (mCons (mC (.int 10)) (mCons (mC (.int 100)) (mCons (mBin powD (mC (.int 10)) (mC (.int 6))) (mCons (mBin powD (mC (.int 10)) (mC (.int 12))) (mCons (mBin powD (mC (.int 10)) (mC (.int 30))) (mNil))))))))) (mCall 2 mf__law_draw (mCons (mVar 0) (mCons (mC (.int 6)) (mNil))))) (mNil))))
def mf__law_amount : List D → M D := mFn 1 mb__law_amount
end S2

set_option Elab.async false
set_option linter.all false
set_option maxRecDepth 100000
set_option maxHeartbeats 4000000
namespace S2
open PySem PySem.Spec PyProof.Rows L2 Mi He Sh
@[reducible] def ce__law_course_1 : ME := mIf (mB (mCB isiD (mCons (mVar 1) (mCons (mC (.ty "tuple")) (mNil))))) (mMake "Card" 2 mf_Card___init__ (mCons (mBin ixD (mVar 1) (mC (.int 0))) (mCons (mBin ixD (mVar 1) (mC (.int 1))) (mNil)))) (mVar 1)
@[reducible] def mb__law_course : MS := mRet (mMake "Course" 1 mf_Course___init__ (mCons (mCB tupD (mCons (mFz (mLcO [1] (mIany (mVar 0)) (mGn 1) (mYes) (ce__law_course_1))) (mNil))) (mNil)))
def mf__law_course : List D → M D := mFn 2 mb__law_course
@[reducible] def ct__law_asks_1 : MT := mNot (mB (mCB isiD (mCons (mBin ixD (mVar 0) (mVar 7)) (mCons (mC (.ty "tuple")) (mNil)))))
@[reducible] def ce__law_asks_2 : ME := mBin addD (mVar 5) (mFz (mLstO (mCons (mVar 4) (mNil))))
@[reducible] def lb__law_asks_3 : MS := mSet 3 (mBin addD (mVar 3) (mFz (mLcO [5] (mIany (mVar 3)) (mGn 5) (mYes) (ce__law_asks_2))))
@[reducible] def lb__law_asks_4 : MS := mIfS (mB (mCB isiD (mCons (mBin ixD (mVar 0) (mVar 7)) (mCons (mC (.ty "tuple")) (mNil))))) (mSet 6 (mBin subD (mVar 6) (mCB minD (mCons (mBin ixD (mBin ixD (mVar 0) (mVar 7)) (mC (.int 0))) (mCons (mBin mulD (mBin ixD (mBin ixD (mVar 0) (mVar 7)) (mC (.int 1))) (mCB lenD (mCons (mFz (mLcO [4] (mIany (mVar 5)) (mGn 4) (mB (mBin gtD (mVar 4) (mVar 7))) (mVar 4))) (mNil)))) (mNil)))))) (mNext)
@[reducible] def lb__law_asks_5 : MS := mSeq (mSet 6 (mCB sumD (mCons (mFz (mLcO [4] (mIany (mVar 5)) (mGn 4) (mYes) (mBin ixD (mVar 0) (mVar 4)))) (mNil)))) (mSeq (mFor (mIof rng1 (mCons (mCB lenD (mCons (mVar 0) (mNil))) (mNil))) (mGn 7) (lb__law_asks_4)) (mIfS (mOr (mB (mBin isD (mIxO 2 (mCB lenD (mCons (mVar 5) (mNil)))) (mC .non))) (mB (mBin gtD (mVar 6) (mIxO 2 (mCB lenD (mCons (mVar 5) (mNil))))))) (mPut 2 (mVar 6) (mCB lenD (mCons (mVar 5) (mNil)))) (mNext)))
@[reducible] def mb__law_asks : MS := mSeq (mSet 1 (mFz (mBorLs [] (mLcO [7] (mIof rng1 (mCons (mCB lenD (mCons (mVar 0) (mNil))) (mNil))) (mGn 7) (ct__law_asks_1) (mVar 7))))) (mSeq (mPar [2, 3] (mMow (mBinO catO (mFz (mLstO (mCons (mC (.int 0)) (mNil)))) (mBin mulD (mFz (mLstO (mCons (mC .non) (mNil)))) (mCB lenD (mCons (mVar 1) (mNil))))) (mMsh (mFz (mLstO (mCons (mFz (mLstO (mNil))) (mNil)))) (mMnil)))) (mSeq (mFor (mIany (mVar 1)) (mGn 4) (lb__law_asks_3)) (mSeq (mFor (mIany (mVar 3)) (mGn 5) (lb__law_asks_5)) (mFrz 2 (mRet (mVar 2))))))
def mf__law_asks : List D → M D := mFn 8 mb__law_asks
end S2

set_option Elab.async false
set_option linter.all false
set_option maxRecDepth 100000
set_option maxHeartbeats 4000000
namespace S2
open PySem PySem.Spec PyProof.Rows L2 Mi He Sh
@[reducible] def ce__law_falling_1 : ME := mTup (mCons (mBin addD (mVar 4) (mTup (mCons (mVar 7) (mNil)))) (mCons (mBin subD (mVar 5) (mVar 7)) (mCons (mVar 7) (mNil))))
@[reducible] def lb__law_falling_2 : MS := mSeq (mAsg (mBin ixD (mVar 3) (mUn negD (mC (.int 1)))) (mGt 3 (mGcons (mGn 4) (mGcons (mGn 5) (mGcons (mGn 6) (mGnil)))))) (mSeq (mSet 3 (mSl (mVar 3) (mOn) (mOs (mUn negD (mC (.int 1)))))) (mSeq (mApp 2 (mVar 4)) (mSet 3 (mBin addD (mVar 3) (mFz (mLcO [7] (mIof rng2 (mCons (mC (.int 1)) (mCons (mBin addD (mCB minD (mCons (mVar 5) (mCons (mVar 6) (mNil)))) (mC (.int 1))) (mNil)))) (mGn 7) (mYes) (ce__law_falling_1)))))))
@[reducible] def mb__law_falling : MS := mSeq (mPar [2, 3] (mMow (mLstO (mNil)) (mMsh (mFz (mLstO (mCons (mTup (mCons (mTup (mNil)) (mCons (mVar 0) (mCons (mVar 1) (mNil))))) (mNil)))) (mMnil)))) (mSeq (mWhile 100000 (mB (mBin neMD (mVar 3) (mFz (mLstO (mNil))))) (lb__law_falling_2)) (mFrz 2 (mRet (mVar 2))))
def mf__law_falling : List D → M D := mFn 8 mb__law_falling
end S2


set_option Elab.async false
set_option linter.all false
set_option maxRecDepth 100000
set_option maxHeartbeats 4000000
namespace S2
open PySem L2 Mi P20 Sh
def Pu (u : PuS) : Prop := ∃ s x : Int, u = .real [s, x] ∧ 0 ≤ s ∧ s < 2147483648
theorem log_big {n : Int} (h : 0 < n ∧ n < 1000000000000000000000000000000000000000000000000000000000000) : n.natAbs.log2 < 200 := by
  refine (Nat.log2_lt (by omega)).mpr ?_
  have : (2 : Nat) ^ 200 = 1606938044258990275541962092341162602522202993782792835301376 := by decide +kernel
  rw [this]
  omega
theorem draw_ok {n : Int} (hn : 0 < n ∧ n < 1000000000000000000000000000000000000000000000000000000000000) {u : PuS} (hu : Pu u) {P : D → PuS → Prop} (h : ∀ r u', 0 ≤ r → r < n → Pu u' → P (.int r) u') : Ok (mf__law_draw [.pur, .int n]) u P := by
  obtain ⟨s, x, rfl, h1, h2⟩ := hu
  unfold mf__law_draw mb__law_draw
  have hd : dmC x n = true := dmC_log hn.1 (by have := log_big hn; omega)
  simp [atI, ixN, hn.1, hd]
  have hh : ∀ k : Int, 0 ≤ k % n ∧ k % n < n := fun k => ⟨Int.emod_nonneg _ (by omega), Int.emod_lt_of_pos _ hn.1⟩
  refine brd (fun hx => ?_) (fun hx => ?_)
  · exact h _ _ (hh _).1 (hh _).2 ⟨_, _, rfl, h1, h2⟩
  · refine ⟨.inl (.inl (by omega)), h _ _ (hh _).1 (hh _).2 ⟨_, _, rfl, ?_, ?_⟩⟩
    all_goals omega
theorem wide_ok {n : Int} (hn : 0 < n ∧ n < 1000000000000000000000000000000000000000000000000000000000000) {u : PuS} (hu : Pu u) {P : D → PuS → Prop} (h : ∀ r u', 0 ≤ r → r < n → Pu u' → P (.int r) u') : Ok (mf__law_wide [.pur, .int n]) u P := by
  unfold mf__law_wide mb__law_wide
  have slow : Ok (loopD (mGn 3) lb__law_wide_1 (rngD 0 6) [.sh .pur, .sh (.int n), .sh (.int 0), .un]) u fun f u1 => match f with
      | .nx ρ1 => ∃ d, vSh ρ1 2 = some d ∧ ∃ z, int1D [d] = some z ∧ ∃ d', vSh ρ1 1 = some d' ∧ ∃ w, modD z d' = some w ∧ P w u1
      | _ => False := by
    refine ok_range 0 6 (fun k ρ u => Pu u ∧ ∃ m t, ρ = [.sh .pur, .sh (.int n), .sh (.int m), t]) ?_ ?_ _ _ ⟨hu, 0, _, rfl⟩
    · rintro k ρ u hk ⟨hu, m, t, rfl⟩
      unfold lb__law_wide_1
      simp
      refine draw_ok (by decide) hu fun r u1 h0 h6 hu1 => ?_
      simp
      exact hu1
    · rintro ρ u ⟨hu, m, t, rfl⟩
      simp [hn.1]
      exact h _ _ (Int.emod_nonneg _ (by omega)) (Int.emod_lt_of_pos _ hn.1) hu
  simp
  refine brd (fun h1 => ?_) (fun h1 => ?_)
  · exact draw_ok hn hu h
  · obtain ⟨s, x, rfl, h3, h4⟩ := id hu
    simp [atI, ixN]
    refine brd (fun h2 => ?_) (fun h2 => ?_)
    · exact draw_ok hn hu h
    · refine slow.mono fun f u1 z => ?_
      cases f with
      | nx ρ1 => simpa using z
      | _ => exact False.elim z
theorem amount_ok {u : PuS} (hu : Pu u) {P : D → PuS → Prop} (h : ∀ r u', 0 ≤ r → r < 1000000000000000000000000000000 → Pu u' → P (.int r) u') : Ok (mf__law_amount [.pur]) u P := by
  unfold mf__law_amount mb__law_amount
  simp
  refine draw_ok (by decide) hu fun r u1 h0 h6 hu1 => ?_
  obtain ⟨n, e, hn⟩ : ∃ n : Int, atI [D.int 4, D.int 10, D.int 100, D.int 1000000, D.int 1000000000000, D.int 1000000000000000000000000000000] r = some (.int n) ∧ 0 < n ∧ n ≤ 1000000000000000000000000000000 := by
    obtain ⟨k, rfl⟩ : ∃ k : Nat, r = (k : Int) := ⟨r.toNat, by omega⟩
    have hk : k < 6 := by omega
    match k, hk with
    | 0, _ => exact ⟨4, rfl, by decide⟩
    | 1, _ => exact ⟨10, rfl, by decide⟩
    | 2, _ => exact ⟨100, rfl, by decide⟩
    | 3, _ => exact ⟨1000000, rfl, by decide⟩
    | 4, _ => exact ⟨1000000000000, rfl, by decide⟩
    | 5, _ => exact ⟨1000000000000000000000000000000, rfl, by decide⟩
  simp [e]
  exact wide_ok (by omega) hu1 fun r u' h1 h2 hu' => h r u' h1 (by omega) hu'
end S2

set_option Elab.async false
set_option linter.all false
set_option maxRecDepth 100000
set_option maxHeartbeats 4000000
namespace S2
open PySem L2 Mi P20 Sh
/-- an event in a law's own row -/
def evR : Ev → D
  | .inl x => .int x
  | .inr q => prD q
theorem course_ok {evs : List Ev} (h : EvsOk evs) {u : PuS} {P : D → PuS → Prop} (hp : P (courD evs) u) : Ok (mf__law_course [.lst (evs.map evR)]) u P := by
  unfold mf__law_course mb__law_course
  have hl := h.len
  simp
  refine ⟨by omega, ?_⟩
  refine ok_lca (fun e => [.sh (.lst (evs.map evR)), .sh (evR e)]) evD ?_ ?_ ?_
  · intro e he; rfl
  · intro e he
    unfold ce__law_course_1
    cases e with
    | inl x =>
      have e1 : isiD [evR (.inl x), .ty "tuple"] = some (.bl false) := rfl
      simp [e1]
      rfl
    | inr q =>
      have e1 : isiD [evR (.inr q), .ty "tuple"] = some (.bl true) := rfl
      have e2 : ixD (evR (.inr q)) (.int 0) = some (.int q.1) := rfl
      have e3 : ixD (evR (.inr q)) (.int 1) = some (.int q.2) := rfl
      obtain ⟨h1, h2, h3⟩ := h.each _ he
      simp [e1, e2, e3]
      exact card_init h1 h2 h3 ⟨rfl, rfl⟩
  exact cour_init h hp
/-- found so far: a number or None -/
def opI : Option Int → D := opD D.int
theorem spots_are : ∀ (evs : List Ev) (i : Int), spotsI i evs = ((List.range evs.length).filter fun k => match evs[k]? with | some e => isB e | none => false).map fun k : Nat => i + (k : Int)
  | [], i => rfl
  | e :: r, i => by
    rw [List.length_cons, List.range_succ_eq_map]
    have ih := spots_are r (i + 1)
    have e2 : ((List.range r.length).map Nat.succ).filter (fun k => match (e :: r)[k]? with | some e => isB e | none => false) = ((List.range r.length).filter fun k => match r[k]? with | some e => isB e | none => false).map Nat.succ := by
      rw [List.filter_map]; rfl
    cases e with
    | inl x =>
      rw [List.filter_cons_of_pos (by rfl), e2, List.map_cons, List.map_map]
      show i :: spotsI (i + 1) r = _
      rw [ih]
      congr 1
      · simp
      · apply List.map_congr_left
        intro k _
        show i + 1 + (k : Int) = i + ((k + 1 : Nat) : Int)
        omega
    | inr q =>
      rw [List.filter_cons_of_neg (by intro z; cases z), e2, List.map_map]
      show spotsI (i + 1) r = _
      rw [ih]
      apply List.map_congr_left
      intro k _
      show i + 1 + (k : Int) = i + ((k + 1 : Nat) : Int)
      omega
end S2

set_option Elab.async false
set_option linter.all false
set_option maxRecDepth 100000
set_option maxHeartbeats 4000000
namespace S2
open PySem L2 Mi P20 Sh
def setD (s : List Int) : D := .lst (s.map D.int)
theorem cutSum_append : ∀ (a b : List Ev) (i : Int) (s : List Int), cutSum i (a ++ b) s = cutSum i a s + cutSum (i + a.length) b s
  | [], b, i, s => by simp [cutSum]
  | .inr q :: a, b, i, s => by
    show wor q.1 q.2 _ + cutSum (i + 1) (a ++ b) s = (wor q.1 q.2 _ + cutSum (i + 1) a s) + cutSum (i + ((Sum.inr q :: a : List Ev).length : Nat)) b s
    rw [cutSum_append a b (i + 1) s, List.length_cons, show i + ((a.length + 1 : Nat) : Int) = i + 1 + (a.length : Int) by omega]
    omega
  | .inl x :: a, b, i, s => by
    show cutSum (i + 1) (a ++ b) s = cutSum (i + 1) a s + cutSum (i + ((Sum.inl x :: a : List Ev).length : Nat)) b s
    rw [cutSum_append a b (i + 1) s, List.length_cons, show i + ((a.length + 1 : Nat) : Int) = i + 1 + (a.length : Int) by omega]
theorem cutSum_take {evs : List Ev} {k : Nat} {e : Ev} (h : evs[k]? = some e) (s : List Int) : cutSum 0 (evs.take (k + 1)) s = cutSum 0 (evs.take k) s + cutSum (k : Int) [e] s := by
  have hk : k < evs.length := (List.getElem?_eq_some_iff.mp h).1
  rw [List.take_succ, h]
  show cutSum 0 (evs.take k ++ [e]) s = _
  rw [cutSum_append, List.length_take, Nat.min_eq_left (by omega), Int.zero_add]
/-- the best so far -/
def bup (cur : Option Int) (v : Int) : Option Int := match cur with
  | none => some v
  | some m => if m < v then some v else some m
def bst (evs : List Ev) (ss : List (List Int)) (k : Nat) : Option Int := ss.foldl (fun cur s => if s.length = k then bup cur (lv 0 evs s) else cur) (if k = 0 then some 0 else none)
theorem bst_snoc (evs : List Ev) (ss : List (List Int)) (s : List Int) (k : Nat) : bst evs (ss ++ [s]) k = if s.length = k then bup (bst evs ss k) (lv 0 evs s) else bst evs ss k := by
  unfold bst
  rw [List.foldl_append]
  rfl
theorem bst_spec (evs : List Ev) (k : Nat) (ss : List (List Int)) : (∀ s ∈ ss, s.length = k → ∃ m, bst evs ss k = some m ∧ lv 0 evs s ≤ m) ∧ ∀ m, bst evs ss k = some m → (k = 0 ∧ m = 0) ∨ ∃ s ∈ ss, s.length = k ∧ m = lv 0 evs s := by
  induction hn : ss.length generalizing ss with
  | zero =>
    have : ss = [] := List.length_eq_zero_iff.mp hn
    subst this
    refine ⟨(fun s hs => by cases hs), fun m hm => ?_⟩
    have hm' : (if k = 0 then some (0 : Int) else none) = some m := hm
    split at hm'
    · cases hm'; exact .inl ⟨by assumption, rfl⟩
    · cases hm'
  | succ n ih =>
    obtain ⟨ys, y, rfl⟩ : ∃ ys y, ss = ys ++ [y] := by
      rcases List.eq_nil_or_concat ss with h | ⟨p, l, h⟩
      · rw [h] at hn; simp at hn
      · exact ⟨p, l, by simpa using h⟩
    obtain ⟨i1, i2⟩ := ih ys (by simp at hn; exact hn)
    rw [bst_snoc]
    by_cases hy : y.length = k
    · rw [if_pos hy]
      cases hb : bst evs ys k with
      | none =>
        refine ⟨fun s hs hk => ?_, fun m hm => ?_⟩
        · rcases List.mem_append.mp hs with hs | hs
          · obtain ⟨m, hm, _⟩ := i1 s hs hk
            rw [hb] at hm; cases hm
          · rw [List.mem_singleton.mp hs]; exact ⟨_, rfl, Int.le_refl _⟩
        · have : m = lv 0 evs y := (Option.some.inj hm).symm
          exact .inr ⟨y, by simp, hy, this⟩
      | some m0 =>
        show _ ∧ ∀ m, (if m0 < lv 0 evs y then some (lv 0 evs y) else some m0) = some m → _
        have hmax : ∃ M, (if m0 < lv 0 evs y then some (lv 0 evs y) else some m0) = some M ∧ m0 ≤ M ∧ lv 0 evs y ≤ M ∧ (M = m0 ∨ M = lv 0 evs y) := by
          by_cases z : m0 < lv 0 evs y
          · exact ⟨_, if_pos z, by omega, by omega, .inr rfl⟩
          · exact ⟨_, if_neg z, by omega, by omega, .inl rfl⟩
        obtain ⟨M, e1, e2, e3, e4⟩ := hmax
        refine ⟨fun s hs hk => ⟨M, e1, ?_⟩, fun m hm => ?_⟩
        · rcases List.mem_append.mp hs with hs | hs
          · obtain ⟨m, hm, hle⟩ := i1 s hs hk
            rw [hb] at hm; cases hm; omega
          · rw [List.mem_singleton.mp hs]; exact e3
        · rw [e1] at hm
          cases hm
          rcases e4 with rfl | rfl
          · rcases i2 _ hb with h | ⟨s, hs, h⟩
            · exact .inl h
            · exact .inr ⟨s, List.mem_append_left _ hs, h⟩
          · exact .inr ⟨y, by simp, hy, rfl⟩
    · rw [if_neg hy]
      refine ⟨fun s hs hk => ?_, fun m hm => ?_⟩
      · rcases List.mem_append.mp hs with hs | hs
        · exact i1 s hs hk
        · rw [List.mem_singleton.mp hs] at hk; exact absurd hk hy
      · rcases i2 m hm with h | ⟨s, hs, h⟩
        · exact .inl h
        · exact .inr ⟨s, List.mem_append_left _ hs, h⟩
theorem bst_all {evs : List Ev} (hz : (asked 0 evs)[0]? = some (0, [])) {k : Nat} (hk : k ≤ nB evs) : bst evs (subsets (spotsI 0 evs)) k = some ((asked 0 evs).getD k (0, [])).1 := by
  have T := asked_tab evs 0
  have hkl : k < (asked 0 evs).length := by rw [T.len]; omega
  have eg : (asked 0 evs)[k]? = some ((asked 0 evs).getD k (0, [])) := by rw [List.getD_eq_getElem?_getD, List.getElem?_eq_getElem hkl]; rfl
  generalize hq : (asked 0 evs).getD k (0, []) = q at eg
  obtain ⟨a, ds⟩ := q
  obtain ⟨t1, t2, t3⟩ := T.at_ k a ds eg
  obtain ⟨b1, b2⟩ := bst_spec evs k (subsets (spotsI 0 evs))
  obtain ⟨m, hm, hle⟩ := b1 ds ((mem_subsets _ _).mpr t2.sub) t1
  rw [← t2.val] at hle
  rw [hm]
  congr 1
  show m = a
  rcases b2 m hm with ⟨rfl, rfl⟩ | ⟨s, hs, hsl, rfl⟩
  · rw [hz] at eg
    cases eg
    rfl
  · have := t3 s _ (sel_of_sub evs 0 s ((mem_subsets _ _).mp hs)) hsl
    omega
theorem asks_ok {evs : List Ev} (hev : ∀ e ∈ evs, evOk e) (hl : evs.length ≤ 100) (hb : nB evs ≤ 12) {u : PuS} {P : D → PuS → Prop} (hp : P (.lst (((asked 0 evs).map Prod.fst).map D.int)) u) : Ok (mf__law_asks [.lst (evs.map evR)]) u P := by
  have hz : (asked 0 evs)[0]? = some (0, []) := asked_zero evs 0 fun q hq => by
    obtain ⟨e, he, h2⟩ := List.mem_filterMap.mp hq
    cases e with
    | inl x => cases h2
    | inr q' => cases h2; exact hev _ he
  have hix : ∀ (k : Nat) e, evs[k]? = some e → atI (evs.map evR) (k : Int) = some (evR e) := fun k e h => at_nat (by rw [List.getElem?_map, h]; rfl)
  have hity : ∀ e, isiD [evR e, .ty "tuple"] = some (.bl (!isB e)) := fun e => by cases e <;> rfl
  unfold mf__law_asks mb__law_asks
  rw [ok_fn]
  refine seq_go fun K R hK hR => ?_
  simp [mBorLs]
  refine ⟨by omega, by rw [rngD_len]; omega, ?_⟩
  refine ok_lcr (fun i => [.sh (.lst (evs.map evR)), .un, .un, .un, .un, .un, .un, .sh (.int (0 + (i : Nat)))]) (fun k => match evs[k]? with | some e => isB e | none => false) (fun i => .int (0 + (i : Nat))) ?_ ?_ ?_ ?_
  · intro i hi; rfl
  · intro i hi
    unfold ct__law_asks_1
    have ei : evs[i]? = some evs[i] := List.getElem?_eq_getElem hi
    simp [hix i _ ei, hity]
    rw [ei]
  · intro i hi _; simp
  have es : ((List.range evs.length).filter fun k => match evs[k]? with | some e => isB e | none => false).map (fun i : Nat => D.int (0 + (i : Nat))) = (spotsI 0 evs).map D.int := by rw [spots_are, List.map_map]; rfl
  rw [es]
  have hsl := spotsI_len evs 0
  refine hK _ _ ?_
  clear hK hR K R
  refine seq_go fun K R hK hR => ?_
  have em : mulD (.lst [D.non]) (.int (nB evs : Int)) = some (.lst (List.replicate (nB evs) D.non)) := by
    have e1 : ∀ n : Nat, (List.replicate n [D.non]).flatten = List.replicate n D.non := fun n => by
      induction n with
      | zero => rfl
      | succ n ih => rw [List.replicate_succ, List.flatten_cons, ih, List.replicate_succ]; rfl
    have := e1 (nB evs)
    show (if _ then some (D.lst (List.replicate (nB evs : Int).toNat [D.non]).flatten) else none) = _
    rw [Int.toNat_natCast, this]
    exact if_pos (by simp; omega)
  simp [hsl, em]
  refine ⟨by omega, hK _ _ ?_⟩
  clear hK hR K R
  refine seq_cut (fun ρ u' => u' = u ∧ ∃ a b c d, ρ = [.sh (.lst (evs.map evR)), .sh (.lst ((spotsI 0 evs).map D.int)), .ow (.int 0 :: List.replicate (nB evs) D.non), .sh (.lst ((subsets (spotsI 0 evs)).map setD)), a, b, c, d]) ?_ ?_
  · simp
    refine ok_list ((spotsI 0 evs).map D.int) (fun k ρ u' => u' = u ∧ ∃ a b c d, ρ = [.sh (.lst (evs.map evR)), .sh (.lst ((spotsI 0 evs).map D.int)), .ow (.int 0 :: List.replicate (nB evs) D.non), .sh (.lst ((subsets ((spotsI 0 evs).take k)).map setD)), a, b, c, d]) ?_ ?_ _ _ ⟨rfl, .un, .un, .un, .un, rfl⟩
    · rintro k d ρ u' e ⟨rfl, a, b, c, d', rfl⟩
      rw [List.getElem?_map] at e
      cases e2 : (spotsI 0 evs)[k]? with
      | none => rw [e2] at e; cases e
      | some x =>
        rw [e2] at e
        cases e
        have hk : k < (spotsI 0 evs).length := (List.getElem?_eq_some_iff.mp e2).1
        have et : (spotsI 0 evs).take (k + 1) = (spotsI 0 evs).take k ++ [x] := by rw [List.take_succ, e2]; rfl
        have hsz : (subsets ((spotsI 0 evs).take k)).length ≤ 4096 := by
          rw [subsets_len, List.length_take, Nat.min_eq_left (by omega)]
          exact Nat.pow_le_pow_right (n := 2) (by decide) (show k ≤ 12 by omega)
        have hel : ∀ s ∈ subsets ((spotsI 0 evs).take k), s.length ≤ 12 := fun s hs => by
          have := ((mem_subsets _ _).mp hs).length_le
          rw [List.length_take] at this
          omega
        rw [et, subsets_snoc]
        generalize subsets ((spotsI 0 evs).take k) = ss at hsz hel ⊢
        refine ⟨_, rfl, ?_⟩
        unfold lb__law_asks_3
        refine st_go fun R hR => ?_
        simp
        refine ⟨by omega, ?_⟩
        refine ok_lca (fun s => [.sh (.lst (evs.map evR)), .sh (.lst ((spotsI 0 evs).map D.int)), .ow (.int 0 :: List.replicate (nB evs) D.non), .sh (.lst (ss.map setD)), .sh (.int x), .sh (setD s), c, d']) (fun s => setD (s ++ [x])) ?_ ?_ ?_
        · intro s hs; rfl
        · intro s hs
          unfold ce__law_asks_2
          have ea : addD (setD s) (.lst [.int x]) = some (setD (s ++ [x])) := by
            have := hel s hs
            show (if _ then some (D.lst (s.map D.int ++ [D.int x])) else none) = _
            rw [if_pos (by simp; omega)]
            unfold setD
            rw [List.map_append]; rfl
          simp [ea]
        have ea : addD (.lst (ss.map setD)) (.lst (ss.map fun s => setD (s ++ [x]))) = some (.lst ((ss ++ ss.map fun s => s ++ [x]).map setD)) := by
          rw [s_addL (by simp; omega), List.map_append, List.map_map]; rfl
        simp only [ea]
        exact ⟨_, rfl, hR _ _ ⟨rfl, _, _, _, _, rfl⟩⟩
    · rintro ρ u' ⟨rfl, a, b, c, d', rfl⟩
      refine ⟨rfl, a, b, c, d', ?_⟩
      rw [List.take_of_length_le (by simp)]
  rintro ρ u' ⟨rfl, a, b, c, d, rfl⟩
  have hsz : (subsets (spotsI 0 evs)).length ≤ 4096 := by
    rw [subsets_len, hsl]
    exact Nat.pow_le_pow_right (n := 2) (by decide) (show nB evs ≤ 12 by omega)
  have hel : ∀ s ∈ subsets (spotsI 0 evs), s.length ≤ nB evs ∧ ∀ x ∈ s, ∃ (k : Nat) (b : Int), x = (k : Int) ∧ evs[k]? = some (.inl b) ∧ bAt evs x = b := fun s hs => by
    have hsub := (mem_subsets _ _).mp hs
    refine ⟨by rw [← hsl]; exact hsub.length_le, fun x hx => ?_⟩
    have hx' := hsub.subset hx
    rw [spots_are] at hx'
    obtain ⟨k, hk, rfl⟩ := List.mem_map.mp hx'
    obtain ⟨hk1, hk2⟩ := List.mem_filter.mp hk
    have hk1 := List.mem_range.mp hk1
    have ek : evs[k]? = some evs[k] := List.getElem?_eq_getElem hk1
    rw [ek] at hk2
    cases hev : evs[k] with
    | inr q => rw [hev] at hk2; cases hk2
    | inl b =>
      refine ⟨k, b, by omega, by rw [ek, hev], ?_⟩
      unfold bAt
      rw [show ((0 : Int) + (k : Int)).toNat = k by omega, ek, hev]
  have hfin : P (.lst ((List.range (nB evs + 1)).map fun k => opI (bst evs (subsets (spotsI 0 evs)) k))) u' := by
    have : ((List.range (nB evs + 1)).map fun k => opI (bst evs (subsets (spotsI 0 evs)) k)) = ((asked 0 evs).map Prod.fst).map D.int := by
      apply List.ext_getElem?
      intro k
      by_cases hk : k < nB evs + 1
      · rw [List.getElem?_map, List.getElem?_range hk, List.getElem?_map, List.getElem?_map, List.getElem?_eq_getElem (by rw [asked_len]; omega)]
        simp only [Option.map_some]
        rw [bst_all hz (by omega), List.getD_eq_getElem?_getD, List.getElem?_eq_getElem (by rw [asked_len]; omega)]
        rfl
      · rw [List.getElem?_eq_none (by simp; omega), List.getElem?_eq_none (by simp [asked_len]; omega)]
    rw [this]; exact hp
  generalize hgs : subsets (spotsI 0 evs) = ss at hsz hel hfin ⊢
  refine seq_cut (fun ρ u1 => u1 = u' ∧ ∃ a b c d, ρ = [.sh (.lst (evs.map evR)), .sh (.lst ((spotsI 0 evs).map D.int)), .ow ((List.range (nB evs + 1)).map fun k => opI (bst evs ss k)), .sh (.lst (ss.map setD)), a, b, c, d]) ?_ ?_
  · simp
    have e0 : D.int 0 :: List.replicate (nB evs) D.non = (List.range (nB evs + 1)).map fun k => opI (bst evs [] k) := by
      apply List.ext_getElem?
      intro k
      cases k with
      | zero => rw [List.getElem?_map, List.getElem?_range (by omega)]; rfl
      | succ k =>
        rw [List.getElem?_cons_succ, List.getElem?_map, List.getElem?_replicate]
        by_cases hk : k < nB evs
        · rw [if_pos hk, List.getElem?_range (by omega)]; rfl
        · rw [if_neg hk, List.getElem?_eq_none (by simp; omega)]; rfl
    rw [e0]
    refine ok_list (ss.map setD) (fun k ρ u1 => u1 = u' ∧ ∃ a b c d, ρ = [.sh (.lst (evs.map evR)), .sh (.lst ((spotsI 0 evs).map D.int)), .ow ((List.range (nB evs + 1)).map fun j => opI (bst evs (ss.take k) j)), .sh (.lst (ss.map setD)), a, b, c, d]) ?_ ?_ _ _ ⟨rfl, a, b, c, d, rfl⟩
    · rintro k dd ρ u1 e ⟨rfl, a, b, c, d, rfl⟩
      rw [List.getElem?_map] at e
      cases e2 : ss[k]? with
      | none => rw [e2] at e; cases e
      | some s =>
        rw [e2] at e
        cases e
        obtain ⟨hs1, hs2⟩ := hel s (List.mem_of_getElem? e2)
        have et : ss.take (k + 1) = ss.take k ++ [s] := by rw [List.take_succ, e2]; rfl
        rw [et]
        generalize ss.take k = done
        refine ⟨_, rfl, ?_⟩
        refine st_go fun R0 hR0 => ?_
        unfold lb__law_asks_5
        refine seq_go fun K R hK hR => ?_
        simp [setD]
        refine ⟨by omega, ?_⟩
        refine ok_lca (fun x => [.sh (.lst (evs.map evR)), .sh (.lst ((spotsI 0 evs).map D.int)), .ow ((List.range (nB evs + 1)).map fun j => opI (bst evs done j)), .sh (.lst (ss.map setD)), .sh (.int x), .sh (setD s), c, d]) (fun x => .int (bAt evs x)) ?_ ?_ ?_
        · intro x hx; rfl
        · intro x hx
          obtain ⟨n, bb, rfl, h3, h4⟩ := hs2 x hx
          simp [hix n _ h3, h4]
          rfl
        have es1 : (s.map fun x => D.int (bAt evs x)) = (s.map (bAt evs)).map D.int := by rw [List.map_map]; rfl
        rw [es1]
        refine ⟨_, s_sumI, hK _ _ ?_⟩
        clear hK hR K R
        refine seq_cut (fun ρ u2 => u2 = u1 ∧ ∃ d, ρ = [.sh (.lst (evs.map evR)), .sh (.lst ((spotsI 0 evs).map D.int)), .ow ((List.range (nB evs + 1)).map fun j => opI (bst evs done j)), .sh (.lst (ss.map setD)), a, .sh (setD s), .sh (.int (lv 0 evs s)), d]) ?_ ?_
        · simp
          refine ⟨by omega, ?_⟩
          refine ok_range 0 evs.length (fun k ρ u2 => u2 = u1 ∧ ∃ d, ρ = [.sh (.lst (evs.map evR)), .sh (.lst ((spotsI 0 evs).map D.int)), .ow ((List.range (nB evs + 1)).map fun j => opI (bst evs done j)), .sh (.lst (ss.map setD)), a, .sh (setD s), .sh (.int ((s.map (bAt evs)).sum - cutSum 0 (evs.take k) s)), d]) ?_ ?_ _ _ ⟨rfl, d, by simp [cutSum, setD]⟩
          · rintro n ρ u2 hn ⟨rfl, d, rfl⟩
            have en : evs[n]? = some evs[n] := List.getElem?_eq_getElem hn
            rw [cutSum_take en s]
            refine ⟨_, rfl, ?_⟩
            refine st_go fun R1 hR1 => ?_
            unfold lb__law_asks_4
            have hx := hix n _ en
            have ht := hity evs[n]
            cases hv : evs[n] with
            | inl bb =>
              rw [hv] at hx ht hR1
              have ht' : isiD [evR (.inl bb), .ty "tuple"] = some (.bl false) := ht
              simp [hx, ht']
              refine hR1 _ _ ⟨rfl, .sh (.int n), ?_⟩
              simp [cutSum]
            | inr q =>
              rw [hv] at hx ht hR1
              have ht' : isiD [evR (.inr q), .ty "tuple"] = some (.bl true) := ht
              have i0 : ixD (evR (.inr q)) (.int 0) = some (.int q.1) := rfl
              have i1 : ixD (evR (.inr q)) (.int 1) = some (.int q.2) := rfl
              simp [hx, ht', i0, i1, setD]
              refine ⟨by omega, ?_⟩
              refine ok_lcl (fun x => [.sh (.lst (evs.map evR)), .sh (.lst ((spotsI 0 evs).map D.int)), .ow ((List.range (nB evs + 1)).map fun j => opI (bst evs done j)), .sh (.lst (ss.map setD)), .sh (.int x), .sh (.lst (s.map D.int)), .sh (.int ((s.map (bAt evs)).sum - cutSum 0 (evs.take n) s)), .sh (.int n)]) (fun x => decide ((n : Int) < x)) (fun x => .int x) ?_ ?_ ?_ ?_
              · intro x hx; rfl
              · intro x hx; simp
              · intro x hx _; simp
              have hfl : (s.filter fun x => decide ((n : Int) < x)).length ≤ 12 := by
                have := List.length_filter_le (fun x => decide ((n : Int) < x)) s
                omega
              have hw : (if q.2 * ((s.filter fun x => decide ((n : Int) < x)).length : Int) < q.1 then q.2 * ((s.filter fun x => decide ((n : Int) < x)).length : Int) else q.1) = wor q.1 q.2 (s.filter fun x => decide ((n : Int) < x)).length := by
                unfold wor
                rw [Int.mul_comm]
                split <;> omega
              simp [hw]
              refine ⟨.inl (.inr (by omega)), hR1 _ _ ⟨rfl, .sh (.int n), ?_⟩⟩
              simp [cutSum, setD]
              omega
          · rintro ρ u2 ⟨rfl, d, rfl⟩
            refine ⟨rfl, d, ?_⟩
            rw [List.take_of_length_le (Nat.le_refl _)]
            have : (s.map (bAt evs)).sum - cutSum 0 evs s = lv 0 evs s := by unfold lv; simp
            rw [this]
        rintro ρ u2 ⟨rfl, d, rfl⟩
        have hlen : ((List.range (nB evs + 1)).map fun j => opI (bst evs done j)).length = nB evs + 1 := by simp
        have hat : atI ((List.range (nB evs + 1)).map fun j => opI (bst evs done j)) (s.length : Int) = some (opI (bst evs done s.length)) := at_nat (by rw [List.getElem?_map, List.getElem?_range (by omega)]; rfl)
        have hput : ixN ((List.range (nB evs + 1)).map fun j => opI (bst evs done j)).length (s.length : Int) = some s.length := by
          unfold ixN
          rw [if_pos (by omega), if_pos (by rw [hlen]; omega)]
          rfl
        have hset : ∀ w : Int, bup (bst evs done s.length) (lv 0 evs s) = some w → ((List.range (nB evs + 1)).map fun j => opI (bst evs done j)).set s.length (.int w) = (List.range (nB evs + 1)).map fun j => opI (bst evs (done ++ [s]) j) := fun w hw => by
          apply List.ext_getElem?
          intro j
          by_cases hj : j < nB evs + 1
          · rw [List.getElem?_map, List.getElem?_range hj]
            simp only [Option.map_some, bst_snoc]
            by_cases ej : s.length = j
            · subst ej
              rw [if_pos rfl, hw, List.getElem?_set_self (by rw [hlen]; exact hj)]
              rfl
            · rw [if_neg ej, List.getElem?_set_ne ej, List.getElem?_map, List.getElem?_range hj]
              rfl
          · rw [List.getElem?_eq_none (by simp; omega), List.getElem?_eq_none (by simp; omega)]
        have hsame : ∀ m : Int, bst evs done s.length = some m → ¬ m < lv 0 evs s → ((List.range (nB evs + 1)).map fun j => opI (bst evs done j)) = (List.range (nB evs + 1)).map fun j => opI (bst evs (done ++ [s]) j) := fun m hm hle => by
          apply List.map_congr_left
          intro j _
          rw [bst_snoc]
          by_cases ej : s.length = j
          · subst ej
            rw [if_pos rfl, hm]
            show _ = opI (if m < lv 0 evs s then some (lv 0 evs s) else some m)
            rw [if_neg hle]
          · rw [if_neg ej]
        have lens : lenD [setD s] = some (.int s.length) := by unfold setD; simp
        generalize hfd : ((List.range (nB evs + 1)).map fun j => opI (bst evs done j)) = fd at hat hput hset hsame hlen ⊢
        cases hbs : bst evs done s.length with
        | none =>
          rw [hbs] at hat hset
          have e5 : isD (opI none) .non = some (.bl true) := rfl
          simp [lens, hat, e5]
          rw [hput]
          simp
          exact hR0 _ _ ⟨rfl, _, _, _, _, by rw [hset _ rfl]⟩
        | some m =>
          rw [hbs] at hat hset
          have e5 : isD (.int m) .non = some (.bl false) := rfl
          have e6 : opI (some m) = .int m := rfl
          simp [lens, hat, e5, e6]
          refine brd (fun z => ?_) (fun z => ?_)
          · rw [hput]
            simp
            exact hR0 _ _ ⟨rfl, _, _, _, _, by rw [hset _ (if_pos z)]⟩
          · exact hR0 _ _ ⟨rfl, _, _, _, _, by rw [← hsame m hbs z]⟩
    · rintro ρ u1 ⟨rfl, a, b, c, d, rfl⟩
      refine ⟨rfl, a, b, c, d, ?_⟩
      rw [List.take_of_length_le (by simp)]
  · rintro ρ u1 ⟨rfl, a, b, c, d, rfl⟩
    simpa using hfin
end S2


set_option Elab.async false
set_option linter.all false
set_option maxRecDepth 100000
set_option maxHeartbeats 4000000
/-! K5m: what is left behind a payment, and the best that can be left, plain. -/
namespace P20
open Mi L2
/-- payments as they may be -/
def Box : List (Int × Int) → List Int → Prop
  | [], [] => True
  | q :: am, y :: ys => (0 ≤ y ∧ y ≤ min q.1 q.2) ∧ Box am ys
  | _, _ => False
theorem box_sum : ∀ {am : List (Int × Int)} {ys : List Int}, Box am ys → 0 ≤ ys.sum ∧ ys.sum ≤ FF am 1
  | [], [], _ => ⟨Int.le_refl _, Int.le_refl _⟩
  | q :: am, y :: ys, h => by
    have := box_sum h.2
    have h1 := h.1
    rw [FF_cons, List.sum_cons]
    have : wor q.1 q.2 1 = min q.1 q.2 := by unfold wor; simp
    omega
  | [], _ :: _, h => by simp [Box] at h
  | _ :: _, [], h => by simp [Box] at h
/-- the most that can be left -/
def best (am : List (Int × Int)) (x : Int) (k : Nat) : Int := min (FF am k) (FF am (k + 1) - x)
end P20

set_option Elab.async false
set_option linter.all false
set_option maxRecDepth 100000
set_option maxHeartbeats 4000000
/-! K7m: few cards with a given row, plain. -/
namespace P20
open Mi L2
/-- what falls are worth: the first at day d -/
def WW (d : Nat) : List Int → Nat → Int
  | [], _ => 0
  | a :: r, k => a * ((min k d : Nat) : Int) + WW (d + 1) r k
/-- few cards -/
def few : Nat → List Int → List (Int × Int)
  | d, a :: b :: r =>
    if a = 0 then few (d + 1) (b :: r)
    else if b = 0 then ((d : Int) * (a + b) + b, a + b) :: few (d + 1) (b :: r)
    else ((d : Int) * (a + b) + b, a + b) :: few (d + 2) r
  | _, _ => []
termination_by _ l => l.length
end P20



set_option Elab.async false
set_option linter.all false
set_option maxRecDepth 100000
set_option maxHeartbeats 4000000
/-! S3l: what the drawing functions of the third family answer. -/
namespace S3
open PySem L2 Mi P20 Sh
def Pu (u : PuS) : Prop := ∃ d s c : Int, u = .real [d, s, c] ∧ 0 ≤ s ∧ s < 2305843009213693951
theorem log_big {n : Int} (h : 0 < n ∧ n < 1000000000000000000000000000000000000000000000000000000000000) : n.natAbs.log2 < 200 := by
  refine (Nat.log2_lt (by omega)).mpr ?_
  have : (2 : Nat) ^ 200 = 1606938044258990275541962092341162602522202993782792835301376 := by decide +kernel
  rw [this]
  omega
theorem draw_ok {n : Int} (hn : 0 < n ∧ n < 1000000000000000000000000000000000000000000000000000000000000) {u : PuS} (hu : Pu u) {P : D → PuS → Prop} (h : ∀ r u', 0 ≤ r → r < n → Pu u' → P (.int r) u') : Ok (mf__law_draw [.pur, .int n]) u P := by
  obtain ⟨d, s, c, rfl, h1, h2⟩ := hu
  unfold mf__law_draw mb__law_draw
  have hd : dmC d n = true := dmC_log hn.1 (by have := log_big hn; omega)
  have hh : ∀ k : Int, 0 ≤ k % n ∧ k % n < n := fun k => ⟨Int.emod_nonneg _ (by omega), Int.emod_lt_of_pos _ hn.1⟩
  simp [atI, ixN, hn.1, hd]
  refine brd (fun hx => ?_) (fun hx => ?_)
  · refine h _ _ (hh _).1 (hh _).2 ⟨_, _, _, rfl, by omega, by omega⟩
  · refine ⟨.inl (.inr (by omega)), ?_⟩
    refine h _ _ (hh _).1 (hh _).2 ⟨_, _, _, rfl, by omega, by omega⟩
theorem amount_ok {u : PuS} (hu : Pu u) {P : D → PuS → Prop} (h : ∀ r u', 0 ≤ r → r < 100000000000000000000000000000 → Pu u' → P (.int r) u') : Ok (mf__law_amount [.pur]) u P := by
  unfold mf__law_amount mb__law_amount
  simp
  refine draw_ok (by decide) hu fun w u1 w0 w6 hu1 => ?_
  simp
  refine brd (fun h3 => ?_) (fun h3 => ?_)
  · exact draw_ok (by decide) hu1 fun r u2 r0 r1 hu2 => h r u2 r0 (by omega) hu2
  refine brd (fun h4 => ?_) (fun h4 => ?_)
  · refine draw_ok (by decide) hu1 fun r u2 r0 r1 hu2 => ?_
    simp
    exact h _ _ (by omega) (by omega) hu2
  refine draw_ok (by decide) hu1 fun a u2 a0 a1 hu2 => ?_
  simp
  refine draw_ok (by decide) hu2 fun b u3 b0 b1 hu3 => ?_
  simp
  refine brd (fun h5 => ?_) (fun h5 => ?_)
  · exact h _ _ (by omega) (by omega) hu3
  · refine draw_ok (by decide) hu3 fun c u4 c0 c1 hu4 => ?_
    simp
    exact h _ _ (by omega) (by omega) hu4
theorem card_ok {u : PuS} (hu : Pu u) {P : D → PuS → Prop} (h : ∀ q u', 1 ≤ q.2 ∧ 0 ≤ q.1 ∧ q.1 ≤ 24 * q.2 → q.2 ≤ 100000000000000000000000000000 → Pu u' → P (prD q) u') : Ok (mf__law_card [.pur]) u P := by
  unfold mf__law_card mb__law_card
  rw [ok_fn]
  refine seq_go fun K R hK hR => ?_
  simp
  refine amount_ok hu fun l u1 l0 l1 hu1 => ?_
  simp
  refine hK _ _ ?_
  clear hK hR K R
  refine seq_go fun K R hK hR => ?_
  simp
  refine draw_ok (by decide) hu1 fun a u2 a0 a1 hu2 => ?_
  obtain ⟨n, e1, n0, n1⟩ : ∃ n : Int, ixD (.lst [.int 3, .int 24]) (.int (if a = 0 then 1 else 0)) = some (.int n) ∧ 0 < n ∧ n ≤ 24 := by
    by_cases h0 : a = 0
    · rw [if_pos h0]; exact ⟨24, rfl, by decide, by decide⟩
    · rw [if_neg h0]; exact ⟨3, rfl, by decide, by decide⟩
  simp at e1
  simp [e1]
  refine draw_ok (by omega) hu2 fun dd u3 d0 d1 hu3 => ?_
  refine hK _ _ ?_
  clear hK hR K R
  simp
  refine ⟨.inl (.inr (by omega)), ?_⟩
  refine amount_ok hu3 fun x u4 x0 x1 hu4 => ?_
  simp
  have hm : 0 ≤ x % (1 + l + 1) ∧ x % (1 + l + 1) < 1 + l + 1 := ⟨Int.emod_nonneg _ (by omega), Int.emod_lt_of_pos _ (by omega)⟩
  have hp1 : 0 ≤ (1 + l) * dd := Int.mul_nonneg (by omega) d0
  have hp2 : (1 + l) * dd ≤ (1 + l) * 23 := Int.mul_le_mul_of_nonneg_left (by omega) (by omega)
  refine ⟨by omega, ?_⟩
  exact h ((1 + l) * dd + x % (1 + l + 1), 1 + l) u4 ⟨by simp; omega, by simp only; omega, by simp only; omega⟩ (by simp only; omega) hu4
/-! ### plain ones -/
theorem lworth_ok {q : Int × Int} {k : Nat} (hk : k ≤ 1000) {u : PuS} {P : D → PuS → Prop} (h : P (.int (wor q.1 q.2 k)) u) : Ok (mf__law_worth [prD q, .int k]) u P := by
  unfold mf__law_worth mb__law_worth prD
  have e1 : ∀ a b : D, ixD (.tup [a, b]) (.int 0) = some a := fun a b => rfl
  have e2 : ∀ a b : D, ixD (.tup [a, b]) (.int 1) = some b := fun a b => rfl
  simp [e1, e2, -s_ixT]
  refine ⟨.inl (.inl (by omega)), ?_⟩
  have e : (if (k : Int) * q.2 < q.1 then (k : Int) * q.2 else q.1) = wor q.1 q.2 k := by unfold wor; split <;> omega
  rw [e]
  exact h
theorem power_ok {am : List (Int × Int)} (hl : am.length ≤ 1000) {k : Nat} (hk : k ≤ 1000) {u : PuS} {P : D → PuS → Prop} (h : P (.int (FF am k)) u) : Ok (mf__law_power [.lst (am.map prD), .int k]) u P := by
  unfold mf__law_power mb__law_power
  simp
  refine ⟨by omega, ?_⟩
  refine ok_lca (fun q : Int × Int => [.sh (.lst (am.map prD)), .sh (.int k), .sh (prD q)]) (fun q => .int (wor q.1 q.2 k)) ?_ ?_ ?_
  · intro q hq; rfl
  · intro q hq
    unfold ce__law_power_1
    simp
    exact lworth_ok hk ⟨rfl, rfl⟩
  have e : am.map (fun q => D.int (wor q.1 q.2 k)) = (am.map fun q => wor q.1 q.2 k).map D.int := by rw [List.map_map]; rfl
  rw [e, s_sumI]
  simp
  exact h
def evR : Ev → D
  | .inl x => .int x
  | .inr q => prD q
theorem course_ok {evs : List Ev} (h : EvsOk evs) {u : PuS} {P : D → PuS → Prop} (hp : P (courD evs) u) : Ok (mf__law_course [.lst (evs.map evR)]) u P := by
  have hl := h.len
  unfold mf__law_course mb__law_course
  simp
  refine ⟨by omega, ?_⟩
  refine ok_lca (fun e : Ev => [.sh (.lst (evs.map evR)), .sh (evR e)]) evD ?_ ?_ ?_
  · intro e he; rfl
  · intro e he
    unfold ce__law_course_1
    cases e with
    | inl x =>
      have e1 : isiD [evR (.inl x), .ty "int"] = some (.bl true) := rfl
      simp [e1]
      rfl
    | inr q =>
      have e1 : isiD [evR (.inr q), .ty "int"] = some (.bl false) := rfl
      have e2 : ixD (evR (.inr q)) (.int 0) = some (.int q.1) := rfl
      have e3 : ixD (evR (.inr q)) (.int 1) = some (.int q.2) := rfl
      obtain ⟨q1, q2, q3⟩ := h.each _ he
      simp [e1, e2, e3]
      exact card_init q1 q2 q3 ⟨rfl, rfl⟩
  exact cour_init h hp
/-! ### what is lacking -/
@[simp] theorem check_course_ok' {evs : List Ev} {u : PuS} {P : D → PuS → Prop} : Ok (mf_check_course [courD evs]) u P ↔ P .non u := by
  unfold mf_check_course mb_check_course
  have e : isiD [courD evs, .cls "Course"] = some (.bl true) := rfl
  simp [e]
theorem bal_ok {q : Int × Int} {u : PuS} {P : D → PuS → Prop} (h : P (.int q.1) u) : Ok (mf_Card_balance [.obj "Card" ["held", "daily"] [.int q.1, .int q.2]]) u P := by
  unfold mf_Card_balance mb_Card_balance
  simp
  exact h
theorem lim_ok {q : Int × Int} {u : PuS} {P : D → PuS → Prop} (h : P (.int q.2) u) : Ok (mf_Card_limit [.obj "Card" ["held", "daily"] [.int q.1, .int q.2]]) u P := by
  unfold mf_Card_limit mb_Card_limit
  simp
  exact h
theorem mxD_spec {L : List Int} (hL : ∀ x ∈ L, (0 : Int) ≤ x) : 0 ≤ mxD 0 L ∧ (∀ x ∈ L, x ≤ mxD 0 L) ∧ (mxD 0 L ≠ 0 → mxD 0 L ∈ L) := by
  cases L with
  | nil => exact ⟨Int.le_refl _, (fun x hx => by cases hx), fun h => absurd rfl h⟩
  | cons a L =>
    obtain ⟨h1, h2⟩ := maxL_mem (ns := a :: L) (by simp)
    exact ⟨hL _ h1, h2, fun _ => h1⟩
/-! ### the drawn events -/
theorem int_list : ∀ {ys : List D}, (∀ y ∈ ys, ∃ b : Int, 0 ≤ b ∧ y = .int b) → ∃ bs : List Int, ys = bs.map D.int ∧ ∀ b ∈ bs, (0 : Int) ≤ b
  | [], _ => ⟨[], rfl, fun b hb => by cases hb⟩
  | y :: ys, h => by
    obtain ⟨bs, e, h1⟩ := int_list (ys := ys) fun d hd => h d (List.mem_cons_of_mem _ hd)
    obtain ⟨b, h2, h3⟩ := h y List.mem_cons_self
    refine ⟨b :: bs, by rw [h3, e]; rfl, fun x hx => ?_⟩
    rcases List.mem_cons.mp hx with rfl | hx
    · exact h2
    · exact h1 x hx
theorem bills_ev (bs : List Int) : bs.map D.int = (bs.map Sum.inl : List Ev).map evR := by rw [List.map_map]; rfl
theorem nB_bills (bs : List Int) : nB (bs.map Sum.inl : List Ev) = bs.length := by
  induction bs with
  | nil => rfl
  | cons x bs ih => rw [List.map_cons, nB_inl, ih]; rfl
theorem nC_bills (bs : List Int) : nC (bs.map Sum.inl : List Ev) = 0 := by
  induction bs with
  | nil => rfl
  | cons x bs ih => simpa [nC, isB] using ih
end S3


set_option Elab.async false
set_option linter.all false
set_option maxRecDepth 100000
set_option maxHeartbeats 4000000
/-! S3n: the places of bills and of cards, the best of all sets. -/
namespace S3
open PySem L2 Mi P20 Sh
def npos (p : Ev → Bool) (evs : List Ev) : List Nat := (List.range evs.length).filter fun k => match evs[k]? with | some e => p e | none => false
theorem npos_cons (p : Ev → Bool) (e : Ev) (r : List Ev) : npos p (e :: r) = (if p e then [0] else []) ++ (npos p r).map Nat.succ := by
  unfold npos
  rw [List.length_cons, List.range_succ_eq_map]
  have e2 : ((List.range r.length).map Nat.succ).filter (fun k => match (e :: r)[k]? with | some e => p e | none => false) = ((List.range r.length).filter fun k => match r[k]? with | some e => p e | none => false).map Nat.succ := by
    rw [List.filter_map]; rfl
  by_cases h : p e = true
  · rw [List.filter_cons_of_pos (by exact h), e2, if_pos h]; rfl
  · rw [List.filter_cons_of_neg (by exact h), e2, if_neg h]; rfl
theorem npos_vals (p : Ev → Bool) : ∀ evs : List Ev, (npos p evs).map (fun k => evs.getD k (.inl 0)) = evs.filter p
  | [] => rfl
  | e :: r => by
    rw [npos_cons, List.map_append, List.map_map]
    have ih := npos_vals p r
    have e1 : (npos p r).map ((fun k => (e :: r).getD k (.inl 0)) ∘ Nat.succ) = r.filter p := by
      rw [← ih]
      apply List.map_congr_left
      intro k _
      rfl
    rw [e1]
    by_cases h : p e = true
    · rw [if_pos h, List.filter_cons_of_pos h]; rfl
    · rw [if_neg h, List.filter_cons_of_neg h]; rfl
theorem npos_mem {p : Ev → Bool} {evs : List Ev} {k : Nat} : k ∈ npos p evs ↔ ∃ e, evs[k]? = some e ∧ p e = true := by
  unfold npos
  rw [List.mem_filter, List.mem_range]
  constructor
  · rintro ⟨h1, h2⟩
    rw [List.getElem?_eq_getElem h1] at h2
    exact ⟨_, List.getElem?_eq_getElem h1, h2⟩
  · rintro ⟨e, h1, h2⟩
    refine ⟨(List.getElem?_eq_some_iff.mp h1).1, ?_⟩
    rw [h1]
    exact h2
theorem npos_up (p : Ev → Bool) (evs : List Ev) : (npos p evs).Pairwise (· < ·) := by
  unfold npos
  exact List.Pairwise.filter _ List.pairwise_lt_range
theorem npos_len (p : Ev → Bool) (evs : List Ev) : (npos p evs).length = (evs.filter p).length := by rw [← npos_vals, List.length_map]
theorem npos_spots : ∀ (evs : List Ev) (i : Int), spotsI i evs = (npos isB evs).map fun k : Nat => i + (k : Int)
  | [], i => rfl
  | e :: r, i => by
    have ih := npos_spots r (i + 1)
    have e1 : (npos isB r).map ((fun k : Nat => i + (k : Int)) ∘ Nat.succ) = spotsI (i + 1) r := by
      rw [ih]
      apply List.map_congr_left
      intro k _
      show i + ((k + 1 : Nat) : Int) = i + 1 + (k : Int)
      omega
    rw [npos_cons, List.map_append, List.map_map, e1]
    cases e with
    | inl x => show i :: spotsI (i + 1) r = _; simp [isB]
    | inr q => show spotsI (i + 1) r = _; simp [isB]
def notB (e : Ev) : Bool := !isB e
def wv (evs : List Ev) (k : Nat) (n : Nat) : Int := match evs[k]? with | some (.inr q) => wor q.1 q.2 n | _ => 0
theorem cut_pos : ∀ (evs : List Ev) (i : Int) (s : List Int), cutSum i evs s = ((npos notB evs).map fun k => wv evs k (s.filter fun d => decide (i + (k : Int) < d)).length).sum
  | [], i, s => rfl
  | e :: r, i, s => by
    have ih := cut_pos r (i + 1) s
    have e1 : (npos notB r).map ((fun k : Nat => wv (e :: r) k (s.filter fun d => decide (i + (k : Int) < d)).length) ∘ Nat.succ) = (npos notB r).map fun k => wv r k (s.filter fun d => decide (i + 1 + (k : Int) < d)).length := by
      apply List.map_congr_left
      intro k _
      show wv (e :: r) (k + 1) (s.filter fun d => decide (i + ((k + 1 : Nat) : Int) < d)).length = _
      rw [show i + ((k + 1 : Nat) : Int) = i + 1 + (k : Int) by omega]
      rfl
    rw [npos_cons, List.map_append, List.map_map, e1, List.sum_append, ← ih]
    cases e with
    | inl x => show cutSum (i + 1) r s = _; simp [isB, notB]
    | inr q =>
      show wor q.1 q.2 _ + cutSum (i + 1) r s = _
      simp [isB, notB, wv]
/-! ### all cards ahead -/
theorem ahead_split : ∀ {evs : List Ev}, (∀ i j, i ∈ npos notB evs → j ∈ npos isB evs → i < j) → ∃ (cm : List (Int × Int)) (bs : List Int), evs = cm.map Sum.inr ++ bs.map Sum.inl
  | [], _ => ⟨[], [], rfl⟩
  | .inr q :: r, h => by
    obtain ⟨cm, bs, e⟩ := ahead_split (evs := r) fun i j hi hj => by
      have := h (i + 1) (j + 1) (by rw [npos_cons]; exact List.mem_append_right _ (List.mem_map.mpr ⟨i, hi, rfl⟩)) (by rw [npos_cons]; exact List.mem_append_right _ (List.mem_map.mpr ⟨j, hj, rfl⟩))
      omega
    exact ⟨q :: cm, bs, by rw [e]; rfl⟩
  | .inl x :: r, h => by
    have hall : ∀ e ∈ r, isB e = true := fun e he => by
      obtain ⟨i, hi⟩ := List.mem_iff_getElem?.mp he
      cases hb : isB e with
      | true => rfl
      | false =>
        have := h (i + 1) 0 (npos_mem.mpr ⟨e, hi, by simp [notB, hb]⟩) (npos_mem.mpr ⟨.inl x, rfl, rfl⟩)
        omega
    have : ∃ bs : List Int, r = bs.map Sum.inl := by
      clear h
      induction r with
      | nil => exact ⟨[], rfl⟩
      | cons e r ih =>
        obtain ⟨bs, hb⟩ := ih fun e he => hall e (List.mem_cons_of_mem _ he)
        cases e with
        | inl y => exact ⟨y :: bs, by rw [hb]; rfl⟩
        | inr q => have := hall _ List.mem_cons_self; cases this
    obtain ⟨bs, hb⟩ := this
    exact ⟨[], x :: bs, by rw [hb]; rfl⟩
theorem filt_bills (cm : List (Int × Int)) (bs : List Int) : ((cm.map Sum.inr ++ bs.map Sum.inl : List Ev)).filter isB = bs.map Sum.inl := by
  rw [List.filter_append, List.filter_eq_nil_iff.mpr, List.filter_eq_self.mpr, List.nil_append]
  · intro e he; obtain ⟨x, _, rfl⟩ := List.mem_map.mp he; rfl
  · intro e he; obtain ⟨x, _, rfl⟩ := List.mem_map.mp he; simp [isB]
theorem filt_cards (cm : List (Int × Int)) (bs : List Int) : ((cm.map Sum.inr ++ bs.map Sum.inl : List Ev)).filter notB = cm.map Sum.inr := by
  rw [List.filter_append, List.filter_eq_self.mpr, List.filter_eq_nil_iff.mpr, List.append_nil]
  · intro e he; obtain ⟨x, _, rfl⟩ := List.mem_map.mp he; simp [isB, notB]
  · intro e he; obtain ⟨x, _, rfl⟩ := List.mem_map.mp he; rfl
theorem asks_ahead {cm : List (Int × Int)} {bs fs : List Int} (hp : fs.Perm bs) (ho : fs.Pairwise (· ≥ ·)) : asks (cm.map Sum.inr ++ bs.map Sum.inl) = (List.range fs.length).map fun k => (fs.take (k + 1)).sum - FF cm (k + 1) := by
  have := asked_mix (ah := cm) (be := []) Am.nil hp ho
  rw [List.map_nil, List.append_nil] at this
  unfold asks
  rw [this]
  unfold dueR
  rw [List.range_succ_eq_map, List.map_cons, List.drop_succ_cons, List.drop_zero, List.map_map]
  rfl
/-! ### the best of all sets -/
def bup (cur : Option Int) (v : Int) : Option Int := match cur with
  | none => some v
  | some m => if m < v then some v else some m
def bst (evs : List Ev) (ss : List (List Int)) (k : Nat) : Option Int := ss.foldl (fun cur s => if s.length = k then bup cur (lv 0 evs s) else cur) none
theorem bst_snoc (evs : List Ev) (ss : List (List Int)) (s : List Int) (k : Nat) : bst evs (ss ++ [s]) k = if s.length = k then bup (bst evs ss k) (lv 0 evs s) else bst evs ss k := by
  unfold bst
  rw [List.foldl_append]
  rfl
theorem bst_spec (evs : List Ev) (k : Nat) (ss : List (List Int)) : (∀ s ∈ ss, s.length = k → ∃ m, bst evs ss k = some m ∧ lv 0 evs s ≤ m) ∧ ∀ m, bst evs ss k = some m → ∃ s ∈ ss, s.length = k ∧ m = lv 0 evs s := by
  induction hn : ss.length generalizing ss with
  | zero =>
    have : ss = [] := List.length_eq_zero_iff.mp hn
    subst this
    exact ⟨(fun s hs => by cases hs), fun m hm => by cases hm⟩
  | succ n ih =>
    obtain ⟨ys, y, rfl⟩ : ∃ ys y, ss = ys ++ [y] := by
      rcases List.eq_nil_or_concat ss with h | ⟨p, l, h⟩
      · rw [h] at hn; simp at hn
      · exact ⟨p, l, by simpa using h⟩
    obtain ⟨i1, i2⟩ := ih ys (by simp at hn; exact hn)
    rw [bst_snoc]
    by_cases hy : y.length = k
    · rw [if_pos hy]
      cases hb : bst evs ys k with
      | none =>
        refine ⟨fun s hs hk => ?_, fun m hm => ?_⟩
        · rcases List.mem_append.mp hs with hs | hs
          · obtain ⟨m, hm, _⟩ := i1 s hs hk
            rw [hb] at hm; cases hm
          · rw [List.mem_singleton.mp hs]; exact ⟨_, rfl, Int.le_refl _⟩
        · have : m = lv 0 evs y := (Option.some.inj hm).symm
          exact ⟨y, by simp, hy, this⟩
      | some m0 =>
        show _ ∧ ∀ m, (if m0 < lv 0 evs y then some (lv 0 evs y) else some m0) = some m → _
        have hmax : ∃ M, (if m0 < lv 0 evs y then some (lv 0 evs y) else some m0) = some M ∧ m0 ≤ M ∧ lv 0 evs y ≤ M ∧ (M = m0 ∨ M = lv 0 evs y) := by
          by_cases z : m0 < lv 0 evs y
          · exact ⟨_, if_pos z, by omega, by omega, .inr rfl⟩
          · exact ⟨_, if_neg z, by omega, by omega, .inl rfl⟩
        obtain ⟨M, e1, e2, e3, e4⟩ := hmax
        refine ⟨fun s hs hk => ⟨M, e1, ?_⟩, fun m hm => ?_⟩
        · rcases List.mem_append.mp hs with hs | hs
          · obtain ⟨m, hm, hle⟩ := i1 s hs hk
            rw [hb] at hm; cases hm; omega
          · rw [List.mem_singleton.mp hs]; exact e3
        · rw [e1] at hm
          cases hm
          rcases e4 with rfl | rfl
          · obtain ⟨s, hs, h⟩ := i2 _ hb
            exact ⟨s, List.mem_append_left _ hs, h⟩
          · exact ⟨y, by simp, hy, rfl⟩
    · rw [if_neg hy]
      refine ⟨fun s hs hk => ?_, fun m hm => ?_⟩
      · rcases List.mem_append.mp hs with hs | hs
        · exact i1 s hs hk
        · rw [List.mem_singleton.mp hs] at hk; exact absurd hk hy
      · obtain ⟨s, hs, h⟩ := i2 m hm
        exact ⟨s, List.mem_append_left _ hs, h⟩
theorem bst_all {evs : List Ev} {k : Nat} (hk : k ≤ nB evs) : bst evs (subsets (spotsI 0 evs)) k = some ((asked 0 evs).getD k (0, [])).1 := by
  have T := asked_tab evs 0
  have hkl : k < (asked 0 evs).length := by rw [T.len]; omega
  have eg : (asked 0 evs)[k]? = some ((asked 0 evs).getD k (0, [])) := by rw [List.getD_eq_getElem?_getD, List.getElem?_eq_getElem hkl]; rfl
  generalize hq : (asked 0 evs).getD k (0, []) = q at eg
  obtain ⟨a, ds⟩ := q
  obtain ⟨t1, t2, t3⟩ := T.at_ k a ds eg
  obtain ⟨b1, b2⟩ := bst_spec evs k (subsets (spotsI 0 evs))
  obtain ⟨m, hm, hle⟩ := b1 ds ((mem_subsets _ _).mpr t2.sub) t1
  rw [← t2.val] at hle
  rw [hm]
  congr 1
  show m = a
  obtain ⟨s, hs, hsl, rfl⟩ := b2 m hm
  have := t3 s _ (sel_of_sub evs 0 s ((mem_subsets _ _).mp hs)) hsl
  omega
end S3

set_option Elab.async false
set_option linter.all false
set_option maxRecDepth 100000
set_option maxHeartbeats 4000000
/-! S3o: what a course asks, by the third family's own sums. -/
namespace S3
open PySem L2 Mi P20 Sh
def opI : Option Int → D
  | none => .non
  | some x => .int x
def setD (s : List Int) : D := .lst (s.map D.int)
theorem at_last {α : Type} {l : List α} {x : α} : atI (l ++ [x]) (-1) = some x := by
  unfold atI ixN
  simp
  rw [if_pos (by omega), show (-1 + ((l.length : Int) + 1)).toNat = l.length by omega]
  simp
theorem srt_ints (b : Bool) (ns : List Int) : srtO b [.lst (ns.map D.int)] = some ((srtI b ns).map D.int) := by
  show (intsD (ns.map D.int)).map _ = _
  rw [intsD_map]
  rfl
theorem eqN0 {l : List Nat} : eqMD (.lst (l.map fun k : Nat => D.int (k : Int))) (.lst []) = some (.bl (decide (l = []))) := by
  have e : l.map (fun k : Nat => D.int (k : Int)) = (l.map fun k : Nat => (k : Int)).map D.int := by rw [List.map_map]; rfl
  rw [e, s_eqL0]
  congr 2
  simp
theorem asks_ok {evs : List Ev} (h : EvsOk evs) {u : PuS} {P : D → PuS → Prop} (hp : P (.lst ((asks evs).map D.int)) u) : Ok (mf__law_asks [.lst (evs.map evR)]) u P := by
  have hl := h.len
  have hb := h.bills
  have hix : ∀ (k : Nat) e, evs[k]? = some e → atI (evs.map evR) (k : Int) = some (evR e) := fun k e h => at_nat (by rw [List.getElem?_map, h]; rfl)
  have hity : ∀ e, isiD [evR e, .ty "int"] = some (.bl (isB e)) := fun e => by cases e <;> rfl
  unfold mf__law_asks mb__law_asks
  rw [ok_fn]
  have hnl : ∀ p, (npos p evs).length ≤ 100 := fun p => by rw [npos_len]; have := List.length_filter_le p evs; omega
  refine seq_go fun K R hK hR => ?_
  simp [mBorLs]
  refine ⟨by omega, by rw [rngD_len]; omega, ?_⟩
  refine ok_lcr (fun i => [.sh (.lst (evs.map evR)), .un, .un, .un, .un, .un, .un, .un, .un, .un, .sh (.int (0 + (i : Nat)))]) (fun k => match evs[k]? with | some e => isB e | none => false) (fun i => .int (i : Nat)) ?_ ?_ ?_ ?_
  · intro i hi; rfl
  · intro i hi
    unfold ct__law_asks_1
    have ei : evs[i]? = some evs[i] := List.getElem?_eq_getElem hi
    simp [hix i _ ei, hity]
    rw [ei]
  · intro i hi _; simp
  refine hK _ _ ?_
  clear hK hR K R
  refine seq_go fun K R hK hR => ?_
  simp [mBorLs]
  refine ⟨by omega, by rw [rngD_len]; omega, ?_⟩
  refine ok_lcr (fun i => [.sh (.lst (evs.map evR)), .sh (.lst ((npos isB evs).map fun i => .int (i : Nat))), .un, .un, .un, .un, .un, .un, .un, .un, .sh (.int (0 + (i : Nat)))]) (fun k => match evs[k]? with | some e => notB e | none => false) (fun i => .int (i : Nat)) ?_ ?_ ?_ ?_
  · intro i hi; rfl
  · intro i hi
    unfold ct__law_asks_2
    have ei : evs[i]? = some evs[i] := List.getElem?_eq_getElem hi
    simp [hix i _ ei, hity]
    rw [ei]
    simp [notB]
  · intro i hi _; simp
  refine hK _ _ ?_
  clear hK hR K R
  show Ok (mSeq _ _ [.sh (.lst (evs.map evR)), .sh (.lst ((npos isB evs).map fun i => .int (i : Nat))), .sh (.lst ((npos notB evs).map fun i => .int (i : Nat))), .un, .un, .un, .un, .un, .un, .un, .un]) u _
  have r1 : (∀ i j, i ∈ npos notB evs → j ∈ npos isB evs → i < j) → ∀ (Q : Fl → PuS → Prop), (∀ d u', P d u' → Q (.rt d) u') → Ok (mSeq (mAsg (mTup (mCons (mUn revD (mFz (mCBO (srtO false) (mCons (mFz (mLcO [10] (mIany (mVar 1)) (mGn 10) (mYes) (mBin ixD (mVar 0) (mVar 10)))) (mNil))))) (mCons (mFz (mLcO [10] (mIany (mVar 2)) (mGn 10) (mYes) (mBin ixD (mVar 0) (mVar 10)))) (mNil)))) (mGt 2 (mGcons (mGn 3) (mGcons (mGn 4) (mGnil))))) (mRet (mFz (mLcO [10] (mIof rng1 (mCons (mCB lenD (mCons (mVar 3) (mNil))) (mNil))) (mGn 10) (mYes) (ce__law_asks_3)))) [.sh (.lst (evs.map evR)), .sh (.lst ((npos isB evs).map fun i => .int (i : Nat))), .sh (.lst ((npos notB evs).map fun i => .int (i : Nat))), .un, .un, .un, .un, .un, .un, .un, .un]) u Q := by
    intro hsp Q hQ
    obtain ⟨cm, bs, e0⟩ := ahead_split hsp
    have hv1 := npos_vals isB evs
    have hv2 := npos_vals notB evs
    rw [e0, filt_bills, ← e0] at hv1
    rw [e0, filt_cards, ← e0] at hv2
    have hvg : ∀ p, ∀ k ∈ npos p evs, atI (evs.map evR) (k : Int) = some (evR (evs.getD k (.inl 0))) := fun p k hk => by
      obtain ⟨e, h1, _⟩ := npos_mem.mp hk
      rw [List.getD_eq_getElem?_getD, h1]
      exact hix k e h1
    refine seq_go fun K R hK hR => ?_
    simp
    refine ⟨by have := hnl isB; omega, ?_⟩
    refine ok_lca (fun k : Nat => [.sh (.lst (evs.map evR)), .sh (.lst ((npos isB evs).map fun i => .int (i : Nat))), .sh (.lst ((npos notB evs).map fun i => .int (i : Nat))), .un, .un, .un, .un, .un, .un, .un, .sh (.int k)]) (fun k => evR (evs.getD k (.inl 0))) (fun k hk => rfl) (fun k hk => ?_) ?_
    · simp [hvg isB k hk]
    have e1 : (npos isB evs).map (fun k => evR (evs.getD k (.inl 0))) = bs.map D.int := by
      have := congrArg (List.map evR) hv1
      rw [List.map_map, List.map_map] at this
      exact this
    have e2 : (npos notB evs).map (fun k => evR (evs.getD k (.inl 0))) = cm.map prD := by
      have := congrArg (List.map evR) hv2
      rw [List.map_map, List.map_map] at this
      exact this
    rw [e1, srt_ints]
    have hpm := srtI_perm false bs
    have hor : (srtI false bs).Pairwise (· ≤ ·) := by
      have := srtI_ord false bs
      unfold OrdB at this
      simpa using this
    generalize srtI false bs = gs at hpm hor
    have hpm2 : gs.reverse.Perm bs := (List.reverse_perm gs).trans hpm
    have hor2 : gs.reverse.Pairwise (· ≥ ·) := List.pairwise_reverse.mpr hor
    rw [e0, asks_ahead hpm2 hor2] at hp
    have hgl : gs.length ≤ 100 := by rw [hpm.length_eq]; have := congrArg List.length e0; simp at this; omega
    have hcl : cm.length ≤ 100 := by have := congrArg List.length e0; simp at this; omega
    refine ⟨_, rfl, ?_⟩
    refine ⟨by have := hnl notB; omega, ?_⟩
    refine ok_lca (fun k : Nat => [.sh (.lst (evs.map evR)), .sh (.lst ((npos isB evs).map fun i => .int (i : Nat))), .sh (.lst ((npos notB evs).map fun i => .int (i : Nat))), .un, .un, .un, .un, .un, .un, .un, .sh (.int k)]) (fun k => evR (evs.getD k (.inl 0))) (fun k hk => rfl) (fun k hk => ?_) ?_
    · simp [hvg notB k hk]
    rw [e2]
    have er : (gs.map D.int).reverse = gs.reverse.map D.int := by rw [List.map_reverse]
    rw [er]
    rw [← List.length_reverse] at hgl
    generalize gs.reverse = fs at hp hgl hpm2 hor2
    refine hK _ _ ?_
    clear hK hR K R
    simp
    refine ⟨by omega, by rw [rngD_len]; omega, ?_⟩
    refine ok_lcra (fun i => [.sh (.lst (evs.map evR)), .sh (.lst ((npos isB evs).map fun i => .int (i : Nat))), .sh (.lst ((npos notB evs).map fun i => .int (i : Nat))), .sh (.lst (fs.map D.int)), .sh (.lst (cm.map prD)), .un, .un, .un, .un, .un, .sh (.int (0 + (i : Nat)))]) (fun i => .int ((fs.take (i + 1)).sum - FF cm (i + 1))) (fun i hi => rfl) (fun i hi => ?_) ?_
    · unfold ce__law_asks_3
      have ec : cutD (fs.map D.int) none (some ((i : Int) + 1)) = (fs.take (i + 1)).map D.int := by rw [show (i : Int) + 1 = ((i + 1 : Nat) : Int) by omega, cut_to, List.map_take]
      simp [ec]
      rw [← List.map_take, s_sumI]
      refine ⟨_, rfl, ?_⟩
      rw [show (i : Int) + 1 = ((i + 1 : Nat) : Int) by omega]
      refine power_ok (by omega) (by omega) ?_
      simp
    refine hQ _ _ ?_
    rw [List.map_map] at hp
    exact hp
  refine seq_go fun K R hK hR => ?_
  simp only [ok_ifS, ok_or, ok_B, ok_bin, ok_un, ok_Fz, ok_lstO, ok_nil, ok_var, ok_C, s_vSh, List.getElem?_cons_succ, List.getElem?_cons_zero, Option.some.injEq, exists_eq_left', eqN0, onB_bl, List.length_nil, Nat.zero_le, true_and]
  have fin1 : (∀ i j, i ∈ npos notB evs → j ∈ npos isB evs → i < j) → Ok (mSeq (mAsg (mTup (mCons (mUn revD (mFz (mCBO (srtO false) (mCons (mFz (mLcO [10] (mIany (mVar 1)) (mGn 10) (mYes) (mBin ixD (mVar 0) (mVar 10)))) (mNil))))) (mCons (mFz (mLcO [10] (mIany (mVar 2)) (mGn 10) (mYes) (mBin ixD (mVar 0) (mVar 10)))) (mNil)))) (mGt 2 (mGcons (mGn 3) (mGcons (mGn 4) (mGnil))))) (mRet (mFz (mLcO [10] (mIof rng1 (mCons (mCB lenD (mCons (mVar 3) (mNil))) (mNil))) (mGn 10) (mYes) (ce__law_asks_3)))) [.sh (.lst (evs.map evR)), .sh (.lst ((npos isB evs).map fun i => .int (i : Nat))), .sh (.lst ((npos notB evs).map fun i => .int (i : Nat))), .un, .un, .un, .un, .un, .un, .un, .un]) u fun f u1 => match f with | Fl.nx ρ1 => K ρ1 u1 | f' => R f' u1 := fun hs => r1 hs _ fun d u' hd => hR _ _ hd
  refine brd (fun z => ?_) (fun z => ?_)
  · simp only [br_t]
    exact fin1 fun i j _ hj => by rw [z] at hj; cases hj
  refine brd (fun z2 => ?_) (fun z2 => ?_)
  · simp only [br_t]
    exact fin1 fun i j hi _ => by rw [z2] at hi; cases hi
  obtain ⟨c, init, ec⟩ : ∃ c init, npos notB evs = init ++ [c] := by
    rcases List.eq_nil_or_concat (npos notB evs) with h | ⟨p, l, h⟩
    · exact absurd h z2
    · exact ⟨l, p, by simpa using h⟩
  obtain ⟨f, rest, ef⟩ : ∃ f rest, npos isB evs = f :: rest := by
    cases hh : npos isB evs with
    | nil => exact absurd hh z
    | cons a b => exact ⟨a, b, rfl⟩
  have hc : ixD (.lst ((npos notB evs).map fun i => D.int (i : Nat))) (.int (-1)) = some (.int c) := by
    rw [ec, List.map_append]
    exact at_last
  have hf : ixD (.lst ((npos isB evs).map fun i => D.int (i : Nat))) (.int 0) = some (.int f) := by
    rw [ef]
    exact at_nat (k := 0) rfl
  have hneg : negD (.int 1) = some (.int (-1)) := rfl
  simp only [hneg, hc, hf, Option.some.injEq, exists_eq_left', s_lt, onB_bl]
  refine brd (fun z3 => ?_) (fun z3 => ?_)
  · refine fin1 fun i j hi hj => ?_
    have hi' : i ≤ c := by
      have hu := npos_up notB evs
      rw [ec] at hi hu
      rcases List.mem_append.mp hi with h | h
      · have := (List.pairwise_append.mp hu).2.2 i h c (by simp)
        omega
      · rw [List.mem_singleton.mp h]; omega
    have hj' : f ≤ j := by
      have hu := npos_up isB evs
      rw [ef] at hj hu
      rcases List.mem_cons.mp hj with h | h
      · omega
      · have := (List.pairwise_cons.mp hu).1 j h; omega
    omega
  rw [ok_next]
  refine hK _ _ ?_
  clear hK hR K R fin1 r1 hneg hc hf ec ef
  have hsp : (npos isB evs).map (fun i : Nat => D.int (i : Int)) = (spotsI 0 evs).map D.int := by
    rw [npos_spots evs 0, List.map_map]
    apply List.map_congr_left
    intro k _
    show D.int (k : Int) = D.int (0 + (k : Int))
    rw [Int.zero_add]
  have hsl := spotsI_len evs 0
  have hnn : (npos isB evs).length = nB evs := by rw [npos_len]; rfl
  refine seq_go fun K R hK hR => ?_
  simp
  refine hK _ _ ?_
  clear hK hR K R
  refine seq_cut (fun ρ u' => u' = u ∧ ∃ a, ρ = [.sh (.lst (evs.map evR)), .sh (.lst ((npos isB evs).map fun i => .int (i : Nat))), .sh (.lst ((npos notB evs).map fun i => .int (i : Nat))), .un, .un, .sh (.lst ((subsets (spotsI 0 evs)).map setD)), a, .un, .un, .un, .un]) ?_ ?_
  · simp
    rw [hsp]
    refine ok_list ((spotsI 0 evs).map D.int) (fun k ρ u' => u' = u ∧ ∃ a, ρ = [.sh (.lst (evs.map evR)), .sh (.lst ((npos isB evs).map fun i => .int (i : Nat))), .sh (.lst ((npos notB evs).map fun i => .int (i : Nat))), .un, .un, .sh (.lst ((subsets ((spotsI 0 evs).take k)).map setD)), a, .un, .un, .un, .un]) ?_ ?_ _ _ ⟨rfl, .un, by rw [hsp]; rfl⟩
    · rintro k d ρ u' e ⟨rfl, a, rfl⟩
      rw [List.getElem?_map] at e
      cases e2 : (spotsI 0 evs)[k]? with
      | none => rw [e2] at e; cases e
      | some x =>
        rw [e2] at e
        cases e
        have hk : k < (spotsI 0 evs).length := (List.getElem?_eq_some_iff.mp e2).1
        have et : (spotsI 0 evs).take (k + 1) = (spotsI 0 evs).take k ++ [x] := by rw [List.take_succ, e2]; rfl
        have hsz : (subsets ((spotsI 0 evs).take k)).length ≤ 4096 := by
          rw [subsets_len, List.length_take, Nat.min_eq_left (by omega)]
          exact Nat.pow_le_pow_right (n := 2) (by decide) (show k ≤ 12 by omega)
        have hel : ∀ s ∈ subsets ((spotsI 0 evs).take k), s.length ≤ 12 := fun s hs => by
          have := ((mem_subsets _ _).mp hs).length_le
          rw [List.length_take] at this
          omega
        rw [et, subsets_snoc]
        generalize subsets ((spotsI 0 evs).take k) = ss at hsz hel ⊢
        refine ⟨_, rfl, ?_⟩
        unfold lb__law_asks_5
        refine st_go fun R hR => ?_
        simp
        refine ⟨by omega, ?_⟩
        refine ok_lca (fun s => [.sh (.lst (evs.map evR)), .sh (.lst ((npos isB evs).map fun i => .int (i : Nat))), .sh (.lst ((npos notB evs).map fun i => .int (i : Nat))), .un, .un, .sh (.lst (ss.map setD)), .sh (.int x), .un, .sh (setD s), .un, .un]) (fun s => setD (s ++ [x])) (fun s hs => rfl) (fun s hs => ?_) ?_
        · unfold ce__law_asks_4
          have ea : addD (setD s) (.lst [.int x]) = some (setD (s ++ [x])) := by
            have := hel s hs
            show (if _ then some (D.lst (s.map D.int ++ [D.int x])) else none) = _
            rw [if_pos (by simp; omega)]
            unfold setD
            rw [List.map_append]; rfl
          simp [ea]
        have ea : addD (.lst (ss.map setD)) (.lst (ss.map fun s => setD (s ++ [x]))) = some (.lst ((ss ++ ss.map fun s => s ++ [x]).map setD)) := by
          rw [s_addL (by simp; omega), List.map_append, List.map_map]; rfl
        simp only [ea]
        exact ⟨_, rfl, hR _ _ ⟨rfl, _, rfl⟩⟩
    · rintro ρ u' ⟨rfl, a, rfl⟩
      refine ⟨rfl, a, ?_⟩
      rw [List.take_of_length_le (by simp), hsp]
  rintro ρ u' ⟨rfl, a, rfl⟩
  have hsz : (subsets (spotsI 0 evs)).length ≤ 4096 := by
    rw [subsets_len, hsl]
    exact Nat.pow_le_pow_right (n := 2) (by decide) (show nB evs ≤ 12 by omega)
  have hel : ∀ s ∈ subsets (spotsI 0 evs), s.length ≤ nB evs ∧ ∀ x ∈ s, ∃ (k : Nat) (b : Int), x = (k : Int) ∧ evs[k]? = some (.inl b) ∧ bAt evs x = b := fun s hs => by
    have hsub := (mem_subsets _ _).mp hs
    refine ⟨by rw [← hsl]; exact hsub.length_le, fun x hx => ?_⟩
    have hx' := hsub.subset hx
    rw [npos_spots] at hx'
    obtain ⟨k, hk, rfl⟩ := List.mem_map.mp hx'
    obtain ⟨e, ek, hk2⟩ := npos_mem.mp hk
    cases e with
    | inr q => cases hk2
    | inl b =>
      refine ⟨k, b, by omega, ek, ?_⟩
      unfold bAt
      rw [show ((0 : Int) + (k : Int)).toNat = k by omega, ek]
  have hfin : P (.lst (((List.range (nB evs + 1)).map fun k => opI (bst evs (subsets (spotsI 0 evs)) k)).drop 1)) u' := by
    have : ((List.range (nB evs + 1)).map fun k => opI (bst evs (subsets (spotsI 0 evs)) k)) = ((asked 0 evs).map Prod.fst).map D.int := by
      apply List.ext_getElem?
      intro k
      by_cases hk : k < nB evs + 1
      · rw [List.getElem?_map, List.getElem?_range hk, List.getElem?_map, List.getElem?_map, List.getElem?_eq_getElem (by rw [asked_len]; omega)]
        simp only [Option.map_some]
        rw [bst_all (by omega), List.getD_eq_getElem?_getD, List.getElem?_eq_getElem (by rw [asked_len]; omega)]
        rfl
      · rw [List.getElem?_eq_none (by simp; omega), List.getElem?_eq_none (by simp [asked_len]; omega)]
    rw [this, ← List.map_drop]; exact hp
  generalize hgs : subsets (spotsI 0 evs) = ss at hsz hel hfin ⊢
  refine seq_go fun K R hK hR => ?_
  have em : repO (.lst [D.non]) (.int ((nB evs : Int) + 1)) = some ((List.range (nB evs + 1)).map fun k => opI (bst evs [] k)) := by
    have e1 : ∀ n : Nat, (List.replicate n [D.non]).flatten = List.replicate n D.non := fun n => by
      induction n with
      | zero => rfl
      | succ n ih => rw [List.replicate_succ, List.flatten_cons, ih, List.replicate_succ]; rfl
    have e2 : ((List.range (nB evs + 1)).map fun k => opI (bst evs [] k)) = List.replicate (nB evs + 1) D.non := by
      apply List.ext_getElem?
      intro k
      rw [List.getElem?_map, List.getElem?_replicate]
      by_cases hk : k < nB evs + 1
      · rw [if_pos hk, List.getElem?_range hk]; rfl
      · rw [if_neg hk, List.getElem?_eq_none (by simp; omega)]; rfl
    have := e1 (nB evs + 1)
    rw [e2]
    simp only [repO]
    rw [show ((nB evs : Int) + 1).toNat = nB evs + 1 by omega, this]
    exact if_pos (by simp; omega)
  simp [hnn, em]
  refine hK _ _ ?_
  clear hK hR K R
  refine seq_cut (fun ρ u1 => u1 = u' ∧ ∃ a b c d, ρ = [.sh (.lst (evs.map evR)), .sh (.lst ((npos isB evs).map fun i => .int (i : Nat))), .sh (.lst ((npos notB evs).map fun i => .int (i : Nat))), .un, .un, .sh (.lst (ss.map setD)), a, (.ow ((List.range (nB evs + 1)).map fun j => opI (bst evs ss j))), b, c, d]) ?_ ?_
  · simp
    refine ok_list (ss.map setD) (fun k ρ u1 => u1 = u' ∧ ∃ a b c d, ρ = [.sh (.lst (evs.map evR)), .sh (.lst ((npos isB evs).map fun i => .int (i : Nat))), .sh (.lst ((npos notB evs).map fun i => .int (i : Nat))), .un, .un, .sh (.lst (ss.map setD)), a, (.ow ((List.range (nB evs + 1)).map fun j => opI (bst evs (ss.take k) j))), b, c, d]) ?_ ?_ _ _ ⟨rfl, a, .un, .un, .un, rfl⟩
    · rintro k dd ρ u1 e ⟨rfl, a, b, c, d, rfl⟩
      rw [List.getElem?_map] at e
      cases e2 : ss[k]? with
      | none => rw [e2] at e; cases e
      | some s =>
        rw [e2] at e
        cases e
        obtain ⟨hs1, hs2⟩ := hel s (List.mem_of_getElem? e2)
        have et : ss.take (k + 1) = ss.take k ++ [s] := by rw [List.take_succ, e2]; rfl
        rw [et]
        generalize ss.take k = done
        refine ⟨_, rfl, ?_⟩
        refine st_go fun R0 hR0 => ?_
        unfold lb__law_asks_7
        refine seq_go fun K R hK hR => ?_
        simp [setD]
        refine ⟨by omega, ?_⟩
        refine ok_lca (fun x => [.sh (.lst (evs.map evR)), .sh (.lst ((npos isB evs).map fun i => .int (i : Nat))), .sh (.lst ((npos notB evs).map fun i => .int (i : Nat))), .un, .un, .sh (.lst (ss.map setD)), .sh (.int x), (.ow ((List.range (nB evs + 1)).map fun j => opI (bst evs done j))), .sh (setD s), c, d]) (fun x => .int (bAt evs x)) (fun x hx => rfl) (fun x hx => ?_) ?_
        · obtain ⟨n, bb, rfl, h3, h4⟩ := hs2 x hx
          simp [hix n _ h3, h4]
          rfl
        have es1 : (s.map fun x => D.int (bAt evs x)) = (s.map (bAt evs)).map D.int := by rw [List.map_map]; rfl
        rw [es1]
        refine ⟨_, s_sumI, hK _ _ ?_⟩
        clear hK hR K R
        have hlv : lv 0 evs s = (s.map (bAt evs)).sum - ((npos notB evs).map fun k => wv evs k (s.filter fun d => decide ((k : Int) < d)).length).sum := by
          unfold lv
          rw [cut_pos]
          simp
        refine seq_cut (fun ρ u2 => u2 = u1 ∧ ∃ d, ρ = [.sh (.lst (evs.map evR)), .sh (.lst ((npos isB evs).map fun i => .int (i : Nat))), .sh (.lst ((npos notB evs).map fun i => .int (i : Nat))), .un, .un, .sh (.lst (ss.map setD)), a, (.ow ((List.range (nB evs + 1)).map fun j => opI (bst evs done j))), .sh (setD s), .sh (.int (lv 0 evs s)), d]) ?_ ?_
        · simp
          refine ok_list ((npos notB evs).map fun i => D.int (i : Nat)) (fun j ρ u2 => u2 = u1 ∧ ∃ d, ρ = [.sh (.lst (evs.map evR)), .sh (.lst ((npos isB evs).map fun i => .int (i : Nat))), .sh (.lst ((npos notB evs).map fun i => .int (i : Nat))), .un, .un, .sh (.lst (ss.map setD)), a, (.ow ((List.range (nB evs + 1)).map fun j => opI (bst evs done j))), .sh (setD s), .sh (.int ((s.map (bAt evs)).sum - (((npos notB evs).take j).map fun k => wv evs k (s.filter fun d => decide ((k : Int) < d)).length).sum)), d]) ?_ ?_ _ _ ⟨rfl, d, by simp [setD]⟩
          · rintro j dd ρ u2 e ⟨rfl, d, rfl⟩
            rw [List.getElem?_map] at e
            cases e3 : (npos notB evs)[j]? with
            | none => rw [e3] at e; cases e
            | some n =>
              rw [e3] at e
              cases e
              obtain ⟨ev, en, hnb⟩ := npos_mem.mp (List.mem_of_getElem? e3)
              have et : (npos notB evs).take (j + 1) = (npos notB evs).take j ++ [n] := by rw [List.take_succ, e3]; rfl
              rw [et, List.map_append, List.sum_append]
              generalize (((npos notB evs).take j).map fun k => wv evs k (s.filter fun d => decide ((k : Int) < d)).length).sum = T0
              generalize (s.map (bAt evs)).sum = S0
              refine ⟨_, rfl, ?_⟩
              refine st_go fun R1 hR1 => ?_
              unfold lb__law_asks_6
              have hx := hix n _ en
              cases ev with
              | inl bb => cases hnb
              | inr q =>
                have ewv : wv evs n (s.filter fun d => decide ((n : Int) < d)).length = wor q.1 q.2 (s.filter fun d => decide ((n : Int) < d)).length := by
                  unfold wv; rw [en]
                simp [hx, setD]
                refine ⟨by omega, ?_⟩
                refine ok_lcl (fun x => [.sh (.lst (evs.map evR)), .sh (.lst ((npos isB evs).map fun i => .int (i : Nat))), .sh (.lst ((npos notB evs).map fun i => .int (i : Nat))), .un, .un, .sh (.lst (ss.map setD)), .sh (.int x), (.ow ((List.range (nB evs + 1)).map fun j => opI (bst evs done j))), .sh (.lst (s.map D.int)), .sh (.int (S0 - T0)), .sh (.int n)]) (fun x => decide ((n : Int) < x)) (fun x => .int x) (fun x hx => rfl) (fun x hx => ?_) (fun x hx _ => ?_) ?_
                · simp
                · simp
                have hfl : (s.filter fun x => decide ((n : Int) < x)).length ≤ 12 := by
                  have := List.length_filter_le (fun x => decide ((n : Int) < x)) s
                  omega
                simp
                refine lworth_ok (q := q) (by omega) ?_
                refine ⟨_, s_sub, hR1 _ _ ⟨rfl, .sh (.int n), ?_⟩⟩
                simp [setD, ewv]
                omega
          · rintro ρ u2 ⟨rfl, d, rfl⟩
            refine ⟨rfl, d, ?_⟩
            rw [List.take_of_length_le (by simp), ← hlv]
        rintro ρ u2 ⟨rfl, d, rfl⟩
        have hlen : ((List.range (nB evs + 1)).map fun j => opI (bst evs done j)).length = nB evs + 1 := by simp
        have hat : atI ((List.range (nB evs + 1)).map fun j => opI (bst evs done j)) (s.length : Int) = some (opI (bst evs done s.length)) := at_nat (by rw [List.getElem?_map, List.getElem?_range (by omega)]; rfl)
        have hput : ixN ((List.range (nB evs + 1)).map fun j => opI (bst evs done j)).length (s.length : Int) = some s.length := by
          unfold ixN
          rw [if_pos (by omega), if_pos (by rw [hlen]; omega)]
          rfl
        have hset : ∀ w : Int, bup (bst evs done s.length) (lv 0 evs s) = some w → ((List.range (nB evs + 1)).map fun j => opI (bst evs done j)).set s.length (.int w) = (List.range (nB evs + 1)).map fun j => opI (bst evs (done ++ [s]) j) := fun w hw => by
          apply List.ext_getElem?
          intro j
          by_cases hj : j < nB evs + 1
          · rw [List.getElem?_map, List.getElem?_range hj]
            simp only [Option.map_some, bst_snoc]
            by_cases ej : s.length = j
            · subst ej
              rw [if_pos rfl, hw, List.getElem?_set_self (by rw [hlen]; exact hj)]
              rfl
            · rw [if_neg ej, List.getElem?_set_ne ej, List.getElem?_map, List.getElem?_range hj]
              rfl
          · rw [List.getElem?_eq_none (by simp; omega), List.getElem?_eq_none (by simp; omega)]
        have hsame : ∀ m : Int, bst evs done s.length = some m → ¬ m < lv 0 evs s → ((List.range (nB evs + 1)).map fun j => opI (bst evs done j)) = (List.range (nB evs + 1)).map fun j => opI (bst evs (done ++ [s]) j) := fun m hm hle => by
          apply List.map_congr_left
          intro j _
          rw [bst_snoc]
          by_cases ej : s.length = j
          · subst ej
            rw [if_pos rfl, hm]
            show _ = opI (if m < lv 0 evs s then some (lv 0 evs s) else some m)
            rw [if_neg hle]
          · rw [if_neg ej]
        have lens : lenD [setD s] = some (.int s.length) := by unfold setD; simp
        generalize hfd : ((List.range (nB evs + 1)).map fun j => opI (bst evs done j)) = fd at hat hput hset hsame hlen ⊢
        cases hbs : bst evs done s.length with
        | none =>
          rw [hbs] at hat hset
          have e5 : isD (opI none) .non = some (.bl true) := rfl
          simp [lens, hat, e5]
          rw [hput]
          simp
          exact hR0 _ _ ⟨rfl, _, _, _, _, by rw [hset _ rfl]⟩
        | some m =>
          rw [hbs] at hat hset
          have e5 : isD (.int m) .non = some (.bl false) := rfl
          have e6 : opI (some m) = .int m := rfl
          simp [lens, hat, e5, e6]
          refine brd (fun z => ?_) (fun z => ?_)
          · rw [hput]
            simp
            exact hR0 _ _ ⟨rfl, _, _, _, _, by rw [hset _ (if_pos z)]⟩
          · exact hR0 _ _ ⟨rfl, _, _, _, _, by rw [← hsame m hbs z]⟩
    · rintro ρ u1 ⟨rfl, a, b, c, d, rfl⟩
      refine ⟨rfl, a, b, c, d, ?_⟩
      rw [List.take_of_length_le (by simp)]
  · rintro ρ u1 ⟨rfl, a, b, c, d, rfl⟩
    simp
    rw [show (1 : Int) = ((1 : Nat) : Int) from rfl, cut_from]
    exact hfin
end S3

set_option Elab.async false
set_option linter.all false
set_option maxRecDepth 100000
set_option maxHeartbeats 4000000
/-! S3p: names, the pot of a number, the least raise. -/
namespace S3
open PySem L2 Mi P20 Sh
/-! ### the pot of a number -/
theorem pot_ok {ns : List Int} {k : Nat} (hk : k < 100) {u : PuS} {P : List D → PuS → Prop} (h : ∀ d s : Int, 0 ≤ s → s < 2305843009213693951 → P ([d, s, 0].map D.int) u) : Ok (mfL__law_pot [.scr ns, .int k]) u P := by
  unfold mfL__law_pot mbL__law_pot
  have e1 : cutD (ns.map D.int) none (some 4) = (ns.take 4).map D.int := by rw [show (4 : Int) = ((4 : Nat) : Int) from rfl, cut_to, List.map_take]
  have fin : ∀ (n : Int) (t : Sd), Ok (mSeq (mSet 4 (mIf (mB (mBin geD (mCB absD (mCons (mVar 2) (mNil))) (mBin powD (mC (.int 10)) (mC (.int 18))))) (mCB absD (mCons (mVar 2) (mNil))) (mC (.int 0)))) (mRetL (mLstO (mCons (mVar 4) (mCons (mBin modD (mCB int1D (mCons (mBin addD (mBin addD (mBin mulD (mVar 2) (mC (.int 6364136223846799))) (mBin mulD (mC (.int 977)) (mVar 1))) (mC (.int 12345))) (mNil))) (mC (.int 2305843009213693951))) (mCons (mC (.int 0)) (mNil)))))) [.sh (.scr ns), .sh (.int k), .sh (.int n), t, .un]) u fun f u1 => match f with
      | .rl d => P d u1
      | _ => False := fun n t => by
    have e4 : ∀ n : Int, absD [.int n] = some (.int (if n < 0 then -n else n)) := fun n => rfl
    have hh : ∀ a : Int, 0 ≤ a % 2305843009213693951 ∧ a % 2305843009213693951 < 2305843009213693951 := fun a => by omega
    simp [e4]
    refine brd (fun _ => ?_) (fun _ => ?_)
    · exact h _ _ (hh _).1 (hh _).2
    · exact h _ _ (hh _).1 (hh _).2
  simp only [ok_fnL, s_start, List.map_cons, List.map_nil, List.length_cons, List.length_nil, List.cons_append, List.nil_append, List.replicate]
  refine seq_go fun K R hK hR => ?_
  simp
  refine brd (fun hl => ?_) (fun hl => ?_)
  · have e5 : atI ns (k : Int) = some ns[k] := at_nat (List.getElem?_eq_getElem hl)
    simp [e5]
    refine hK _ _ ?_
    clear hK hR K R
    refine seq_go fun K R hK hR => ?_
    simp
    refine brd (fun hz => absurd hl (by omega)) (fun hz => ?_)
    refine hK _ _ ?_
    exact fin _ _
  · refine hK _ _ ?_
    clear hK hR K R
    refine seq_cut (fun ρ u' => u' = u ∧ ∃ (s : Int) (t : Sd), ρ = [.sh (.scr ns), .sh (.int k), .sh (.int s), t, .un]) ?_ ?_
    · simp
      refine brd (fun hz => ?_) (fun hz => absurd hl (by omega))
      rw [e1]
      refine ok_list ((ns.take 4).map D.int) (fun _ ρ u' => u' = u ∧ ∃ (s : Int) (t : Sd), ρ = [.sh (.scr ns), .sh (.int k), .sh (.int s), t, .un]) ?_ ?_ _ _ ⟨rfl, _, _, rfl⟩
      · rintro j d ρ u' e ⟨rfl, s, t, rfl⟩
        rw [List.getElem?_map] at e
        cases e2 : (ns.take 4)[j]? with
        | none => rw [e2] at e; cases e
        | some x =>
          rw [e2] at e
          cases e
          simp
      · exact fun ρ u' h => h
    rintro ρ u' ⟨rfl, s, t, rfl⟩
    exact fin s t
/-! ### the least raise -/
/-! ### the least card and the raise of 0/1 -/
end S3

set_option Elab.async false
set_option linter.all false
set_option maxRecDepth 100000
set_option maxHeartbeats 4000000
/-! S3q: the drawn events of the third family, with bounds. -/
namespace S3
open PySem L2 Mi P20 Sh
def b1 (T b : Int) : Prop := 0 ≤ b ∧ b ≤ T + 100000000000000000000000000003
def b2 (T b : Int) : Prop := 0 ≤ b ∧ b ≤ T + 300000000000000000000000000000
def evB (T : Int) : Ev → Prop
  | .inl x => b2 T x
  | .inr q => 1 ≤ q.2 ∧ 0 ≤ q.1 ∧ q.1 ≤ 24 * q.2
theorem evB.ok {T : Int} {e : Ev} (h : evB T e) : evOk e := by
  cases e with
  | inl x => exact h.1
  | inr q => exact h
end S3

set_option Elab.async false
set_option linter.all false
set_option maxRecDepth 100000
set_option maxHeartbeats 4000000
/-! ShWl: what number_at, sums_for, both_sums, at_most, Form.within answer. -/
namespace Sh
open PySem L2 Mi P20
theorem number_at_ok {row : List Int} {k : Nat} {u : PuS} {P : D → PuS → Prop} (h : P (.int (row.getD k 0)) u) : Ok (mf_number_at [.tup (row.map D.int), .int k]) u P := by
  unfold mf_number_at mb_number_at
  simp
  refine brd (fun z => ?_) (fun z => ?_)
  · have z' : k < row.length := by omega
    have e : row[k]? = some row[k] := List.getElem?_eq_getElem z'
    rw [getI e]
    simp
    rw [List.getD_eq_getElem?_getD, e] at h
    exact h
  · rw [List.getD_eq_getElem?_getD, List.getElem?_eq_none (by omega)] at h
    exact h
end Sh


set_option Elab.async false
set_option linter.all false
set_option maxRecDepth 100000
set_option maxHeartbeats 4000000
namespace G57
open PySem L2 Mi P20 Sh S3
def rowL (L : List Int) : D := .lst (L.map D.int)
/-! ### tables joined -/
def mlen : List (List Int) → Nat
  | [] => 0
  | L :: Ls => max L.length (mlen Ls)
def jmx (Ls : List (List Int)) (k : Nat) : Int := maxL ((Ls.filter fun L => decide (k < L.length)).map fun L => L.getD k 0)
def J (Ls : List (List Int)) : List Int := (List.range (mlen Ls)).map (jmx Ls)
theorem J_len (Ls : List (List Int)) : (J Ls).length = mlen Ls := by unfold J; simp
theorem mlen_le {n : Nat} : ∀ {Ls : List (List Int)}, (∀ L ∈ Ls, L.length ≤ n) → mlen Ls ≤ n
  | [], _ => Nat.zero_le _
  | L :: Ls, h => by
    have h1 := h L List.mem_cons_self
    have h2 := mlen_le (Ls := Ls) fun x hx => h x (List.mem_cons_of_mem _ hx)
    show max L.length (mlen Ls) ≤ n
    omega
theorem mlen_has : ∀ {Ls : List (List Int)} {k : Nat}, k < mlen Ls → ∃ L ∈ Ls, k < L.length
  | [], k, h => absurd h (Nat.not_lt_zero k)
  | L :: Ls, k, h => by
    have h : k < max L.length (mlen Ls) := h
    by_cases h1 : k < L.length
    · exact ⟨L, List.mem_cons_self, h1⟩
    · obtain ⟨M, hM, h2⟩ := mlen_has (Ls := Ls) (k := k) (by omega)
      exact ⟨M, List.mem_cons_of_mem _ hM, h2⟩
theorem jcol {Ls : List (List Int)} {k : Nat} (h : k < mlen Ls) : maxD [.lst ((((Ls.filter fun L => decide (k < L.length)).map fun L => L.getD k 0)).map D.int)] = some (.int (jmx Ls k)) := by
  obtain ⟨L, hL, hk⟩ := mlen_has h
  have hm : L ∈ Ls.filter fun L => decide (k < L.length) := List.mem_filter.mpr ⟨hL, decide_eq_true hk⟩
  unfold jmx
  generalize Ls.filter (fun L => decide (k < L.length)) = F at hm
  cases F with
  | nil => cases hm
  | cons a l => exact s_maxL
theorem maxL_lens : ∀ Ls : List (List Int), maxL (0 :: Ls.map fun L => (L.length : Int)) = (mlen Ls : Int) :=
  fun Ls => by
    have h1 := maxL_mem (ns := 0 :: Ls.map fun L => (L.length : Int)) (by simp)
    have h2 : ∀ L ∈ Ls, L.length ≤ mlen Ls := by
      clear h1
      induction Ls with
      | nil => exact fun L hL => by cases hL
      | cons M Ms ih =>
        intro L hL
        show L.length ≤ max M.length (mlen Ms)
        rcases List.mem_cons.mp hL with rfl | hL
        · omega
        · have := ih L hL
          omega
    have h3 : (mlen Ls : Int) ∈ (0 : Int) :: Ls.map fun L => (L.length : Int) := by
      clear h1 h2
      induction Ls with
      | nil => exact List.mem_cons_self
      | cons M Ms ih =>
        have e : mlen (M :: Ms) = max M.length (mlen Ms) := rfl
        rw [e]
        rcases Nat.le_total M.length (mlen Ms) with h | h
        · rw [Nat.max_eq_right h]
          rcases List.mem_cons.mp ih with z | z
          · rw [z]; exact List.mem_cons_self
          · exact List.mem_cons_of_mem _ (List.mem_cons_of_mem _ z)
        · rw [Nat.max_eq_left h]
          exact List.mem_cons_of_mem _ List.mem_cons_self
    have h4 := h1.2 _ h3
    have h5 : maxL (0 :: Ls.map fun L => (L.length : Int)) ≤ (mlen Ls : Int) := by
      rcases List.mem_cons.mp h1.1 with z | z
      · omega
      · obtain ⟨L, hL, e⟩ := List.mem_map.mp z
        have := h2 L hL
        omega
    omega
theorem joined_ok {Ls : List (List Int)} (hn : Ls.length ≤ 100) (hl : ∀ L ∈ Ls, L.length ≤ 100) {u : PuS} {P : D → PuS → Prop} (h : P (rowL (J Ls)) u) : Ok (mf__law_joined [.lst (Ls.map rowL)]) u P := by
  have hm := mlen_le hl
  unfold mf__law_joined mb__law_joined
  rw [ok_fn]
  refine seq_go fun K R hK hR => ?_
  simp
  refine ⟨by omega, ?_⟩
  refine ok_lca (xs := Ls) (f := rowL) (fun L => [.sh (.lst (Ls.map rowL)), .un, .sh (rowL L), .un]) (fun L => .int (L.length : Int)) (fun L hL => rfl) (fun L hL => ?_) ?_
  · have el : lenD [rowL L] = some (.int (L.length : Int)) := by show some (D.int ((L.map D.int).length : Int)) = _; rw [List.length_map]
    simp [el]
  have em : Ls.map (fun L => D.int (L.length : Int)) = (Ls.map fun L => (L.length : Int)).map D.int := by rw [List.map_map]; rfl
  rw [em]
  have ea : addD (.lst [.int 0]) (.lst ((Ls.map fun L => (L.length : Int)).map D.int)) = some (.lst ((0 :: Ls.map fun L => (L.length : Int)).map D.int)) := if_pos (by simp; omega)
  refine ⟨_, ea, _, s_maxL, hK _ _ ?_⟩
  clear hK hR K R
  rw [maxL_lens]
  simp
  refine ⟨by omega, by rw [rngD_len]; omega, ?_⟩
  rw [rngD_zero]
  refine ok_lca (xs := List.range (mlen Ls)) (f := fun k : Nat => D.int (k : Nat)) (fun k => [.sh (.lst (Ls.map rowL)), .sh (.int (mlen Ls : Int)), .un, .sh (.int (k : Int))]) (fun k => .int (jmx Ls k)) (fun k hk => rfl) (fun k hk => ?_) ?_
  · unfold ce__law_joined_2
    simp
    refine ⟨by omega, ?_⟩
    refine ok_lcm (xs := Ls) (f := rowL) (fun L => [.sh (.lst (Ls.map rowL)), .sh (.int (mlen Ls : Int)), .sh (rowL L), .sh (.int (k : Int))]) (fun L => decide (k < L.length)) (fun L => .int (L.getD k 0)) (fun L hL => rfl) (fun L hL => ?_) (fun L hL ht => ?_) ?_
    · have el : lenD [rowL L] = some (.int (L.length : Int)) := by show some (D.int ((L.map D.int).length : Int)) = _; rw [List.length_map]
      unfold ct__law_joined_1
      simp [el]
    · have hk2 : k < L.length := of_decide_eq_true ht
      have ei : ixD (rowL L) (.int (k : Int)) = some (.int (L.getD k 0)) := at_nat (by rw [List.getElem?_map, List.getElem?_eq_getElem hk2]; simp [List.getElem?_eq_getElem hk2])
      simp [ei]
    · have e2 : (Ls.filter fun L => decide (k < L.length)).map (fun L => D.int (L.getD k 0)) = ((Ls.filter fun L => decide (k < L.length)).map fun L => L.getD k 0).map D.int := by rw [List.map_map]; rfl
      rw [e2]
      exact ⟨_, jcol (List.mem_range.mp hk), rfl, rfl⟩
  · have e3 : (List.range (mlen Ls)).map (fun k => D.int (jmx Ls k)) = (J Ls).map D.int := by unfold J; rw [List.map_map]; rfl
    rw [e3]
    exact h
/-! ### the least row -/
theorem lleast_ok {ns : List Int} (hl : ns.length ≤ 24) {u : PuS} {P : D → PuS → Prop} (hp : ∀ row, Least 0 ns row → P (rowL row) u) : Ok (mf__law_least [rowL ns]) u P := by
  have e_len : lenD [rowL ns] = some (.int ns.length) := by show some (D.int ((ns.map D.int).length : Int)) = _; rw [List.length_map]
  have e_ix : ∀ i : Int, ixD (rowL ns) (.int i) = atI (ns.map D.int) i := fun _ => rfl
  generalize hdd : rowL ns = dd at e_len e_ix ⊢
  unfold mf__law_least mb__law_least
  simp [e_len]
  refine ⟨by omega, ?_⟩
  refine ok_range 0 ns.length (fun k ρ u' => u' = u ∧ ∃ (pre : List Int) (t : Int) (b c d : Sd), pre.length = k ∧ (∀ row, Least t (ns.drop k) row → Least 0 ns (pre ++ row)) ∧ ρ = [.sh dd, .ow (pre.map D.int), .sh (.int t), b, c, d]) ?_ ?_ _ _ ⟨rfl, [], 0, _, _, _, rfl, fun row h => h, rfl⟩
  · rintro k ρ u' hk ⟨rfl, pre, t, b, c, d, hpre, hrow, rfl⟩
    unfold lb__law_least_2
    simp [mBorLs, e_len]
    refine ⟨by omega, by rw [rngD_len]; omega, ?_⟩
    refine ok_lcr (fun i => [.sh dd, .ow (pre.map D.int), .sh (.int t), .sh (.int k), c, .sh (.int (k + (i : Nat)))]) (fun _ => true) (fun i => .int (nd ns k t i)) ?_ ?_ ?_ ?_
    · intro i hi; rfl
    · intro i hi; simp
    · intro i hi _
      unfold ce__law_least_1
      have ei : ns[k + i]? = some ns[k + i] := List.getElem?_eq_getElem (by omega)
      have e1 : atI (ns.map D.int) ((k : Int) + (i : Int)) = some (.int ns[k + i]) := by
        have := getI ei
        rwa [show ((k + i : Nat) : Int) = (k : Int) + (i : Int) by omega] at this
      have e2 : (ns.drop k).getD i 0 = ns[k + i] := by
        rw [List.getD_eq_getElem?_getD, List.getElem?_drop, ei]; rfl
      have e3 : fdivC (t - ns[k + i]) ((k : Int) + (i : Int) - (k : Int) + 1) = true := fdivC_small (by omega)
      have e4 : nd ns k t i = -((t - ns[k + i]) / ((k : Int) + (i : Int) - (k : Int) + 1)) := by
        unfold nd need
        rw [e2, show (k : Int) + (i : Int) - (k : Int) + 1 = (i : Int) + 1 by omega]
      rw [e4]
      simp [e_ix, e1, e3]
    · rw [List.filter_eq_self.mpr (fun _ _ => rfl)]
      obtain ⟨m, hm⟩ : ∃ m, ns.length - k = m + 1 := ⟨ns.length - k - 1, by omega⟩
      rw [hm]
      have eL : (List.range (m + 1)).map (fun i => D.int (nd ns k t i)) = ((List.range (m + 1)).map (nd ns k t)).map D.int := by rw [List.map_map]; rfl
      obtain ⟨n0, nr, eC⟩ : ∃ n0 nr, (List.range (m + 1)).map (nd ns k t) = n0 :: nr := by
        rw [List.range_succ_eq_map, List.map_cons]
        exact ⟨_, _, rfl⟩
      rw [eL, eC]
      obtain ⟨hm1, hm2⟩ := maxL_mem (ns := n0 :: nr) (by simp)
      have hmax : IsMax (maxL (n0 :: nr)) t (ns.drop k) := by
        constructor
        · rw [← eC] at hm1
          obtain ⟨i, hi, e⟩ := List.mem_map.mp hm1
          have hi := List.mem_range.mp hi
          refine ⟨i, (ns.drop k).getD i 0, ?_, by rw [← eC]; exact e.symm⟩
          rw [List.getD_eq_getElem?_getD, List.getElem?_drop, List.getElem?_eq_getElem (by omega)]; rfl
        · intro i s e
          refine hm2 _ ?_
          rw [← eC]
          have hi : i < m + 1 := by
            have := (List.getElem?_eq_some_iff.mp e).1
            simp at this
            omega
          refine List.mem_map.mpr ⟨i, List.mem_range.mpr hi, ?_⟩
          unfold nd
          rw [List.getD_eq_getElem?_getD, e]; rfl
      refine ⟨.int (maxL (n0 :: nr)), s_maxL, ?_⟩
      by_cases hz : maxL (n0 :: nr) ≤ 0
      · simp [hz]
        have := hrow [] (.stop hmax hz)
        rw [List.append_nil] at this
        first | exact hp _ this | exact ⟨rfl, hp _ this⟩ | trace_state
      · have e0 : ns.drop k = ns[k] :: ns.drop (k + 1) := List.drop_eq_getElem_cons hk
        simp [hz]
        refine ⟨by omega, pre ++ [maxL (n0 :: nr)], by simp [hpre], fun row hr => ?_, by simp⟩
        have := hrow (maxL (n0 :: nr) :: row) (by rw [e0] at hmax ⊢; exact .more hmax (by omega) hr)
        simpa using this
  · rintro ρ u' ⟨rfl, pre, t, b, c, d, hpre, hrow, rfl⟩
    simp
    have := hrow [] (by rw [List.drop_eq_nil_of_le (Nat.le_refl _)]; exact .nil t)
    rw [List.append_nil] at this
    exact hp _ this
end G57

set_option Elab.async false
set_option linter.all false
set_option maxRecDepth 100000
set_option maxHeartbeats 4000000
namespace G57
open PySem L2 Mi P20 Sh S3
theorem rowL_len (L : List Int) : lenD [rowL L] = some (.int (L.length : Int)) := by show some (D.int ((L.map D.int).length : Int)) = _; rw [List.length_map]
theorem rowL_at {L : List Int} {k : Nat} (h : k < L.length) : ixD (rowL L) (.int (k : Int)) = some (.int (L.getD k 0)) := at_nat (by rw [List.getElem?_map, List.getElem?_eq_getElem h]; simp [List.getElem?_eq_getElem h])
noncomputable def LR (ns : List Int) : List Int := open Classical in if h : ∃ row, Least 0 ns row then h.choose else []
theorem LR_is {ns row : List Int} (h : Least 0 ns row) : row = LR ns := by
  unfold LR
  rw [dif_pos ⟨row, h⟩]
  exact h.uniq (Exists.choose_spec (⟨row, h⟩ : ∃ row, Least 0 ns row))
theorem lleast {ns : List Int} (hl : ns.length ≤ 24) {u : PuS} {P : D → PuS → Prop} (h : Least 0 ns (LR ns) → P (rowL (LR ns)) u) : Ok (mf__law_least [rowL ns]) u P :=
  lleast_ok hl fun row hr => by
    have e := LR_is hr
    rw [e] at hr ⊢
    exact h hr
theorem pleast {ns : List Int} (hl : ns.length ≤ 24) {u : PuS} {P : D → PuS → Prop} (h : Least 0 ns (LR ns) → P (.tup ((LR ns).map D.int)) u) : Ok (mf_least_row [rowL ns]) u P :=
  least_row_lst hl fun row hr => by
    have e := LR_is hr
    rw [e] at hr ⊢
    exact h hr
/-! ### paying -/
def Pays (row L : List Int) : Prop := ∀ k, k < L.length → L.getD k 0 ≤ sumN row (k + 1)
instance (row L : List Int) : Decidable (Pays row L) := inferInstanceAs (Decidable (∀ k, k < L.length → L.getD k 0 ≤ sumN row (k + 1)))
theorem sum_tk : ∀ (row : List Int) (n : Nat), (row.take n).sum = sumN row n
  | [], n => by rw [sumN_nil]; simp
  | x :: row, 0 => rfl
  | x :: row, n + 1 => by
    rw [List.take_succ_cons, List.sum_cons, sum_tk row n]
    rfl
theorem sumR {row : List Int} {k : Nat} : sumD [.lst (cutD (row.map D.int) none (some ((k : Int) + 1)))] = some (.int (sumN row (k + 1))) := by
  have e : ((k : Int) + 1) = ((k + 1 : Nat) : Int) := rfl
  rw [e, cut_to, ← List.map_take, ← sum_tk]
  generalize row.take (k + 1) = ns
  show (intsD (ns.map D.int)).map _ = _
  rw [intsD_map]
  rfl
theorem allF {α : Type} (f : α → Bool) (l : List α) : allD [.lst (l.map fun w => D.bl (f w))] = some (.bl (l.all f)) := by
  have e2 : l.map (fun w => D.bl (f w)) = (l.map f).map D.bl := by rw [List.map_map]; rfl
  rw [e2]
  show (blsD _).map (fun bs => D.bl (bs.all id)) = _
  rw [blsD_map]
  simp [List.all_map]
theorem anyF {α : Type} (f : α → Bool) (l : List α) : anyD [.lst (l.map fun w => D.bl (f w))] = some (.bl (l.any f)) := by
  have e2 : l.map (fun w => D.bl (f w)) = (l.map f).map D.bl := by rw [List.map_map]; rfl
  rw [e2]
  show (blsD _).map (fun bs => D.bl (bs.any id)) = _
  rw [blsD_map]
  simp [List.any_map]
theorem pays_ok {row L : List Int} (hl : L.length ≤ 100) {u : PuS} {P : D → PuS → Prop} (h : P (.bl (decide (Pays row L))) u) : Ok (mf__law_row_pays [rowL row, rowL L]) u P := by
  unfold mf__law_row_pays mb__law_row_pays
  rw [ok_fn]
  simp [rowL_len]
  refine ⟨by omega, by rw [rngD_len]; omega, ?_⟩
  rw [rngD_zero]
  refine ok_lca (xs := List.range L.length) (f := fun k : Nat => D.int (k : Nat)) (fun k => [.sh (rowL row), .sh (rowL L), .sh (.int (k : Int))]) (fun k => .bl (decide (L.getD k 0 ≤ sumN row (k + 1)))) (fun k hk => rfl) (fun k hk => ?_) ?_
  · have hk2 := List.mem_range.mp hk
    unfold ce__law_row_pays_1
    have es : slD (rowL row) none (some ((k : Int) + 1)) = some (.lst (cutD (row.map D.int) none (some ((k : Int) + 1)))) := rfl
    simp [rowL_at hk2, es]
    exact ⟨_, sumR, by simp⟩
  · refine ⟨_, allF _ _, ?_⟩
    have e : (List.range L.length).all (fun k => decide (L.getD k 0 ≤ sumN row (k + 1))) = decide (Pays row L) := by
      rw [Bool.eq_iff_iff, List.all_eq_true]
      unfold Pays
      simp
    rw [e]
    exact h
def rowT (row : List Int) : D := .tup (row.map D.int)
theorem reaches_ok {row L : List Int} (hl : L.length ≤ 100) {u : PuS} {P : D → PuS → Prop} (h : P (.bl (decide (Pays row L))) u) : Ok (mf_reaches [rowT row, rowL L]) u P := by
  unfold mf_reaches mb_reaches
  rw [ok_fn]
  refine seq_go fun K R hK hR => ?_
  simp
  refine hK _ _ ?_
  clear hK hR K R
  have ee : enumA [rowL L] = some (enumD (L.map D.int)) := rfl
  refine seq_cut (fun ρ u' => u' = u ∧ Pays row L ∧ ∃ a b c : Sd, ρ = [.sh (rowT row), .sh (rowL L), a, b, c]) ?_ ?_
  · simp [ee]
    refine ok_list (enumD (L.map D.int)) (fun k ρ u' => u' = u ∧ (∀ j, j < k → L.getD j 0 ≤ sumN row (j + 1)) ∧ ∃ b c : Sd, ρ = [.sh (rowT row), .sh (rowL L), .sh (.int (sumN row k)), b, c]) ?_ ?_ _ _ ⟨rfl, fun j hj => absurd hj (Nat.not_lt_zero j), _, _, by cases row <;> rfl⟩
    · rintro k d ρ u' e ⟨rfl, hp, b, c, rfl⟩
      obtain ⟨x, ex, rfl⟩ := Mi.enumD_at e
      rw [List.getElem?_map] at ex
      cases e2 : L[k]? with
      | none => rw [e2] at ex; cases ex
      | some s =>
        rw [e2] at ex
        cases ex
        have hkl := (List.getElem?_eq_some_iff.mp e2).1
        have hs : L.getD k 0 = s := by rw [List.getD_eq_getElem?_getD, e2]; rfl
        refine ⟨_, rfl, ?_⟩
        refine st_go fun R0 hR0 => ?_
        unfold lb_reaches_1
        refine seq_go fun K R hK hR => ?_
        unfold rowT
        simp
        refine number_at_ok ?_
        refine ⟨_, rfl, hK _ _ ?_⟩
        clear hK hR K R
        have es : sumN row k + row.getD k 0 = sumN row (k + 1) := (sumN_app k row).symm
        rw [es]
        simp
        refine brd (fun z => ?_) (fun z => ?_)
        · have hf : ¬ Pays row L := fun hh => by
            have := hh k hkl
            rw [hs] at this
            omega
          rw [decide_eq_false hf] at h
          exact hR0 (.rt _) _ h
        · refine hR0 (.nx _) _ ⟨rfl, fun j hj => ?_, _, _, rfl⟩
          by_cases hjk : j = k
          · subst hjk
            rw [hs]
            omega
          · exact hp j (by omega)
    · rintro ρ u' ⟨rfl, hp, b, c, rfl⟩
      rw [Mi.enumD_len, List.length_map] at hp
      exact ⟨rfl, hp, _, _, _, rfl⟩
  rintro ρ u' ⟨rfl, hp, a, b, c, rfl⟩
  rw [decide_eq_true hp] at h
  simp
  exact h
/-! ### courses -/
def crs (es : List (List Ev)) : D := .tup (es.map courD)
def Eo (es : List (List Ev)) : Prop := (∀ e ∈ es, EvsOk e) ∧ es.length ≤ 8
def as_ (es : List (List Ev)) : List (List Int) := es.map asks
theorem a12 {e : List Ev} (h : EvsOk e) : (asks e).length ≤ 12 := by
  rw [asks_len]
  exact h.bills
theorem as_len {es : List (List Ev)} (h : Eo es) : ∀ L ∈ as_ es, L.length ≤ 12 := fun L hL => by
  obtain ⟨e, he, rfl⟩ := List.mem_map.mp hL
  exact a12 (h.1 e he)
theorem evs_ok {e : List Ev} {u : PuS} {P : D → PuS → Prop} (h : P (.tup (e.map evD)) u) : Ok (mf_Course_events [courD e]) u P := by
  unfold mf_Course_events mb_Course_events courD
  simp
  exact h
theorem askedc {e : List Ev} (he : EvsOk e) {u : PuS} {P : D → PuS → Prop} (h : P (rowL (asks e)) u) : Ok (mf_asked [.tup (e.map evD)]) u P := asked_ok (by have := he.len; omega) h
theorem most_ok {es : List (List Ev)} (h : Eo es) {u : PuS} {P : D → PuS → Prop} (k : P (rowL (J (as_ es))) u) : Ok (mf_most_asked [crs es]) u P := by
  have hl := h.2
  have hm := mlen_le (as_len h)
  have hal : (as_ es).length = es.length := List.length_map _
  unfold mf_most_asked mb_most_asked crs
  rw [ok_fn]
  refine seq_go fun K R hK hR => ?_
  simp
  refine ⟨by omega, ?_⟩
  refine ok_lca (xs := es) (f := courD) (fun e => [.sh (.tup (es.map courD)), .un, .un, .sh (courD e), .un, .un]) (fun e => rowL (asks e)) (fun e he => rfl) (fun e he => ?_) ?_
  · unfold ce_most_asked_1
    simp
    refine ⟨_, _, rfl, evs_ok (askedc (h.1 e he) ⟨rfl, rfl⟩)⟩
  have e1 : es.map (fun e => rowL (asks e)) = (as_ es).map rowL := by unfold as_; rw [List.map_map]; rfl
  rw [e1]
  refine hK _ _ ?_
  clear hK hR K R
  refine seq_go fun K R hK hR => ?_
  simp
  refine ⟨by omega, ?_⟩
  refine ok_lca (xs := as_ es) (f := rowL) (fun L => [.sh (.tup (es.map courD)), .sh (.lst ((as_ es).map rowL)), .un, .un, .sh (rowL L), .un]) (fun L => .int (L.length : Int)) (fun L hL => rfl) (fun L hL => ?_) ?_
  · simp [rowL_len]
  have em : (as_ es).map (fun L => D.int (L.length : Int)) = ((as_ es).map fun L => (L.length : Int)).map D.int := by rw [List.map_map]; rfl
  rw [em]
  have ed : maxDf 0 [.lst (((as_ es).map fun L => (L.length : Int)).map D.int)] = some (.int (mlen (as_ es) : Int)) := by
    have e0 := maxL_lens (as_ es)
    have hnn : ∀ x ∈ (as_ es).map (fun L => (L.length : Int)), (0 : Int) ≤ x := fun x hx => by
      obtain ⟨L, _, rfl⟩ := List.mem_map.mp hx
      omega
    have e1 : mxD 0 ((as_ es).map fun L => (L.length : Int)) = (mlen (as_ es) : Int) := by
      obtain ⟨m1, m2, m3⟩ := mxD_spec hnn
      obtain ⟨n1, n2⟩ := maxL_mem (ns := 0 :: (as_ es).map fun L => (L.length : Int)) (by simp)
      rw [e0] at n1 n2
      have h1 : (mlen (as_ es) : Int) ≤ mxD 0 ((as_ es).map fun L => (L.length : Int)) := by
        rcases List.mem_cons.mp n1 with z | z
        · omega
        · exact m2 _ z
      have h2 : mxD 0 ((as_ es).map fun L => (L.length : Int)) ≤ (mlen (as_ es) : Int) := by
        by_cases z : mxD 0 ((as_ es).map fun L => (L.length : Int)) = 0
        · omega
        · exact n2 _ (List.mem_cons_of_mem _ (m3 z))
      omega
    show (intsD (((as_ es).map fun L => (L.length : Int)).map D.int)).map _ = _
    rw [intsD_map]
    show some (D.int (mxD 0 _)) = _
    rw [e1]
  refine ⟨_, ed, hK _ _ ?_⟩
  clear hK hR K R
  simp
  refine ⟨by omega, by rw [rngD_len]; omega, ?_⟩
  rw [rngD_zero]
  refine ok_lca (xs := List.range (mlen (as_ es))) (f := fun k : Nat => D.int (k : Nat)) (fun k => [.sh (.tup (es.map courD)), .sh (.lst ((as_ es).map rowL)), .sh (.int (mlen (as_ es) : Int)), .un, .un, .sh (.int (k : Int))]) (fun k => .int (jmx (as_ es) k)) (fun k hk => rfl) (fun k hk => ?_) ?_
  · unfold ce_most_asked_3
    simp
    refine ⟨by omega, ?_⟩
    refine ok_lcm (xs := as_ es) (f := rowL) (fun L => [.sh (.tup (es.map courD)), .sh (.lst ((as_ es).map rowL)), .sh (.int (mlen (as_ es) : Int)), .un, .sh (rowL L), .sh (.int (k : Int))]) (fun L => decide (k < L.length)) (fun L => .int (L.getD k 0)) (fun L hL => rfl) (fun L hL => ?_) (fun L hL ht => ?_) ?_
    · unfold ct_most_asked_2
      simp [rowL_len]
    · have hk2 : k < L.length := of_decide_eq_true ht
      simp [rowL_at hk2]
    · have e2 : ((as_ es).filter fun L => decide (k < L.length)).map (fun L => D.int (L.getD k 0)) = (((as_ es).filter fun L => decide (k < L.length)).map fun L => L.getD k 0).map D.int := by rw [List.map_map]; rfl
      rw [e2]
      exact ⟨_, jcol (List.mem_range.mp hk), rfl, rfl⟩
  · have e3 : (List.range (mlen (as_ es))).map (fun k => D.int (jmx (as_ es) k)) = (J (as_ es)).map D.int := by unfold J; rw [List.map_map]; rfl
    rw [e3]
    exact k
theorem leastof_ok {es : List (List Ev)} (h : Eo es) {u : PuS} {P : D → PuS → Prop} (k : Least 0 (J (as_ es)) (LR (J (as_ es))) → P (rowT (LR (J (as_ es)))) u) : Ok (mf_least_of [crs es]) u P := by
  have hm := mlen_le (as_len h)
  unfold mf_least_of mb_least_of
  simp
  refine most_ok h ?_
  exact pleast (by rw [J_len]; omega) k
end G57

set_option Elab.async false
set_option linter.all false
set_option maxRecDepth 100000
set_option maxHeartbeats 4000000
namespace G57
open PySem L2 Mi P20 Sh S3
def pk (row : List Int) (Ls : List (List Int)) (k : Nat) : Bool := decide (Pays row (Ls.getD k []))
def fp (row : List Int) (Ls : List (List Int)) : Option Nat := (List.range Ls.length).find? (pk row Ls)
theorem fp_some {row : List Int} {Ls : List (List Int)} {k : Nat} (hk : k < Ls.length) (h : pk row Ls k = true) (hj : ∀ j, j < k → pk row Ls j = false) : fp row Ls = some k := by
  unfold fp
  rw [List.find?_range_eq_some]
  exact ⟨h, List.mem_range.mpr hk, fun j hjk => by rw [hj j hjk]; rfl⟩
theorem fp_none {row : List Int} {Ls : List (List Int)} (h : ∀ j, j < Ls.length → pk row Ls j = false) : fp row Ls = none := by
  unfold fp
  rw [List.find?_range_eq_none]
  exact fun j hj => by rw [h j hj]; rfl
def optI : Option Nat → D
  | none => .non
  | some i => .int (i : Nat)
theorem asD {es : List (List Ev)} {k : Nat} {e : List Ev} (h : es[k]? = some e) : (as_ es).getD k [] = asks e := by
  unfold as_
  rw [List.getD_eq_getElem?_getD, List.getElem?_map, h]
  rfl
theorem fpaid_ok {row : List Int} {es : List (List Ev)} (h : Eo es) {u : PuS} {P : D → PuS → Prop} (k : P (optI (fp row (as_ es))) u) : Ok (mf_first_paid [rowT row, crs es]) u P := by
  have hal : (as_ es).length = es.length := List.length_map _
  have ee : enumA [crs es] = some (enumD (es.map courD)) := rfl
  unfold mf_first_paid mb_first_paid
  rw [ok_fn]
  refine seq_cut (fun ρ u' => u' = u ∧ fp row (as_ es) = none) ?_ ?_
  · simp [ee]
    refine ok_list (enumD (es.map courD)) (fun j ρ u' => u' = u ∧ (∀ i, i < j → pk row (as_ es) i = false) ∧ ∃ a b : Sd, ρ = [.sh (rowT row), .sh (crs es), a, b]) ?_ ?_ _ _ ⟨rfl, fun i hi => absurd hi (Nat.not_lt_zero i), _, _, rfl⟩
    · rintro j d ρ u' e ⟨rfl, hp, a, b, rfl⟩
      obtain ⟨x, ex, rfl⟩ := Mi.enumD_at e
      rw [List.getElem?_map] at ex
      cases e2 : es[j]? with
      | none => rw [e2] at ex; cases ex
      | some ev =>
        rw [e2] at ex
        cases ex
        have hjl := (List.getElem?_eq_some_iff.mp e2).1
        have hev := h.1 ev (List.mem_of_getElem? e2)
        refine ⟨_, rfl, ?_⟩
        refine st_go fun R0 hR0 => ?_
        unfold lb_first_paid_1
        simp
        refine ⟨_, _, rfl, evs_ok (askedc hev (reaches_ok (by have := a12 hev; omega) ?_))⟩
        refine ⟨_, rfl, ?_⟩
        have epk : pk row (as_ es) j = decide (Pays row (asks ev)) := by unfold pk; rw [asD e2]
        refine brd (fun z => ?_) (fun z => ?_)
        · have := fp_some (row := row) (Ls := as_ es) (k := j) (by omega) (by rw [epk]; exact decide_eq_true z) hp
          rw [this] at k
          exact hR0 (.rt _) _ k
        · refine hR0 (.nx _) _ ⟨rfl, fun i hi => ?_, _, _, rfl⟩
          by_cases hij : i = j
          · subst hij
            rw [epk]
            exact decide_eq_false z
          · exact hp i (by omega)
    · rintro ρ u' ⟨rfl, hp, a, b, rfl⟩
      rw [Mi.enumD_len, List.length_map] at hp
      exact ⟨rfl, fp_none fun i hi => hp i (by omega)⟩
  rintro ρ u' ⟨rfl, hp⟩
  rw [hp] at k
  simp
  exact k
/-! ### facts -/
def fctD (ya na : List (List Ev)) : D := .obj "Facts" ["known", "unpaid"] [crs ya, crs na]
theorem wrongc_ok {es : List (List Ev)} (h : es.length ≤ 8) {u : PuS} {P : D → PuS → Prop} (k : P .non u) : Ok (mf_wrong_course [crs es]) u P := by
  have ee : enumA [crs es] = some (enumD (es.map courD)) := rfl
  unfold mf_wrong_course mb_wrong_course
  rw [ok_fn]
  refine seq_cut (fun ρ u' => u' = u) ?_ ?_
  · simp [ee]
    refine ok_list (enumD (es.map courD)) (fun j ρ u' => u' = u ∧ ∃ a b : Sd, ρ = [.sh (crs es), a, b]) ?_ ?_ _ _ ⟨rfl, _, _, rfl⟩
    · rintro j d ρ u' e ⟨rfl, a, b, rfl⟩
      obtain ⟨x, ex, rfl⟩ := Mi.enumD_at e
      rw [List.getElem?_map] at ex
      cases e2 : es[j]? with
      | none => rw [e2] at ex; cases ex
      | some ev =>
        rw [e2] at ex
        cases ex
        have hjl := (List.getElem?_eq_some_iff.mp e2).1
        have hi : isiD [courD ev, .cls "Course"] = some (.bl true) := rfl
        have h8 : ¬ ((j : Int) = 8) := by omega
        refine ⟨_, rfl, ?_⟩
        refine st_go fun R0 hR0 => ?_
        unfold lb_wrong_course_1
        simp [hi, h8]
        exact hR0 _ _ ⟨rfl, _, _, rfl⟩
    · rintro ρ u' ⟨rfl, a, b, rfl⟩
      rfl
  rintro ρ u' rfl
  simp
  exact k
theorem finit_ok {ya na : List (List Ev)} (hy : ya.length ≤ 8) (hn : na.length ≤ 8) {u : PuS} {P : List Str × List D → PuS → Prop} (k : P (["known", "unpaid"], [crs ya, crs na]) u) : Ok (mf_Facts___init__ [crs ya, crs na]) u P := by
  have st : startI 4 "Facts" [crs ya, crs na] = [.oi "Facts" [] [], .sh (crs ya), .sh (crs na), .un] := rfl
  have t1 : isiD [crs ya, .ty "tuple"] = some (.bl true) := rfl
  have t2 : isiD [crs na, .ty "tuple"] = some (.bl true) := rfl
  have e0 : isntD .non .non = some (.bl false) := rfl
  unfold mf_Facts___init__ mb_Facts___init__
  rw [ok_init, st]
  refine seq_go fun K R hK hR => ?_
  simp [t1]
  refine hK _ _ ?_
  clear hK hR K R
  refine seq_go fun K R hK hR => ?_
  simp
  refine wrongc_ok hy (hK _ _ ?_)
  clear hK hR K R
  refine seq_go fun K R hK hR => ?_
  simp [e0]
  refine hK _ _ ?_
  clear hK hR K R
  refine seq_go fun K R hK hR => ?_
  simp [t2]
  refine hK _ _ ?_
  clear hK hR K R
  refine seq_go fun K R hK hR => ?_
  simp
  refine wrongc_ok hn (hK _ _ ?_)
  clear hK hR K R
  refine seq_go fun K R hK hR => ?_
  simp [e0]
  refine hK _ _ ?_
  clear hK hR K R
  simp
  exact ⟨[], [], ⟨rfl, rfl⟩, by simp, by decide, ⟨by simp, by decide⟩, by decide, k⟩
noncomputable def RW (ya : List (List Ev)) : List Int := LR (J (as_ ya))
theorem form_ok {ya na : List (List Ev)} (h : Eo ya) {u : PuS} {P : D → PuS → Prop} (k : P (formD (RW ya)) u) : Ok (mf_Facts_form [fctD ya na]) u P := by
  have hm := mlen_le (as_len h)
  unfold mf_Facts_form mb_Facts_form fctD
  simp
  refine leastof_ok h fun hl => ?_
  exact init_ok (Sh.Least.good hl (by rw [J_len]; omega)) k
theorem isO (o : Option Nat) : isD (optI o) .non = some (.bl o.isNone) := by cases o <;> rfl
theorem isntO (o : Option Nat) : isntD (optI o) .non = some (.bl (!o.isNone)) := by cases o <;> rfl
theorem fit_ok {ya na : List (List Ev)} (hy : Eo ya) (hn : Eo na) {u : PuS} {P : D → PuS → Prop} (k : P (.bl (fp (RW ya) (as_ na)).isNone) u) : Ok (mf_Facts_fit [fctD ya na]) u P := by
  unfold mf_Facts_fit mb_Facts_fit fctD
  simp
  refine leastof_ok hy fun _ => ?_
  refine fpaid_ok hn ?_
  exact ⟨_, isO _, k⟩
end G57

set_option Elab.async false
set_option linter.all false
set_option maxRecDepth 100000
set_option maxHeartbeats 4000000
namespace G57
open PySem L2 Mi P20 Sh S3
/-! ### the least row above -/
def SL (row L : List Int) : List Int := (List.range (max row.length L.length)).map fun k => sumN row (k + 1)
theorem SL_len (row L : List Int) : (SL row L).length = max row.length L.length := by unfold SL; simp
def HJ (row L : List Int) : List Int := J [SL row L, L]
theorem HJ_len (row L : List Int) : (HJ row L).length = max row.length L.length := by
  unfold HJ
  rw [J_len]
  show max (SL row L).length (max L.length 0) = _
  rw [SL_len]
  omega
noncomputable def HR (row L : List Int) : List Int := LR (HJ row L)
theorem above_ok {row L : List Int} (hr : row.length ≤ 24) (hl : L.length ≤ 24) {u : PuS} {P : D → PuS → Prop} (h : Least 0 (HJ row L) (HR row L) → P (rowL (HR row L)) u) : Ok (mf__law_above [rowL row, rowL L]) u P := by
  unfold mf__law_above mb__law_above
  rw [ok_fn]
  refine seq_go fun K R hK hR => ?_
  have em : (if row.length < L.length then (L.length : Int) else (row.length : Int)) = ((max row.length L.length : Nat) : Int) := by split <;> omega
  simp [rowL_len, mBorLs]
  rw [em]
  refine ⟨by omega, by rw [rngD_len]; omega, ?_⟩
  rw [show ((max row.length L.length : Nat) : Int).toNat = max row.length L.length from Int.toNat_natCast _, rngD_zero]
  refine ok_lca (xs := List.range (max row.length L.length)) (f := fun k : Nat => D.int (k : Nat)) (fun k => [.sh (rowL row), .sh (rowL L), .un, .sh (.int (k : Int))]) (fun k => .int (sumN row (k + 1))) (fun k hk => rfl) (fun k hk => ?_) ?_
  · unfold ce__law_above_1
    have es : slD (rowL row) none (some ((k : Int) + 1)) = some (.lst (cutD (row.map D.int) none (some ((k : Int) + 1)))) := rfl
    simp [es]
    first | exact ⟨_, sumR, rfl, rfl⟩ | exact sumR | exact ⟨_, sumR, by simp⟩
  have e3 : (List.range (max row.length L.length)).map (fun k => D.int (sumN row (k + 1))) = (SL row L).map D.int := by unfold SL; rw [List.map_map]; rfl
  rw [e3]
  refine hK _ _ ?_
  clear hK hR K R
  simp
  refine joined_ok (Ls := [SL row L, L]) (by show 2 ≤ 100; decide) (fun M hM => ?_) ?_
  · rcases List.mem_cons.mp hM with rfl | hM
    · rw [SL_len]; omega
    · rw [List.mem_singleton.mp hM]; omega
  · exact lleast (by have := HJ_len row L; unfold HJ at this; omega) h
theorem rowtot_ok {ns : List Int} {u : PuS} {P : D → PuS → Prop} (h : P (.int (ns.getLast?.getD 0)) u) : Ok (mf_row_total [rowL ns]) u P := by
  unfold mf_row_total mb_row_total
  have e0 : neMD (rowL ns) (.lst []) = some (.bl (!decide (ns = []))) := s_neL0
  simp [e0]
  refine brd (fun z => ?_) (fun z => ?_)
  · subst z
    exact h
  · obtain ⟨pre, x, rfl⟩ : ∃ pre x, ns = pre ++ [x] := ⟨ns.dropLast, ns.getLast z, (List.dropLast_concat_getLast z).symm⟩
    have e1 : ixD (rowL (pre ++ [x])) (.int (-1)) = some (.int x) := by
      show atI ((pre ++ [x]).map D.int) (-1) = _
      rw [List.map_append]
      exact Mi.at_last
    refine ⟨_, e1, ?_⟩
    simpa using h
theorem sums_last (row : List Int) : (sumsFrom 0 row).getLast?.getD 0 = sumN row row.length := by
  cases hn : row.length with
  | zero =>
    have : row = [] := List.length_eq_zero_iff.mp hn
    subst this
    rfl
  | succ n =>
    rw [List.getLast?_eq_getElem?, sumsFrom_len, hn, show n + 1 - 1 = n from rfl, sumsFrom_at _ _ _ (by omega)]
    simp
theorem higher_ok {row L : List Int} (hr : row.length ≤ 24) (hl : L.length ≤ 24) {u : PuS} {P : D → PuS → Prop} (h : P (rowT (HR row L)) u) : Ok (mf_higher [rowT row, rowL L]) u P := by
  unfold mf_higher mb_higher
  rw [ok_fn]
  refine seq_go fun K R hK hR => ?_
  simp
  refine sums_of_ok hr ?_
  have ec : slD (.lst ((0 :: sumsFrom 0 row).map D.int)) (some 1) none = some (rowL (sumsFrom 0 row)) := by
    show some (D.lst (cutD ((0 :: sumsFrom 0 row).map D.int) (some ((1 : Nat) : Int)) none)) = _
    rw [cut_from]
    rfl
  refine ⟨_, ec, hK _ _ ?_⟩
  clear hK hR K R
  have em : (if row.length < L.length then (L.length : Int) else (row.length : Int)) = ((max row.length L.length : Nat) : Int) := by split <;> omega
  refine seq_go fun K R hK hR => ?_
  simp [rowL_len, sumsFrom_len]
  rw [em]
  refine hK _ _ ?_
  clear hK hR K R
  have hd : ((max row.length L.length : Nat) : Int) - (row.length : Int) = ((max row.length L.length - row.length : Nat) : Int) := by omega
  have mr : ∀ (x : Int) {n : Nat}, n ≤ 1000 → mulD (.lst [.int x]) (.int (n : Int)) = some (rowL (List.replicate n x)) := fun x {n} hn => by
    have : mulD (.lst [.int x]) (.int (n : Int)) = some (.lst (List.replicate (n : Int).toNat [D.int x]).flatten) := if_pos ⟨by omega, by omega, by simp; omega⟩
    rw [this]
    unfold rowL
    congr 2
    rw [Int.toNat_natCast]
    simp
  have hMl : (sumsFrom 0 row ++ List.replicate (max row.length L.length - row.length) (sumN row row.length)) = SL row L := by
    refine List.ext_getElem? fun k => ?_
    unfold SL
    rw [List.getElem?_map]
    by_cases hk : k < row.length
    · rw [List.getElem?_append_left (by rw [sumsFrom_len]; exact hk), sumsFrom_at _ _ _ hk, List.getElem?_range (by omega)]
      simp
    · rw [List.getElem?_append_right (by rw [sumsFrom_len]; omega), sumsFrom_len, List.getElem?_replicate]
      by_cases hk2 : k < max row.length L.length
      · rw [if_pos (by omega), List.getElem?_range hk2]
        have : sumN row (k + 1) = sumN row row.length := sumN_flat row (k + 1) (by omega)
        show some (sumN row row.length) = some (sumN row (k + 1))
        rw [this]
      · rw [if_neg (by omega), List.getElem?_eq_none (by simp; omega)]
        rfl
  refine seq_go fun K R hK hR => ?_
  simp
  refine rowtot_ok ?_
  rw [sums_last]
  simp [rowL_len, sumsFrom_len]
  rw [hd]
  have ea : addD (rowL (sumsFrom 0 row)) (rowL (List.replicate (max row.length L.length - row.length) (sumN row row.length))) = some (rowL (SL row L)) := by
    rw [← hMl]
    unfold rowL
    rw [List.map_append]
    exact if_pos (by rw [List.length_map, List.length_map, sumsFrom_len, List.length_replicate]; omega)
  refine ⟨_, mr _ (by omega), _, ea, hK _ _ ?_⟩
  clear hK hR K R
  simp
  refine ⟨by omega, by rw [rngD_len]; omega, ?_⟩
  rw [rngD_zero]
  have key : ∀ k, k < max row.length L.length → jmx [SL row L, L] k = if k < L.length then max (sumN row (k + 1)) (L.getD k 0) else sumN row (k + 1) := fun k hk => by
    have e1 : (SL row L).getD k 0 = sumN row (k + 1) := by
      unfold SL
      rw [List.getD_eq_getElem?_getD, List.getElem?_map, List.getElem?_range hk]
      rfl
    have hS : k < (SL row L).length := by rw [SL_len]; exact hk
    unfold jmx
    by_cases hkl : k < L.length
    · rw [if_pos hkl]
      have ef : [SL row L, L].filter (fun L => decide (k < L.length)) = [SL row L, L] := by simp [List.filter, hS, hkl]
      rw [ef]
      show max ((SL row L).getD k 0) (L.getD k 0) = _
      rw [e1]
    · rw [if_neg hkl]
      have ef : [SL row L, L].filter (fun L => decide (k < L.length)) = [SL row L] := by simp [List.filter, hS, hkl]
      rw [ef]
      show (SL row L).getD k 0 = _
      rw [e1]
  refine ok_lca (xs := List.range (max row.length L.length)) (f := fun k : Nat => D.int (k : Nat)) (fun k => [.sh (rowT row), .sh (rowL L), .sh (rowL (sumsFrom 0 row)), .sh (.int ((max row.length L.length : Nat) : Int)), .sh (rowL (SL row L)), .sh (.int (k : Int))]) (fun k => .int (jmx [SL row L, L] k)) (fun k hk => rfl) (fun k hk => ?_) ?_
  · have hk2 := List.mem_range.mp hk
    have hS : k < (SL row L).length := by rw [SL_len]; exact hk2
    have e1 : (SL row L).getD k 0 = sumN row (k + 1) := by
      unfold SL
      rw [List.getD_eq_getElem?_getD, List.getElem?_map, List.getElem?_range hk2]
      rfl
    have em := rowL_at hS
    rw [e1] at em
    rw [key k hk2]
    unfold ce_higher_1
    simp [rowL_len]
    by_cases hkl : k < L.length
    · have em2 := rowL_at hkl
      simp [hkl, em, em2]
      split <;> omega
    · simp [hkl, em]
  have e3 : (List.range (max row.length L.length)).map (fun k => D.int (jmx [SL row L, L] k)) = (HJ row L).map D.int := by
    unfold HJ J
    rw [List.map_map]
    have : mlen [SL row L, L] = max row.length L.length := by
      have := HJ_len row L
      unfold HJ at this
      rw [J_len] at this
      exact this
    rw [this]
    rfl
  rw [e3]
  exact pleast (by rw [HJ_len]; omega) fun _ => h
end G57


set_option Elab.async false
set_option linter.all false
set_option maxRecDepth 100000
set_option maxHeartbeats 4000000
namespace Sh
open PySem L2 Mi
def repM (t : RT) (d : D) : M D := match d with
  | .obj c ks ds => match t.lookup c with
    | some mf => mTxt mf [.obj c ks ds]
    | none => lft none
  | d => lft ((repP d).map .str)
theorem ok_repA {t : RT} {mo : ME} {ρ : Mi.Env} {u : PuS} {P : D → PuS → Prop} : Ok (mRepA t mo ρ) u P ↔ Ok (mo ρ) u fun d u1 => Ok (repM t d) u1 P := by
  have e : mRepA t mo ρ = M.bind (mo ρ) (repM t) := rfl
  rw [e, ok_bind]
theorem ne3 (a b c : Bool) : neMD (.lst [.bl a, .bl b, .bl c]) (.lst [.bl a, .bl b, .bl c]) = some (.bl false) := by cases a <;> cases b <;> cases c <;> rfl
end Sh

set_option Elab.async false
set_option linter.all false
set_option maxRecDepth 100000
set_option maxHeartbeats 4000000
namespace Sh
open PySem L2 Mi
theorem ok_lamX {mh : M RX → M D} {mb : MX} {ρ : Mi.Env} {u : PuS} {P : D → PuS → Prop} : Ok (mLam mh mb ρ) u P ↔ Ok (mh (mb ρ)) u P := Iff.rfl
end Sh


set_option Elab.async false
set_option linter.all false
set_option maxRecDepth 100000
set_option maxHeartbeats 4000000
namespace S1
open PySem PySem.Spec PyProof.Rows L2 Mi He Sh
@[reducible] def mb__law_draw : MS := mSeq (mPutP 0 (mBin addD (mIxP 0 (mC (.int 2))) (mC (.int 1))) (mC (.int 2))) (mSeq (mIfS (mB (mBin gtD (mIxP 0 (mC (.int 0))) (mC (.int 0)))) (mSeq (mDmP 0 (mC (.int 0)) 2 (mCB dmD (mCons (mIxP 0 (mC (.int 0))) (mCons (mVar 1) (mNil))))) (mRet (mVar 2))) (mNext)) (mSeq (mSet 3 (mBin modD (mCB int1D (mCons (mBin addD (mBin mulD (mIxP 0 (mC (.int 1))) (mC (.int 44017))) (mBin mulD (mC (.int 60013)) (mIxP 0 (mC (.int 2))))) (mNil))) (mC (.int 2147483587)))) (mSeq (mPutP 0 (mBin modD (mCB int1D (mCons (mBin addD (mBin mulD (mVar 3) (mBin addD (mBin modD (mCB int1D (mCons (mVar 3) (mNil))) (mC (.int 20021))) (mC (.int 10007)))) (mBin mulD (mC (.int 977)) (mIxP 0 (mC (.int 2))))) (mNil))) (mC (.int 2147483549))) (mC (.int 1))) (mRet (mBin modD (mCB int1D (mCons (mBin fdivD (mIxP 0 (mC (.int 1))) (mC (.int 64))) (mNil))) (mVar 1))))))
def mf__law_draw : List D → M D := mFn 4 mb__law_draw
end S1

set_option Elab.async false
set_option linter.all false
set_option maxRecDepth 100000
set_option maxHeartbeats 4000000
namespace S1
open PySem L2 Mi P20 Sh
def Pu (u : PuS) : Prop := ∃ x s c : Int, u = .real [x, s, c] ∧ 0 ≤ s ∧ s < 2147483648
theorem draw_ok {n : Int} (hn : 0 < n ∧ n < 1000000000) {u : PuS} (hu : Pu u) {P : D → PuS → Prop} (h : ∀ r u', 0 ≤ r → r < n → Pu u' → P (.int r) u') : Ok (mf__law_draw [.pur, .int n]) u P := by
  obtain ⟨x, s, c, rfl, h1, h2⟩ := hu
  unfold mf__law_draw mb__law_draw
  simp [atI, ixN, hn]
  have hh : ∀ k : Int, 0 ≤ k % n ∧ k % n < n := fun k => ⟨Int.emod_nonneg _ (by omega), Int.emod_lt_of_pos _ hn.1⟩
  refine brd (fun hx => ?_) (fun hx => ?_)
  · exact h _ _ (hh _).1 (hh _).2 ⟨_, _, _, rfl, h1, h2⟩
  · refine ⟨.inl (.inl (by omega)), h _ _ (hh _).1 (hh _).2 ⟨_, _, _, rfl, ?_, ?_⟩⟩
    all_goals omega
end S1


set_option Elab.async false
set_option linter.all false
set_option maxRecDepth 100000
set_option maxHeartbeats 4000000
/-! D8m: one course is no harder than another. -/
namespace P20
/-- so many bills of a course, with this value -/
inductive Pk : List Ev → Nat → Int → Prop
  | nil : Pk [] 0 0
  | card {b l v : Int} {rest : List Ev} {k : Nat} (h : Pk rest k v) : Pk (.inr (b, l) :: rest) k (v - wor b l k)
  | skip {x v : Int} {rest : List Ev} {k : Nat} (h : Pk rest k v) : Pk (.inl x :: rest) k v
  | take {x v : Int} {rest : List Ev} {k : Nat} (h : Pk rest k v) : Pk (.inl x :: rest) (k + 1) (x + v)
theorem Pk.of {i : Int} {evs : List Ev} {s : List Int} {v : Int} (h : Sel i evs s v) : Pk evs s.length v := by
  induction h with
  | nil => exact .nil
  | card h ih => exact .card ih
  | skip h ih => exact .skip ih
  | take h ih => exact .take ih
theorem Pk.sel {evs : List Ev} {k : Nat} {v : Int} (h : Pk evs k v) : ∀ i : Int, ∃ s, Sel i evs s v ∧ s.length = k := by
  induction h with
  | nil => intro i; exact ⟨[], .nil i, rfl⟩
  | card h ih =>
    intro i
    obtain ⟨s, h1, h2⟩ := ih (i + 1)
    subst h2
    exact ⟨s, .card h1, rfl⟩
  | skip h ih => intro i; obtain ⟨s, h1, h2⟩ := ih (i + 1); exact ⟨s, .skip h1, h2⟩
  | take h ih => intro i; obtain ⟨s, h1, h2⟩ := ih (i + 1); exact ⟨i :: s, .take h1, by simp [h2]⟩
def Dom (e e' : List Ev) : Prop := ∀ k v, Pk e k v → ∃ k' v', Pk e' k' v' ∧ k' ≤ k ∧ v ≤ v'
theorem Pk.zero {evs : List Ev} (hc : ∀ q, Sum.inr q ∈ evs → (0 : Int) ≤ q.1) {k : Nat} {v : Int} (h : Pk evs k v) : k = 0 → v = 0 := by
  induction h with
  | nil => intro _; rfl
  | @card b l v rest k h ih =>
    intro e
    have h0 : (0 : Int) ≤ b := hc (b, l) List.mem_cons_self
    have := ih (fun q hq => hc q (List.mem_cons_of_mem _ hq)) e
    subst e
    rw [wor_zero h0]
    omega
  | skip h ih => intro e; exact ih (fun q hq => hc q (List.mem_cons_of_mem _ hq)) e
  | take h ih => intro e; cases e
theorem Falls.of_least {t : Int} {ss row : List Int} (h : Least t ss row) : Falls row := ⟨h.pos, h.falls⟩
theorem asks_at {evs : List Ev} {n : Nat} {s : Int} (h : (asks evs)[n]? = some s) : Pk evs (n + 1) s := by
  unfold asks at h
  rw [List.getElem?_drop, List.getElem?_map] at h
  cases e : (asked 0 evs)[1 + n]? with
  | none => rw [e] at h; cases h
  | some q =>
    rw [e] at h
    cases h
    obtain ⟨h1, h2, _⟩ := (asked_tab evs 0).at_ _ _ _ e
    have := Pk.of h2
    rw [h1, Nat.add_comm] at this
    exact this
theorem asks_le {evs : List Ev} {k : Nat} {v : Int} (h : Pk evs (k + 1) v) : ∃ s, (asks evs)[k]? = some s ∧ v ≤ s := by
  obtain ⟨s', h1, h2⟩ := h.sel 0
  have hl := h1.len
  have hk : k + 1 < (asked 0 evs).length := by rw [asked_len]; omega
  have e : (asked 0 evs)[k + 1]? = some (asked 0 evs)[k + 1] := List.getElem?_eq_getElem hk
  obtain ⟨_, _, h3⟩ := (asked_tab evs 0).at_ _ _ _ e
  refine ⟨_, ?_, h3 s' v h1 h2⟩
  unfold asks
  rw [List.getElem?_drop, List.getElem?_map, Nat.add_comm, e]
  rfl
theorem Dom.form {e e' : List Ev} {row row' : List Int} (hc : ∀ q, Sum.inr q ∈ e' → (0 : Int) ≤ q.1) (h : Dom e e') (r : Least 0 (asks e) row) (r' : Least 0 (asks e') row') : ∀ n, sumN row n ≤ sumN row' n := by
  have hn : ∀ x ∈ row', (0 : Int) ≤ x := fun x hx => Int.le_of_lt (r'.pos x hx)
  refine r.least (Falls.of_least r') fun n s hs => ?_
  obtain ⟨k', v', h1, h2, h3⟩ := h _ _ (asks_at hs)
  have h4 : v' ≤ sumN row' k' := by
    cases k' with
    | zero => rw [h1.zero hc rfl]; simp [sumN]
    | succ k =>
      obtain ⟨s', e1, e2⟩ := asks_le h1
      have := r'.cover k s' e1
      omega
  have h5 := sumN_le hn h2
  omega
theorem Dom.refl (e : List Ev) : Dom e e := fun k v h => ⟨k, v, h, Nat.le_refl _, Int.le_refl _⟩
theorem Dom.trans {a b c : List Ev} (h : Dom a b) (h2 : Dom b c) : Dom a c := fun k v hk => by
  obtain ⟨k', v', h1, h3, h4⟩ := h _ _ hk
  obtain ⟨k2, v2, h5, h6, h7⟩ := h2 _ _ h1
  exact ⟨k2, v2, h5, by omega, by omega⟩
/-! ### bills alone -/
def bl_ (bs : List Int) : List Ev := bs.map Sum.inl
/-- bills ahead of others -/
theorem pk_bills : ∀ {bs : List Int} {rest : List Ev} {k : Nat} {v : Int}, Pk (bl_ bs ++ rest) k v ↔ ∃ (t : List Int) (k' : Nat) (v' : Int), t.Sublist bs ∧ Pk rest k' v' ∧ k = t.length + k' ∧ v = t.sum + v'
  | [], rest, k, v => by
    constructor
    · intro h; exact ⟨[], k, v, .slnil, h, by simp, by simp⟩
    · rintro ⟨t, k', v', h1, h2, rfl, rfl⟩
      cases List.sublist_nil.mp h1
      simpa [bl_] using h2
  | b :: bs, rest, k, v => by
    have e : bl_ (b :: bs) ++ rest = Sum.inl b :: (bl_ bs ++ rest) := rfl
    rw [e]
    constructor
    · intro h
      cases h with
      | skip h =>
        obtain ⟨t, k', v', h1, h2, h3, h4⟩ := pk_bills.mp h
        exact ⟨t, k', v', .cons _ h1, h2, h3, h4⟩
      | take h =>
        obtain ⟨t, k', v', h1, h2, h3, h4⟩ := pk_bills.mp h
        exact ⟨b :: t, k', v', .cons₂ _ h1, h2, by simp; omega, by simp; omega⟩
    · rintro ⟨t, k', v', h1, h2, rfl, rfl⟩
      rcases List.sublist_cons_iff.mp h1 with h' | ⟨t', rfl, h'⟩
      · exact .skip (pk_bills.mpr ⟨t, k', v', h', h2, rfl, rfl⟩)
      · have := Pk.take (x := b) (pk_bills.mpr ⟨t', k', v', h', h2, rfl, rfl⟩)
        have e1 : (b :: t').length + k' = t'.length + k' + 1 := by simp; omega
        have e2 : (b :: t').sum + v' = b + (t'.sum + v') := by simp; omega
        rw [e1, e2]
        exact this
theorem pk_bl {bs : List Int} {k : Nat} {v : Int} : Pk (bl_ bs) k v ↔ ∃ t : List Int, t.Sublist bs ∧ k = t.length ∧ v = t.sum := by
  have := pk_bills (bs := bs) (rest := []) (k := k) (v := v)
  rw [List.append_nil] at this
  rw [this]
  constructor
  · rintro ⟨t, k', v', h1, h2, h3, h4⟩
    cases h2
    exact ⟨t, h1, by omega, by omega⟩
  · rintro ⟨t, h1, h3, h4⟩
    exact ⟨t, 0, 0, h1, .nil, by omega, by omega⟩
def DomB (a b : List Int) : Prop := ∀ t : List Int, t.Sublist a → ∃ t' : List Int, t'.Sublist b ∧ t'.length ≤ t.length ∧ t.sum ≤ t'.sum
theorem DomB.trans {a b c : List Int} (h : DomB a b) (h2 : DomB b c) : DomB a c := fun t ht => by
  obtain ⟨t', h1, h3, h4⟩ := h _ ht
  obtain ⟨t2, h5, h6, h7⟩ := h2 _ h1
  exact ⟨t2, h5, by omega, by omega⟩
theorem DomB.sub {a b : List Int} (h : a.Sublist b) : DomB a b := fun t ht => ⟨t, ht.trans h, Nat.le_refl _, Int.le_refl _⟩
theorem DomB.perm {a b : List Int} (h : a.Perm b) : DomB a b := by
  induction h with
  | nil => exact fun t ht => ⟨t, ht, Nat.le_refl _, Int.le_refl _⟩
  | cons x h ih =>
    intro t ht
    rcases List.sublist_cons_iff.mp ht with h' | ⟨t', rfl, h'⟩
    · obtain ⟨t2, h1, h2, h3⟩ := ih t h'
      exact ⟨t2, .cons _ h1, h2, h3⟩
    · obtain ⟨t2, h1, h2, h3⟩ := ih t' h'
      exact ⟨x :: t2, .cons₂ _ h1, by simp; omega, by simp; omega⟩
  | swap x y l =>
    intro t ht
    rcases List.sublist_cons_iff.mp ht with h' | ⟨t', rfl, h'⟩
    · rcases List.sublist_cons_iff.mp h' with h2 | ⟨t2, rfl, h2⟩
      · exact ⟨t, .cons _ (.cons _ h2), Nat.le_refl _, Int.le_refl _⟩
      · exact ⟨x :: t2, .cons₂ _ (.cons _ h2), Nat.le_refl _, Int.le_refl _⟩
    · rcases List.sublist_cons_iff.mp h' with h2 | ⟨t2, rfl, h2⟩
      · exact ⟨y :: t', .cons _ (.cons₂ _ h2), Nat.le_refl _, Int.le_refl _⟩
      · exact ⟨x :: y :: t2, .cons₂ _ (.cons₂ _ h2), by simp, by simp; omega⟩
  | trans h1 h2 i1 i2 => exact i1.trans i2
/-- a bill 0 put in -/
theorem DomB.zero (a b : List Int) : DomB (a ++ 0 :: b) (a ++ b) := by
  refine (DomB.perm List.perm_middle).trans fun t ht => ?_
  rcases List.sublist_cons_iff.mp ht with h' | ⟨t', rfl, h'⟩
  · exact ⟨t, h', Nat.le_refl _, Int.le_refl _⟩
  · exact ⟨t', h', by simp, by simp⟩
/-- a bill parted in two -/
theorem DomB.part (a b : List Int) {x p : Int} (h0 : 0 ≤ p) (h1 : p ≤ x) : DomB (a ++ p :: b ++ [x - p]) (a ++ x :: b) := by
  have e : (a ++ p :: b ++ [x - p]).Perm (p :: (x - p) :: (a ++ b)) := by
    refine List.perm_append_comm.trans ?_
    refine (List.Perm.cons _ List.perm_middle).trans ?_
    exact .swap _ _ _
  refine (DomB.perm e).trans (DomB.trans ?_ (DomB.perm (List.perm_middle (l₁ := a) (l₂ := b) (a := x)).symm))
  intro t ht
  rcases List.sublist_cons_iff.mp ht with h' | ⟨t', rfl, h'⟩
  · rcases List.sublist_cons_iff.mp h' with h2 | ⟨t2, rfl, h2⟩
    · exact ⟨t, .cons _ h2, Nat.le_refl _, Int.le_refl _⟩
    · exact ⟨x :: t2, .cons₂ _ h2, by simp, by simp; omega⟩
  · rcases List.sublist_cons_iff.mp h' with h2 | ⟨t2, rfl, h2⟩
    · exact ⟨x :: t', .cons₂ _ h2, by simp, by simp; omega⟩
    · exact ⟨x :: t2, .cons₂ _ h2, by simp, by simp; omega⟩
theorem sub_sum {t a : List Int} (h : t.Sublist a) (h0 : ∀ x ∈ a, (0 : Int) ≤ x) : t.sum ≤ a.sum := by
  induction h with
  | slnil => exact Int.le_refl _
  | cons x h ih =>
    have := ih fun y hy => h0 y (List.mem_cons_of_mem _ hy)
    have := h0 x List.mem_cons_self
    simp; omega
  | cons_cons x h ih =>
    have := ih fun y hy => h0 y (List.mem_cons_of_mem _ hy)
    simp; omega
/-- the first ones made one -/
theorem DomB.join (a b : List Int) (h0 : ∀ x ∈ a, (0 : Int) ≤ x) : DomB (a ++ b) ([a.sum] ++ b) := fun t ht => by
  obtain ⟨t1, t2, rfl, h1, h2⟩ := List.sublist_append_iff.mp ht
  cases t1 with
  | nil => exact ⟨t2, .cons _ h2, by simp, by simp⟩
  | cons y t1 =>
    have := sub_sum h1 h0
    refine ⟨a.sum :: t2, .cons₂ _ h2, by simp, ?_⟩
    rw [List.sum_append, List.sum_cons (a := a.sum)]
    omega
/-! ### one card amid the bills -/
def crdAt (a : List Int) (q : Int × Int) (b : List Int) : List Ev := bl_ a ++ .inr q :: bl_ b
theorem pk_crd {a b : List Int} {q : Int × Int} {k : Nat} {v : Int} : Pk (crdAt a q b) k v ↔ ∃ t1 t2 : List Int, t1.Sublist a ∧ t2.Sublist b ∧ k = t1.length + t2.length ∧ v = t1.sum + t2.sum - wor q.1 q.2 t2.length := by
  unfold crdAt
  rw [pk_bills]
  constructor
  · rintro ⟨t, k', v', h1, h2, rfl, rfl⟩
    obtain ⟨b', l'⟩ := q
    cases h2 with
    | card h =>
      obtain ⟨t2, h3, rfl, rfl⟩ := pk_bl.mp h
      exact ⟨t, t2, h1, h3, rfl, by simp only; omega⟩
  · rintro ⟨t1, t2, h1, h2, rfl, rfl⟩
    exact ⟨t1, t2.length, t2.sum - wor q.1 q.2 t2.length, h1, .card (pk_bl.mpr ⟨t2, h2, rfl, rfl⟩), rfl, by omega⟩
theorem Dom.last (a : List Int) {q : Int × Int} (h : 0 ≤ q.1) : Dom (crdAt a q []) (bl_ a) ∧ Dom (bl_ a) (crdAt a q []) := by
  refine ⟨fun k v hk => ?_, fun k v hk => ?_⟩
  · obtain ⟨t1, t2, h1, h2, rfl, rfl⟩ := pk_crd.mp hk
    cases List.sublist_nil.mp h2
    exact ⟨_, _, pk_bl.mpr ⟨t1, h1, rfl, rfl⟩, by simp, by simp [wor_zero h]⟩
  · obtain ⟨t1, h1, rfl, rfl⟩ := pk_bl.mp hk
    exact ⟨_, _, pk_crd.mpr ⟨t1, [], h1, .slnil, rfl, rfl⟩, by simp, by simp [wor_zero h]⟩
end P20





set_option Elab.async false
set_option linter.all false
set_option maxRecDepth 100000
set_option maxHeartbeats 4000000
/-! F1l: drawn rows with their bounds, repr of plain data, the operators of forms. -/
namespace S1
open PySem L2 Mi P20 Sh
def big : Int := 1000000000000000000000000000000
end S1
namespace Sh
open PySem L2 Mi P20
/-! ### repr of plain data -/
def Rp (k n : Nat) (d : D) : Prop := ∃ a, toPD d = some a ∧ a.showable = true ∧ a.hasDict = false ∧ a.depth ≤ k ∧ a.shown.length ≤ n
theorem Rp.mono {k n k' n' : Nat} {d : D} (h : Rp k n d) (hk : k ≤ k') (hn : n ≤ n') : Rp k' n' d := by
  obtain ⟨a, h1, h2, h3, h4, h5⟩ := h
  exact ⟨a, h1, h2, h3, by omega, by omega⟩
theorem Rp.bl (b : Bool) : Rp 0 5 (.bl b) := ⟨.bool b, rfl, rfl, rfl, Nat.le_refl _, by cases b <;> decide⟩
theorem log_of {i : Int} {m : Nat} (h : i.natAbs < 2 ^ m) : i.natAbs.log2 < m + 1 := by
  by_cases z : i.natAbs = 0
  · rw [z]; simp
  · have := (Nat.log2_lt z).mpr h
    omega
theorem Rp.int {i : Int} (h : i.natAbs < 10 ^ 60) : Rp 0 61 (.int i) := by
  refine ⟨.int i, rfl, decide_eq_true ?_, rfl, Nat.le_refl _, ?_⟩
  · have h2 : i.natAbs < 2 ^ 200 := Nat.lt_trans h (by decide)
    have := log_of h2
    omega
  · have e := PySem.int_text_length_le10 (k := 60) (by decide) h
    show (Str.ofString (toString i)).length ≤ 61
    rw [ofString_length]
    exact e
theorem rp_all {k n : Nat} : ∀ {ds : List D}, (∀ d ∈ ds, Rp k n d) → ∃ as, toPDs ds = some as ∧ PyData.showableAll as = true ∧ PyData.hasDictAll as = false ∧ PyData.depthAll as ≤ k ∧ ((PyData.shownAll as).map (·.length)).sum ≤ ds.length * n ∧ (PyData.shownAll as).length = ds.length
  | [], _ => ⟨[], rfl, rfl, rfl, Nat.zero_le _, by simp [PyData.shownAll], rfl⟩
  | d :: ds, h => by
    obtain ⟨a, h1, h2, h3, h4, h5⟩ := h d List.mem_cons_self
    obtain ⟨as, g1, g2, g3, g4, g5, g6⟩ := rp_all fun x hx => h x (List.mem_cons_of_mem _ hx)
    refine ⟨a :: as, ?_, ?_, ?_, ?_, ?_, ?_⟩
    · unfold toPDs; rw [h1, g1]
    · unfold PyData.showableAll; rw [h2, g2]; rfl
    · unfold PyData.hasDictAll; rw [h3, g3]; rfl
    · unfold PyData.depthAll; omega
    · unfold PyData.shownAll
      rw [List.map_cons, List.sum_cons, List.length_cons, Nat.add_mul]
      omega
    · unfold PyData.shownAll; simp [g6]
theorem Rp.lst {k n : Nat} {ds : List D} (h : ∀ d ∈ ds, Rp k n d) : Rp (k + 1) (ds.length * n + 2 * ds.length + 3) (.lst ds) := by
  obtain ⟨as, g1, g2, g3, g4, g5, g6⟩ := rp_all h
  refine ⟨.list as, ?_, ?_, ?_, ?_, ?_⟩
  · unfold toPD; rw [g1]; rfl
  · unfold PyData.showable; exact g2
  · unfold PyData.hasDict; exact g3
  · unfold PyData.depth; omega
  · unfold PyData.shown
    have := listText_len_le (PyData.shownAll as)
    omega
theorem Rp.tup {k n : Nat} {ds : List D} (h : ∀ d ∈ ds, Rp k n d) : Rp (k + 1) (ds.length * n + 2 * ds.length + 3) (.tup ds) := by
  obtain ⟨as, g1, g2, g3, g4, g5, g6⟩ := rp_all h
  refine ⟨.tuple as, ?_, ?_, ?_, ?_, ?_⟩
  · unfold toPD; rw [g1]; rfl
  · unfold PyData.showable; exact g2
  · unfold PyData.hasDict; exact g3
  · unfold PyData.depth; omega
  · unfold PyData.shown
    have := tupleText_len_le (PyData.shownAll as)
    omega
theorem Rp.row {row : List Int} (hl : row.length ≤ 26) (h : ∀ x ∈ row, x.natAbs < 10 ^ 60) : Rp 1 1700 (.tup (row.map D.int)) := by
  refine (Rp.tup (k := 0) (n := 61) fun d hd => ?_).mono (Nat.le_refl _) (by rw [List.length_map]; omega)
  obtain ⟨x, hx, rfl⟩ := List.mem_map.mp hd
  exact Rp.int (h x hx)
end Sh

set_option Elab.async false
set_option linter.all false
set_option maxRecDepth 100000
set_option maxHeartbeats 4000000
/-! Txl: the texts of numbers, cards and courses read back. -/
namespace Sh
open PySem L2 Mi P20 TL
def nT (n : Nat) : Str := Str.ofString (toString ((n : Nat) : Int))
theorem tl_nT (n : Nat) : (nT n).cps.toList = numL n := tl_num n
/-- plain signs -/
def As (x : Str) : Prop := ∀ c ∈ x.cps.toList, c < 128
theorem As.ok {x : Str} (h : As x) : PyData.strOk x = true := by
  unfold PyData.strOk
  rw [← Array.all_toList, List.all_eq_true]
  exact fun c hc => decide_eq_true (by have := h c hc; omega)
theorem nT_as (n : Nat) : As (nT n) := fun c hc => by
  rw [tl_nT] at hc
  have := numL_digits n c hc
  omega
/-- the text of a card -/
def cT (b l : Nat) : Str := Txt.join "/" [nT b, nT l]
def evB : Ev → Prop
  | .inl x => 0 ≤ x ∧ x < 10 ^ 60
  | .inr q => 1 ≤ q.2 ∧ 0 ≤ q.1 ∧ q.1 ≤ 24 * q.2 ∧ q.1 < 10 ^ 60 ∧ q.2 < 10 ^ 60
end Sh



set_option Elab.async false
set_option linter.all false
set_option maxRecDepth 100000
set_option maxHeartbeats 4000000
/-! MiQh: comprehensions over tuples, str(object) while an error is handled. -/
namespace MiHot
open PySem PySem.Spec PyProof.Rows HotX
section
variable {prog : Program} {w : World} {A : Around} {E : Value → Shared → Prop} {s : Shared}
end
end MiHot
namespace Mi
open PySem PySem.Spec PyProof.Rows L2
variable [TB : Tabl]
section
variable {X : Cx} {a : Addr} {oe : Obj}
end
/-! ### mirrors -/
section
variable {X : Cx} {c : Cf} {a : Addr} {oe : Obj} {elt tg e : Expr} {ifs : List Expr} {scope : Scope} {own : List (Str × Nat)} {pos : Pos} {is : List Nat} {m me : ME} {g : MG} {mt : MT}
end
@[simp] theorem ok_Itup {m : ME} {ρ : Env} {u : PuS} {P : List D → PuS → Prop} : Ok (mItup m ρ) u P ↔ Ok (m ρ) u fun d u1 => ∃ ds, d = .tup ds ∧ P ds u1 := by
  unfold mItup
  rw [ok_bind]
  constructor
  · refine fun h => h.mono fun d u1 z => ?_
    rw [ok_lft] at z
    obtain ⟨ds, e, p⟩ := z
    cases d <;> first | (cases e; exact ⟨_, rfl, p⟩) | cases e
  · refine fun h => h.mono fun d u1 z => ?_
    obtain ⟨ds, rfl, p⟩ := z
    rw [ok_lft]
    exact ⟨_, rfl, p⟩
section
variable {X : Cx} {c : Cf} {k : Nat} {f C a : Addr} {oe : Obj} {fd : FuncData} {ps : List Str} {mf : List D → M D} {ck : Str} {e : Expr} {ma : ME} {pos : Pos}
end
end Mi


set_option Elab.async false
set_option linter.all false
set_option maxRecDepth 100000
set_option maxHeartbeats 4000000
namespace S1
open PySem L2 Mi P20 Sh TL
theorem log_big {n : Int} (h : 0 < n ∧ n < 1000000000000000000000000000000000000000000000000000000000000) : n.natAbs.log2 < 200 := by
  refine (Nat.log2_lt (by omega)).mpr ?_
  have : (2 : Nat) ^ 200 = 1606938044258990275541962092341162602522202993782792835301376 := by decide +kernel
  rw [this]
  omega
theorem e0 (s : Str) : Str.empty ++ s = s := TL.ext_tl (by rw [TL.tl_append]; rfl)
end S1

set_option Elab.async false
set_option linter.all false
set_option maxRecDepth 100000
set_option maxHeartbeats 4000000
namespace S1
open PySem L2 Mi Sh TL
theorem ok_lamX {mh : M RX → M D} {mb : MX} {ρ : Mi.Env} {u : PuS} {P : D → PuS → Prop} : Ok (mLam mh mb ρ) u P ↔ Ok (mh (mb ρ)) u P := Iff.rfl
end S1


set_option Elab.async false
set_option linter.all false
set_option maxRecDepth 100000
set_option maxHeartbeats 4000000
namespace S1
open PySem L2 Mi Sh P20
/-- the odd values, and how they are told -/
def odd1 : List (D × Str) := [(.non, "None"), (.bl true, "True"), (.bl false, "False"), (.str "", "''"), (.str "3", "'3'"), (.str "ann", "'ann'"), (.tup [], "()"), (.tup [.int 3], "(3,)"), (.tup [.str "ann", .int 3], "('ann', 3)"), (.lst [], "[]"), (.lst [.int 3], "[3]"), (.dct [] [], "{}"), (.dct ["ann"] [.int 3], "{'ann': 3}"), (.int (-1), "-1"), (.int (-100000000000000000000), "-100000000000000000000")]
def form3 : D := .obj "Form" ["numbers"] [.tup [.int 3]]
def odd2 : List (D × Str) := [(cardD (3, 4), "Card 3/4"), (form3, "Form 3"), (walD [], "Wallet of 0 cards")]
def odds : List (D × Str) := odd1 ++ odd2
theorem odds_as : ∀ q ∈ odds, (q.2.cps.toList.all fun c => decide (c < 128)) = true := by decide +kernel
theorem odd_as {q : D × Str} (h : q ∈ odds) : As q.2 := fun c hc => by simpa using List.all_eq_true.mp (odds_as q h) c hc
end S1

set_option Elab.async false
set_option linter.all false
set_option maxRecDepth 100000
set_option maxHeartbeats 4000000
namespace S1
open PySem L2 Mi P20 Sh TL
abbrev ASt := {x : Str // As x}
theorem EqT.str : EqT (fun x : ASt => D.str x.1) (fun x : ASt => PyData.str x.1) 0 := ⟨fun _ => rfl, fun x => by
  have := x.2
  simp only [PyData.canLay0]
  unfold PyData.strOk
  rw [Array.all_eq_true]
  intro i hi
  have := this x.1.cps[i] (by simp)
  simp
  omega, fun _ => Nat.le_refl 0, fun x y => by
  show (x.1 == y.1) = _
  by_cases h : x.1 = y.1 <;> simp [h, Subtype.ext_iff]⟩
/-- a value as a card is asked with, and how it is told -/
def Kn (d : D) (t : Str) : Prop := (d, t) ∈ odds ∨ ∃ n : Nat, n < 10 ^ 60 ∧ d = .int (n : Int) ∧ t = nT n
theorem Kn.as {d : D} {t : Str} (h : Kn d t) : As t := by
  rcases h with h | ⟨n, h1, rfl, rfl⟩
  · exact odd_as h
  · exact nT_as n
end S1


set_option Elab.async false
set_option linter.all false
set_option maxRecDepth 100000
set_option maxHeartbeats 4000000
/-! Rpl: how plain texts are told; pieces of plain texts. -/
namespace Sh
open PySem L2 Mi P20 TL
theorem rc_as : ∀ c < 128, ∀ q ∈ [39, 34], ((Builtin.Str.reprChar q c).all fun d => decide (d < 128)) = true := by decide +kernel
theorem q_as (x : Str) : reprQuote x ∈ [39, 34] := by
  unfold reprQuote
  split
  · simp
  · simp
theorem fold_as (q : Nat) (hq : q ∈ [39, 34]) : ∀ (l : List Nat) (a : Array Nat), (∀ c ∈ l, c < 128) → (∀ c ∈ a.toList, c < 128) → ∀ c ∈ (l.foldl (fun out c => out ++ (Builtin.Str.reprChar q c).toArray) a).toList, c < 128
  | [], a, _, h => h
  | c :: l, a, hl, h => fold_as q hq l _ (fun d hd => hl d (List.mem_cons_of_mem _ hd)) fun d hd => by
    rw [Array.toList_append] at hd
    rcases List.mem_append.mp hd with hd | hd
    · exact h d hd
    · have := List.all_eq_true.mp (rc_as c (hl c List.mem_cons_self) q hq) d hd
      simpa using this
theorem as_rep {x : Str} (h : As x) : As (reprText x) := by
  intro c hc
  unfold reprText at hc
  simp only [Array.toList_push, ← Array.foldl_toList] at hc
  have hq : reprQuote x < 128 := by
    have := q_as x
    simp at this
    omega
  rcases List.mem_append.mp hc with hc | hc
  · exact fold_as _ (q_as x) _ #[reprQuote x] h (fun d hd => by rw [show d = reprQuote x from (by simpa using hd)]; exact hq) c hc
  · obtain rfl := List.mem_singleton.mp hc
    exact hq
theorem rep_str {x : Str} (h : As x) (hl : x.length ≤ 9000) : repP (.str x) = some (reprText x) := by
  refine if_pos ?_
  have := PySem.StrLaws.reprText_len x (fun c hc => Nat.lt_trans (h c hc) (by decide))
  omega
theorem sl_str {x : Str} (hl : x.length ≤ 9000) (lo hi : Option Int) : slD (.str x) lo hi = some (.str (cutS x lo hi)) := if_pos (by omega)
end Sh

set_option Elab.async false
set_option linter.all false
set_option maxRecDepth 100000
set_option maxHeartbeats 4000000
namespace G57
open PySem L2 Mi P20 Sh S3
theorem LR_len (ns : List Int) : (LR ns).length ≤ ns.length := by
  unfold LR
  split
  · rename_i h
    exact h.choose_spec.len
  · simp
theorem RW_len {ya : List (List Ev)} (h : Eo ya) : (RW ya).length ≤ 24 := by
  have h1 := LR_len (J (as_ ya))
  rw [J_len] at h1
  have h2 := mlen_le (as_len h)
  unfold RW
  omega
/-! ### how a question ends -/
noncomputable def dueT (row : List Int) (Ls : List (List Int)) (L : List Int) : D := match fp row Ls with
  | some k => .tup [.str "no wallet", .str (nT k), .bl true]
  | none => if Pays row L then .tup [.str "returned", .str (reprText "paid")] else .tup [.str "returned", .str (reprText (if (fp (HR row L) Ls).isSome = true then "refused" else "open"))]
theorem rM (rt : RT) {x : Str} (h : As x) (hl : x.length ≤ 9000) : repM rt (.str x) = M.pure (.str (reprText x)) := by
  show lft ((repP (.str x)).map D.str) = _
  rw [rep_str h hl]
  rfl
theorem as_paid : As (Str.ofString "paid") := by unfold As; decide
theorem as_refused : As (Str.ofString "refused") := by unfold As; decide
theorem as_open : As (Str.ofString "open") := by unfold As; decide
theorem head_fp {row : List Int} {Ls : List (List Int)} : ((List.range Ls.length).filter (pk row Ls)).head? = fp row Ls := List.head?_filter ..
theorem any_fp {row : List Int} {Ls : List (List Int)} : (Ls.any fun L => decide (Pays row L)) = (fp row Ls).isSome := by
  rw [Bool.eq_iff_iff]
  unfold fp
  rw [List.find?_isSome, List.any_eq_true]
  constructor
  · rintro ⟨L, hL, hp⟩
    obtain ⟨k, hk⟩ := List.mem_iff_getElem?.mp hL
    refine ⟨k, List.mem_range.mpr (List.getElem?_eq_some_iff.mp hk).1, ?_⟩
    unfold pk
    rw [List.getD_eq_getElem?_getD, hk]
    exact hp
  · rintro ⟨k, hk, hp⟩
    have hk := List.mem_range.mp hk
    refine ⟨Ls[k], List.getElem_mem hk, ?_⟩
    unfold pk at hp
    rw [List.getD_eq_getElem?_getD, List.getElem?_eq_getElem hk] at hp
    exact hp
theorem due_ok {row L : List Int} {Ls : List (List Int)} (hr : row.length ≤ 24) (hl : L.length ≤ 24) (hn : Ls.length ≤ 100) (hls : ∀ M ∈ Ls, M.length ≤ 24) {u : PuS} {P : D → PuS → Prop} (h : P (dueT row Ls L) u) : Ok (mf__law_due [rowL row, .lst (Ls.map rowL), rowL L]) u P := by
  unfold mf__law_due mb__law_due
  rw [ok_fn]
  refine seq_go fun K R hK hR => ?_
  simp [mBorLs]
  refine ⟨by omega, by rw [rngD_len]; omega, ?_⟩
  rw [rngD_zero]
  refine ok_lcm (xs := List.range Ls.length) (f := fun k : Nat => D.int (k : Nat)) (fun k => [.sh (rowL row), .sh (.lst (Ls.map rowL)), .sh (rowL L), .un, .un, .sh (.int (k : Int)), .un]) (pk row Ls) (fun k => .int (k : Int)) (fun k hk => rfl) (fun k hk => ?_) (fun k hk _ => ?_) ?_
  · have hk2 := List.mem_range.mp hk
    have ei : atI (Ls.map rowL) (k : Int) = some (rowL (Ls.getD k [])) := at_nat (by rw [List.getElem?_map, List.getElem?_eq_getElem hk2]; simp [List.getElem?_eq_getElem hk2])
    have hm : (Ls.getD k []).length ≤ 100 := by
      have := hls Ls[k] (List.getElem_mem hk2)
      simp [List.getElem?_eq_getElem hk2]
      omega
    unfold ct__law_due_1
    simp only [ok_B, ok_call, ok_cons, ok_nil, ok_var, ok_bin]
    refine ⟨_, rfl, _, rfl, _, rfl, _, ei, rfl, ?_⟩
    refine pays_ok hm ?_
    exact ⟨_, rfl, rfl, rfl⟩
  · rw [ok_var]
    exact ⟨_, rfl, rfl, rfl⟩
  refine hK _ _ ?_
  clear hK hR K R
  have eF : ((List.range Ls.length).filter (pk row Ls)).map (fun k : Nat => D.int (k : Int)) = (((List.range Ls.length).filter (pk row Ls)).map fun k : Nat => (k : Int)).map D.int := by rw [List.map_map]; rfl
  rw [eF]
  have hh := head_fp (row := row) (Ls := Ls)
  unfold dueT at h
  refine seq_go fun K R hK hR => ?_
  simp only [ok_ifS, ok_B, ok_bin, ok_var, ok_Fz, ok_lstO, ok_nil]
  refine ⟨_, rfl, by decide, _, s_neL0, _, rfl, ?_⟩
  cases hF : (List.range Ls.length).filter (pk row Ls) with
  | cons k l =>
    rw [hF] at hh
    have hh : fp row Ls = some k := hh.symm
    rw [hh] at h
    have hkm : k ∈ (List.range Ls.length).filter (pk row Ls) := by rw [hF]; exact List.mem_cons_self
    have hkl := List.mem_range.mp (List.mem_filter.mp hkm).1
    have ei : ixD (.lst (((k :: l).map fun k : Nat => (k : Int)).map D.int)) (.int 0) = some (.int (k : Int)) := at_nat (k := 0) rfl
    have es : strID [.int (k : Int)] = some (.str (nT k)) := by
      refine if_pos ?_
      have h2 : k < 2 ^ 10 := by omega
      rw [Int.natAbs_natCast]
      by_cases z : k = 0
      · rw [z]; decide
      · have := (Nat.log2_lt z).mpr h2
        omega
    have ei' : ixD (.lst (.int (k : Int) :: (l.map fun k : Nat => (k : Int)).map D.int)) (.int 0) = some (.int (k : Int)) := ei
    simp only [List.map_cons, reduceCtorEq, not_false_eq_true, decide_false, Bool.not_false, br_t]
    simp only [ok_ret, ok_tup, ok_cons, ok_nil, ok_C, ok_CB, ok_bin, ok_var]
    exact ⟨_, rfl, _, ei', _, es, by show 3 ≤ 100000; decide, hR _ _ h⟩
  | nil =>
    rw [hF] at hh
    have hh : fp row Ls = none := hh.symm
    rw [hh] at h
    simp
    refine hK _ _ ?_
    clear hK hR K R
    refine seq_go fun K R hK hR => ?_
    simp [ok_repA]
    refine pays_ok (by omega) ?_
    refine ⟨_, rfl, ?_⟩
    by_cases hp : Pays row L
    · rw [decide_eq_true hp]
      simp only [br_t]
      rw [rM rtC as_paid (by decide), ok_pure]
      have h : P (if Pays row L then .tup [.str "returned", .str (reprText "paid")] else .tup [.str "returned", .str (reprText (if (fp (HR row L) Ls).isSome = true then "refused" else "open"))]) u := h
      rw [if_pos hp] at h
      exact hR _ _ h
    · rw [decide_eq_false hp]
      simp only [br_f]
      have h : P (if Pays row L then .tup [.str "returned", .str (reprText "paid")] else .tup [.str "returned", .str (reprText (if (fp (HR row L) Ls).isSome = true then "refused" else "open"))]) u := h
      rw [if_neg hp] at h
      refine hK _ _ ?_
      clear hK hR K R
      refine seq_go fun K R hK hR => ?_
      simp
      refine above_ok hr hl fun _ => hK _ _ ?_
      clear hK hR K R
      simp [ok_repA]
      refine ⟨by omega, ?_⟩
      refine ok_lca (xs := Ls) (f := rowL) (fun M => [.sh (rowL row), .sh (.lst (Ls.map rowL)), .sh (rowL L), .sh (.lst []), .sh (rowL (HR row L)), .un, .sh (rowL M)]) (fun M => .bl (decide (Pays (HR row L) M))) (fun M hM => rfl) (fun M hM => ?_) ?_
      · unfold ce__law_due_2
        simp
        exact pays_ok (by have := hls M hM; omega) ⟨rfl, rfl⟩
      · rw [anyF, any_fp]
        refine ⟨_, rfl, _, rfl, ?_⟩
        cases hf : (fp (HR row L) Ls).isSome with
        | true =>
          rw [hf] at h
          simp only [br_t]
          rw [rM rtC as_refused (by decide), ok_pure]
          exact h
        | false =>
          rw [hf] at h
          simp only [br_f]
          rw [rM rtC as_open (by decide), ok_pure]
          exact h
/-! ### the program's answer -/
theorem fitrow_ok {ya na : List (List Ev)} (hy : Eo ya) (hn : Eo na) {u : PuS} {P : RX → PuS → Prop} (h1 : ∀ k, fp (RW ya) (as_ na) = some k → P (.er "NoWallet" ["index"] [.int (k : Int)]) u) (h2 : fp (RW ya) (as_ na) = none → P (.ok (rowT (RW ya))) u) : Ok (mfX_fitting_row [fctD ya na]) u P := by
  have p1 : ∀ {u : PuS} {Q : D → PuS → Prop}, Q (crs ya) u → Ok (mf_Facts_paid [fctD ya na]) u Q := fun {u Q} q => by
    unfold mf_Facts_paid mb_Facts_paid fctD
    simp
    exact q
  have p2 : ∀ {u : PuS} {Q : D → PuS → Prop}, Q (crs na) u → Ok (mf_Facts_refused [fctD ya na]) u Q := fun {u Q} q => by
    unfold mf_Facts_refused mb_Facts_refused fctD
    simp
    exact q
  unfold mfX_fitting_row mbX_fitting_row
  rw [ok_fnX]
  refine seq_go fun K R hK hR => ?_
  simp
  refine ⟨_, _, rfl, p1 ?_⟩
  refine leastof_ok hy fun _ => hK _ _ ?_
  clear hK hR K R
  refine seq_go fun K R hK hR => ?_
  simp
  refine ⟨_, _, rfl, p2 ?_⟩
  refine fpaid_ok hn ?_
  refine hK _ _ ?_
  clear hK hR K R
  refine seq_go fun K R hK hR => ?_
  simp
  refine ⟨_, isntO _, ?_⟩
  cases hf : fp (LR (J (as_ ya))) (as_ na) with
  | some k =>
    simp [optI]
    exact hR (.ex _ _ _ _) _ (h1 k hf)
  | none =>
    simp
    refine hK _ _ ?_
    simp
    exact h2 hf
theorem answer_ok {ya na : List (List Ev)} (hy : Eo ya) (hn : Eo na) {e : List Ev} (he : EvsOk e) {u : PuS} {P : RX → PuS → Prop} (h1 : ∀ k, fp (RW ya) (as_ na) = some k → P (.er "NoWallet" ["index"] [.int (k : Int)]) u) (h2 : fp (RW ya) (as_ na) = none → P (.ok (.str (if Pays (RW ya) (asks e) then "paid" else if (fp (HR (RW ya) (asks e)) (as_ na)).isSome = true then "refused" else "open"))) u) : Ok (mfX_Facts_answer [fctD ya na, courD e]) u P := by
  have hl := a12 he
  have hrl : (RW ya).length ≤ 24 := RW_len hy
  unfold mfX_Facts_answer mbX_Facts_answer
  rw [ok_fnX]
  refine seq_go fun K R hK hR => ?_
  simp
  refine hK _ _ ?_
  clear hK hR K R
  refine seq_go fun K R hK hR => ?_
  simp
  refine fitrow_ok hy hn (fun k hk => ?_) fun hf => ?_
  · exact hR (.ex _ _ _ _) _ (h1 k hk)
  have h2 := h2 hf
  refine hK _ _ ?_
  clear hK hR K R
  refine seq_go fun K R hK hR => ?_
  simp
  refine ⟨_, _, rfl, evs_ok (askedc he (hK _ _ ?_))⟩
  clear hK hR K R
  refine seq_go fun K R hK hR => ?_
  simp
  refine reaches_ok (by omega) ?_
  refine ⟨_, rfl, ?_⟩
  by_cases hp : Pays (RW ya) (asks e)
  · rw [decide_eq_true hp]
    simp only [br_t]
    rw [if_pos hp] at h2
    exact hR (.rt _) _ h2
  · rw [decide_eq_false hp]
    simp only [br_f]
    rw [if_neg hp] at h2
    refine hK _ _ ?_
    clear hK hR K R
    have f1 : fldD (Str.ofString "Facts") [Str.ofString "known", Str.ofString "unpaid"] 1 (fctD ya na) = some (crs na) := rfl
    simp [f1]
    refine higher_ok hrl (by omega) ?_
    refine fpaid_ok hn ?_
    refine ⟨_, isO _, _, rfl, ?_⟩
    cases hf2 : fp (HR (RW ya) (asks e)) (as_ na) with
    | some k =>
      rw [hf2] at h2
      exact h2
    | none =>
      rw [hf2] at h2
      exact h2
/-! ### the def that catches -/
def EndT (P : D → PuS → Prop) : RX → PuS → Prop := fun r u => match r with
  | .ok d => Ok (repM rtC d) u fun x u2 => P (.tup [.str "returned", x]) u2
  | .er k ks ds => k = ("NoWallet" : Str) ∧ ks = [("index" : Str)] ∧ ∃ (d : D) (x : Str), ds = [d] ∧ repM rtH d = M.pure (.str x) ∧ P (.tup [.str "no wallet", .str x, .bl true]) u
theorem end_ok {act : M RX} {u : PuS} {P : D → PuS → Prop} (h : Ok act u (EndT P)) : Ok (mh__law_end G57.es rtC rtH act) u P := by
  unfold mh__law_end mFnH
  rw [ok_fn]
  refine seq_go fun K R hK hR => ?_
  show Ok (mTryAct 1 2 act (fun k => decide (k ∈ G57.es)) (ms__law_end G57.es rtH) [.un, .un, .un]) u _
  unfold mTryAct
  rw [if_pos (by rfl), ok_bind]
  refine h.mono fun r u1 h1 => ?_
  cases r with
  | ok d =>
    rw [ok_pure]
    refine hK _ _ ?_
    clear hK hR K R
    simp [ok_repA]
    exact h1
  | er k ks ds =>
    obtain ⟨rfl, rfl, d, x, rfl, h5, h6⟩ := h1
    have e1 : exfD G57.es [Str.ofString "given", Str.ofString "index", Str.ofString "bill", Str.ofString "bound"] (Str.ofString "index") (.exc "NoWallet" ["index"] [d]) = some d := rfl
    have e2 : isx2D G57.es ["NoAnswer"] [.exc "NoWallet" ["index"] [d], .ecl "NoAnswer"] = some (.bl true) := by
      show (if Str.ofString "NoWallet" ∈ G57.es ∧ Str.ofString "NoAnswer" ∈ [Str.ofString "NoAnswer"] then some (D.bl (exS (Str.ofString "NoWallet") (Str.ofString "NoAnswer"))) else none) = _
      rw [if_pos (by decide), show exS (Str.ofString "NoWallet") (Str.ofString "NoAnswer") = true from by decide]
    simp [ok_repA, e1, e2]
    rw [h5, ok_pure]
    exact hR (.rt _) _ h6
end G57

set_option Elab.async false
set_option linter.all false
set_option maxRecDepth 100000
set_option maxHeartbeats 4000000
namespace G57
open PySem L2 Mi P20 Sh S3
def Nn (xs : List Int) : Prop := ∀ x ∈ xs, (0 : Int) ≤ x
theorem falling_ok {u : PuS} (hu : Pu u) {P : D → PuS → Prop} (h : ∀ (row : List Int) u', Nn row → row.length ≤ 11 → Pu u' → P (rowL row) u') : Ok (mf__law_falling [.pur, .int 11]) u P := by
  unfold mf__law_falling mb__law_falling
  rw [ok_fn]
  refine seq_go fun K R hK hR => ?_
  simp [mBorLs]
  refine draw_ok (by decide) hu fun n u1 n0 n1 hu1 => ?_
  obtain ⟨n, rfl⟩ : ∃ j : Nat, n = (j : Int) := ⟨n.toNat, by omega⟩
  rw [e_rng1]
  refine ⟨⟨by omega, by omega⟩, by rw [rngD_len]; omega, ?_⟩
  refine (ok_lc (g := mGn 3) (mt := mYes) (me := ce__law_falling_1) Pu (fun d => ∃ b : Int, 0 ≤ b ∧ d = .int b) _ u1 hu1 ?_).mono fun ys u2 hy => ?_
  · intro d hd u hu
    refine ⟨_, rfl, ?_⟩
    unfold ce__law_falling_1
    simp
    refine amount_ok hu fun r u' r0 _ hu' => ?_
    exact ⟨_, rfl, ⟨_, by omega, rfl⟩, hu'⟩
  obtain ⟨⟨hyl, hye⟩, hu2⟩ := hy
  obtain ⟨bs, rfl, hb⟩ := int_list hye
  rw [rngD_len, List.length_map] at hyl
  refine hK _ _ ?_
  clear hK hR K R
  simp [srt_ints]
  rw [← List.map_reverse]
  refine h _ u2 (fun x hx => ?_) ?_ hu2
  · exact hb x ((srtI_perm false bs).mem_iff.mp (List.mem_reverse.mp hx))
  · rw [List.length_reverse, (srtI_perm false bs).length_eq]
    omega
theorem bills_ok {bs : List Int} (h : Nn bs) (hl : bs.length ≤ 12) : EvsOk (bs.map Sum.inl : List Ev) := ⟨fun e he => by
  obtain ⟨x, hx, rfl⟩ := List.mem_map.mp he
  exact h x hx, by rw [nB_bills]; exact hl, by rw [nC_bills]; omega⟩
theorem near_ok {row : List Int} (h0 : Nn row) (hl : row.length ≤ 11) {u : PuS} (hu : Pu u) {P : D → PuS → Prop} (h : ∀ (es : List Ev) u', EvsOk es → Pu u' → P (.lst (es.map evR)) u') : Ok (mf__law_near_row [.pur, .lst (row.map D.int)]) u P := by
  unfold mf__law_near_row mb__law_near_row
  rw [ok_fn]
  refine seq_go fun K R hK hR => ?_
  simp
  refine draw_ok (by decide) hu fun way u1 w0 w7 hu1 => ?_
  refine draw_ok (by omega) hu1 fun m u2 m0 m1 hu2 => ?_
  obtain ⟨m, rfl⟩ : ∃ j : Nat, m = (j : Int) := ⟨m.toNat, by omega⟩
  refine hK _ _ ?_
  clear hK hR K R
  refine seq_go fun K R hK hR => ?_
  simp
  refine draw_ok (by decide) hu2 fun tn u3 t0 t1 hu3 => ?_
  refine draw_ok (by decide) hu3 fun by_ u4 b0 b1 hu4 => hK _ _ ?_
  clear hK hR K R
  rw [cut_to, ← List.map_take]
  have hb0 : Nn (row.take m) := fun x hx => h0 x (List.mem_of_mem_take hx)
  have hbl : (row.take m).length = m := by rw [List.length_take]; omega
  generalize row.take m = bs at hb0 hbl
  have hm11 : m ≤ 11 := by omega
  have hsum : 0 ≤ bs.sum := by
    clear hbl
    induction bs with
    | nil => exact Int.le_refl _
    | cons a l ih =>
      rw [List.sum_cons]
      have := hb0 a List.mem_cons_self
      have := ih fun x hx => hb0 x (List.mem_cons_of_mem _ hx)
      omega
  have hsm : sumD [.lst (bs.map D.int)] = some (.int bs.sum) := by
    show (intsD (bs.map D.int)).map _ = _
    rw [intsD_map]
    rfl
  refine seq_go fun K R hK hR => ?_
  simp [hsm]
  refine ⟨rfl, hK _ _ ?_⟩
  clear hK hR K R
  obtain ⟨tot, htot⟩ : ∃ tot, tot = bs.sum := ⟨_, rfl⟩
  rw [← htot] at hsum ⊢
  have inv0 : ∀ (bs : List Int), Nn bs → bs.length = m → True := fun _ _ _ => trivial
  refine seq_cut (fun ρ u' => Pu u' ∧ ∃ bs : List Int, Nn bs ∧ bs.length = m ∧ ρ = [.sh .pur, .sh (.lst (row.map D.int)), .sh (.int way), .sh (.int (m : Int)), .sh (.int tn), .sh (.int by_), .ow (bs.map D.int), .sh (.int tot), .un, .un, .un, .un]) ?_ ?_
  · simp [mBorLs]
    refine brd (fun z => ?_) (fun z => ⟨hu4, bs, hb0, hbl, rfl⟩)
    refine ⟨by omega, by rw [rngD_len]; omega, ?_⟩
    rw [rngD_zero]
    refine ok_lca (xs := List.range m) (f := fun k : Nat => D.int (k : Nat)) (fun k => [.sh .pur, .sh (.lst (row.map D.int)), .sh (.int way), .sh (.int (m : Int)), .sh (.int tn), .sh (.int by_), .ow (bs.map D.int), .sh (.int tot), .un, .un, .un, .sh (.int (k : Int))]) (fun k => .int ((tot + (k : Int)) / (m : Int))) (fun k hk => rfl) (fun k hk => ?_) ?_
    · have hk := List.mem_range.mp hk
      unfold ce__law_near_row_1
      have e3 : fdivC (tot + (k : Int)) (m : Int) = true := fdivC_small (by omega)
      have ef : fdivD (.int (tot + (k : Int))) (.int (m : Int)) = some (.int ((tot + (k : Int)) / (m : Int))) := if_pos e3
      simp [ef]
    · have e : (List.range m).map (fun k : Nat => D.int ((tot + (k : Int)) / (m : Int))) = ((List.range m).map fun k : Nat => (tot + (k : Int)) / (m : Int)).map D.int := by rw [List.map_map]; rfl
      refine ⟨hu4, (List.range m).map fun k : Nat => (tot + (k : Int)) / (m : Int), fun x hx => ?_, by simp, by rw [e]⟩
      obtain ⟨k, hk, rfl⟩ := List.mem_map.mp hx
      exact Int.ediv_nonneg (by omega) (by omega)
  clear hu4 hb0 hbl hsm htot bs
  rintro ρ u4 ⟨hu4, bs, hb0, hbl, rfl⟩
  have neb : ∀ bs : List Int, neMD (.lst (bs.map D.int)) (.lst []) = some (.bl (!decide (bs = []))) := fun bs => s_neL0
  refine seq_cut (fun ρ u' => Pu u' ∧ ∃ bs : List Int, Nn bs ∧ bs.length = m ∧ ρ = [.sh .pur, .sh (.lst (row.map D.int)), .sh (.int way), .sh (.int (m : Int)), .sh (.int tn), .sh (.int by_), .ow (bs.map D.int), .sh (.int tot), .un, .un, .un, .un]) ?_ ?_
  · simp [neb]
    refine brd (fun z => ?_) (fun z => ⟨hu4, bs, hb0, hbl, rfl⟩)
    refine brd (fun z2 => ⟨hu4, bs, hb0, hbl, rfl⟩) (fun z2 => ?_)
    obtain ⟨a, l, rfl⟩ : ∃ a l, bs = a :: l := by
      cases bs with
      | nil => exact absurd rfl z2
      | cons a l => exact ⟨a, l, rfl⟩
    refine ⟨.int a, at_nat (k := 0) rfl, _, s_add, 0, by unfold ixN; simp, hu4, (a + by_) :: l, fun x hx => ?_, hbl, rfl⟩
    rcases List.mem_cons.mp hx with rfl | hx
    · have := hb0 a List.mem_cons_self
      omega
    · exact hb0 x (List.mem_cons_of_mem _ hx)
  clear hu4 hb0 hbl bs
  rintro ρ u4 ⟨hu4, bs, hb0, hbl, rfl⟩
  refine seq_cut (fun ρ u' => Pu u' ∧ ∃ bs : List Int, Nn bs ∧ bs.length = m ∧ ρ = [.sh .pur, .sh (.lst (row.map D.int)), .sh (.int way), .sh (.int (m : Int)), .sh (.int tn), .sh (.int by_), .ow (bs.map D.int), .sh (.int tot), .un, .un, .un, .un]) ?_ ?_
  · simp [neb]
    refine brd (fun z => ?_) (fun z => ⟨hu4, bs, hb0, hbl, rfl⟩)
    refine brd (fun z2 => ⟨hu4, bs, hb0, hbl, rfl⟩) (fun z2 => ?_)
    have hpos : 0 < m := by
      rw [← hbl]
      exact List.length_pos_iff.mpr z2
    have em : (m : Int) - 1 = ((m - 1 : Nat) : Int) := by omega
    have e1 : atI (bs.map D.int) ((m - 1 : Nat) : Int) = some (.int bs[m - 1]) := at_nat (by rw [List.getElem?_map, List.getElem?_eq_getElem (by omega)]; rfl)
    have e2 : ixN bs.length ((m - 1 : Nat) : Int) = some (m - 1) := by
      unfold ixN
      rw [if_pos (by omega), if_pos (by omega), Int.toNat_natCast]
    rw [em]
    refine ⟨_, e1, ?_⟩
    simp
    refine ⟨_, e2, hu4, bs.set (m - 1) (if by_ < bs[m - 1] then bs[m - 1] - by_ else 0), fun x hx => ?_, by rw [List.length_set]; exact hbl, ?_⟩
    · rcases List.mem_or_eq_of_mem_set hx with w | rfl
      · exact hb0 x w
      · split <;> omega
    · rw [List.map_set]
  clear hu4 hb0 hbl bs
  rintro ρ u4 ⟨hu4, bs, hb0, hbl, rfl⟩
  refine seq_cut (fun ρ u' => Pu u' ∧ ∃ bs : List Int, Nn bs ∧ bs.length = m ∧ ρ = [.sh .pur, .sh (.lst (row.map D.int)), .sh (.int way), .sh (.int (m : Int)), .sh (.int tn), .sh (.int by_), .ow (bs.map D.int), .sh (.int tot), .un, .un, .un, .un]) ?_ ?_
  · simp [mBorLs]
    refine brd (fun z => ?_) (fun z => ⟨hu4, bs, hb0, hbl, rfl⟩)
    refine ⟨by omega, by rw [rngD_len]; omega, ?_⟩
    refine (ok_lc (g := mGn 11) (mt := mYes) (me := ce__law_near_row_2) Pu (fun d => ∃ b : Int, 0 ≤ b ∧ d = .int b) _ u4 hu4 ?_).mono fun ys u5 hy => ?_
    · intro d hd u hu
      refine ⟨_, rfl, ?_⟩
      unfold ce__law_near_row_2
      simp
      refine amount_ok hu fun r u' r0 _ hu' => ?_
      exact ⟨⟨r, r0, rfl⟩, hu'⟩
    obtain ⟨⟨hyl, hye⟩, hu5⟩ := hy
    obtain ⟨cs, rfl, hc⟩ := int_list hye
    rw [rngD_len, List.length_map] at hyl
    exact ⟨hu5, cs, hc, by omega, rfl⟩
  clear hu4 hb0 hbl bs
  rintro ρ u4 ⟨hu4, bs, hb0, hbl, rfl⟩
  refine seq_cut (fun ρ u' => Pu u' ∧ ∃ bs : List Int, Nn bs ∧ bs.length ≤ 12 ∧ (way = 5 → bs.length ≤ 11) ∧ ρ = [.sh .pur, .sh (.lst (row.map D.int)), .sh (.int way), .sh (.int (m : Int)), .sh (.int tn), .sh (.int by_), .ow (bs.map D.int), .sh (.int tot), .un, .un, .un, .un]) ?_ ?_
  · simp
    refine brd (fun z => ?_) (fun z => ⟨hu4, bs, hb0, by omega, fun _ => by omega, rfl⟩)
    refine ⟨by omega, hu4, bs ++ [by_], fun x hx => ?_, by rw [List.length_append]; show bs.length + 1 ≤ 12; omega, fun z5 => by omega, by rw [List.map_append]; rfl⟩
    rcases List.mem_append.mp hx with w | w
    · exact hb0 x w
    · rw [List.mem_singleton.mp w]; exact b0
  clear hu4 hb0 hbl bs
  rintro ρ u4 ⟨hu4, bs, hb0, hbl, hb5, rfl⟩
  refine seq_go fun K R hK hR => ?_
  simp
  refine hK _ _ ?_
  clear hK hR K R
  obtain ⟨a, ha⟩ : ∃ a : Nat, tn % ((bs.length : Int) + 1) = (a : Int) := ⟨(tn % ((bs.length : Int) + 1)).toNat, by have := Int.emod_nonneg tn (show ((bs.length : Int) + 1) ≠ 0 by omega); omega⟩
  rw [ha]
  refine seq_go fun K R hK hR => ?_
  simp
  rw [cut_from, cut_to, ← List.map_drop, ← List.map_take]
  have eadd : addD (.lst ((bs.drop a).map D.int)) (.lst ((bs.take a).map D.int)) = some (.lst ((bs.drop a ++ bs.take a).map D.int)) := by
    rw [List.map_append]
    exact if_pos (by rw [List.length_map, List.length_map, List.length_drop, List.length_take]; omega)
  refine ⟨_, eadd, hK _ _ ?_⟩
  clear hK hR K R eadd
  have hr0 : Nn (bs.drop a ++ bs.take a) := fun x hx => by
    rcases List.mem_append.mp hx with w | w
    · exact hb0 x (List.mem_of_mem_drop w)
    · exact hb0 x (List.mem_of_mem_take w)
  have hrl : (bs.drop a ++ bs.take a).length = bs.length := by rw [List.length_append, List.length_drop, List.length_take]; omega
  have hre : (bs = []) ↔ (bs.drop a ++ bs.take a = []) := by
    rw [← List.length_eq_zero_iff, ← List.length_eq_zero_iff, hrl]
  generalize bs.drop a ++ bs.take a = rs at hr0 hrl hre
  have fin : ∀ {u' : PuS}, Pu u' → P (.lst (rs.map D.int)) u' := fun {u'} hu' => by
    rw [bills_ev]
    exact h _ u' (bills_ok hr0 (by omega)) hu'
  refine seq_go fun K R hK hR => ?_
  simp [neb]
  have fin2 : ∀ {ρ : Mi.Env}, vSh ρ 9 = some (.lst (rs.map D.int)) → Ok (mRet (mVar 9) ρ) u4 fun f u' => match f with
      | .rt d => P d u'
      | .nx _ => P .non u'
      | _ => False := fun {ρ} hv => by
    rw [ok_ret, ok_var]
    exact ⟨_, hv, fin hu4⟩
  refine brd (fun z => ?_) (fun z => hK _ _ (fin2 rfl))
  refine brd (fun z2 => hK _ _ (fin2 rfl)) (fun z2 => ?_)
  refine card_ok hu4 fun q u5 hq hqb hu5 => ?_
  obtain ⟨r0, rr, rfl⟩ : ∃ r0 rr, rs = r0 :: rr := by
    cases rs with
    | nil => exact absurd (hre.mpr rfl) z2
    | cons x l => exact ⟨x, l, rfl⟩
  have e0 : atI ((r0 :: rr).map D.int) 0 = some (.int r0) := at_nat (k := 0) rfl
  refine ⟨_, e0, ?_⟩
  refine lworth_ok (q := q) (k := 1) (by decide) ?_
  refine ⟨_, s_add, ?_⟩
  have ec : cutD ((r0 :: rr).map D.int) (some 1) none = rr.map D.int := by
    have := cut_from (xs := (r0 :: rr).map D.int) (k := 1)
    rw [show ((1 : Nat) : Int) = 1 from rfl] at this
    rw [this]
    rfl
  rw [ec]
  have ev : [prD q, .int (r0 + wor q.1 q.2 1)] ++ rr.map D.int = (([.inr q, .inl (r0 + wor q.1 q.2 1)] : List Ev) ++ rr.map Sum.inl).map evR := by
    rw [List.map_append, ← bills_ev]
    rfl
  have ea : addD (.lst [prD q, .int (r0 + wor q.1 q.2 1)]) (.lst (rr.map D.int)) = some (.lst ((([.inr q, .inl (r0 + wor q.1 q.2 1)] : List Ev) ++ rr.map Sum.inl).map evR)) := by
    rw [← ev]
    exact if_pos (by rw [List.length_map]; show 2 + rr.length ≤ 100000; simp at hrl; omega)
  refine ⟨_, ea, hR _ _ (h _ u5 ?_ hu5)⟩
  have hw : 0 ≤ wor q.1 q.2 1 := by unfold wor; omega
  have hrl5 := hb5 z
  have h00 := hr0 r0 List.mem_cons_self
  refine ⟨fun e he => ?_, ?_, ?_⟩
  · rcases List.mem_append.mp he with w | w
    · rcases List.mem_cons.mp w with rfl | w
      · exact hq
      · rw [List.mem_singleton.mp w]
        show (0 : Int) ≤ r0 + wor q.1 q.2 1
        omega
    · obtain ⟨x, hx, rfl⟩ := List.mem_map.mp w
      exact hr0 x (List.mem_cons_of_mem _ hx)
  · show nB (.inr q :: .inl (r0 + wor q.1 q.2 1) :: rr.map Sum.inl) ≤ 12
    rw [nB_inr, nB_inl, nB_bills]
    simp at hrl
    omega
  · show nC (.inr q :: .inl (r0 + wor q.1 q.2 1) :: rr.map Sum.inl) ≤ 6
    have : nC (.inr q :: .inl (r0 + wor q.1 q.2 1) :: rr.map Sum.inl) = nC (rr.map Sum.inl : List Ev) + 1 := rfl
    rw [this, nC_bills]
    omega
end G57

set_option Elab.async false
set_option linter.all false
set_option maxRecDepth 100000
set_option maxHeartbeats 4000000
/-! MiDx: dicts whose keys are nested tuples of numbers, under the abstract heap: {}, d[k] = v, k in d, list(d), d.keys(). -/
namespace Mi
open PySem PySem.Spec PyProof.Rows L2
variable [TB : Tabl]
/-- nested tuples of numbers on the abstract heap -/
inductive NkH (K : PySem.W.Frag) (H : Hp) : NestedKey → V → Prop
  | num (i : Int) : NkH K H (.num i) (.int i)
  | tup {a : Addr} {vs : List V} {ks : List NestedKey} (h : SqT K H a vs) (l : vs.length = ks.length) (r : ∀ (i : Nat) (v : V) (k : NestedKey), vs[i]? = some v → ks[i]? = some k → NkH K H k v) : NkH K H (.tup ks) (.ref a)
theorem keyNs_get : ∀ {ds : List D} {ks : List NestedKey}, keyNs ds = some ks → ds.length = ks.length ∧ ∀ (i : Nat) (d : D) (k : NestedKey), ds[i]? = some d → ks[i]? = some k → keyN d = some k
  | [], ks, h => by
    have : ks = [] := by unfold keyNs at h; exact (Option.some.inj h).symm
    subst this
    exact ⟨rfl, fun i d k e => by simp at e⟩
  | d :: r, ks, h => by
    unfold keyNs at h
    cases e1 : keyN d with
    | none => rw [e1] at h; simp at h
    | some k1 =>
      cases e2 : keyNs r with
      | none => rw [e1, e2] at h; simp at h
      | some k2 =>
        rw [e1, e2] at h
        have : ks = k1 :: k2 := (Option.some.inj h).symm
        subst this
        obtain ⟨l, g⟩ := keyNs_get e2
        refine ⟨by simp [l], fun i d' k a b => ?_⟩
        cases i with
        | zero => simp at a b; subst a; subst b; exact e1
        | succ i => simp at a b; exact g i d' k a b
theorem Rep.key {W : Wo} {p : Addr} {F : Hp} {v : V} {d : D} (h : Rep W p F v d) : ∀ {H : Hp} {k : NestedKey}, Same F H → keyN d = some k → NkH W.K H k v := by
  induction h with
  | int i => intro H k e z; unfold keyN at z; cases z; exact .num i
  | tup h l r ih =>
    intro H k e z
    unfold keyN at z
    obtain ⟨ks, e1, rfl⟩ := Option.map_eq_some_iff.mp z
    obtain ⟨l2, g⟩ := keyNs_get e1
    refine .tup (sq_t e h) (l.trans l2) fun i v k a b => ?_
    rename_i vs ds
    have hi : i < ds.length := by
      have := (List.getElem?_eq_some_iff.mp b).1
      omega
    exact ih i v ds[i] a (List.getElem?_eq_getElem hi) e (g i _ k (List.getElem?_eq_getElem hi) b)
  | _ => intro H k e z; unfold keyN at z; cases z
section
variable {X : Cx} {pins : List (Addr × Obj)} {σ : L2.St} {H : Hp} {s : Shared}
theorem nall {h : Heap} : ∀ {vs : List V} {its : List Value} {ks : List NestedKey}, Vals vs its → vs.length = ks.length → (∀ (i : Nat) (v : V) (k : NestedKey), vs[i]? = some v → ks[i]? = some k → ∀ {u : Value}, RelV v u → NestedIs h k u) → NestedAll h ks its
  | [], [], [], _, _, _ => .nil
  | [], [], _ :: _, _, l, _ => by simp at l
  | v :: vs, u :: us, [], _, l, _ => by simp at l
  | v :: vs, u :: us, k :: ks, r, l, f => by
    cases r with
    | cons r1 r2 => exact .cons (f 0 v k rfl rfl r1) (nall r2 (by simpa using l) fun i v k a b => f (i + 1) v k (by simpa using a) (by simpa using b))
theorem NkH.is (I : Inv X pins σ H s) {k : NestedKey} {v : V} (h : NkH X.K H k v) : ∀ {u : Value}, RelV v u → NestedIs s.heap k u := by
  induction h with
  | num i => intro u r; obtain ⟨t, rfl⟩ := (show ∃ t, u = Value.int i t from r); exact .int i t
  | tup h l r ih =>
    intro u ru
    obtain rfl : u = .ref _ := ru
    obtain ⟨its, hv, ⟨o, ho, hc, n, hd⟩, _⟩ := I.tuple h
    exact .tup ho hc hd (by simpa using nall hv l fun i v k a b => ih i v k a b)
end
section
variable {X : Cx} {tg e : Expr} {td : TE} {apos cpos : Pos}
end
end Mi

set_option Elab.async false
set_option linter.all false
set_option maxRecDepth 100000
set_option maxHeartbeats 4000000
/-! MiDy: mirrors of dicts with nested keys: owned by a slot, frozen. -/
namespace Mi
open PySem PySem.Spec PyProof.Rows L2
variable [TB : Tabl]
/-! ### keys -/
def hasK (ks : List D) (k : NestedKey) : Bool := ks.any fun d => decide (keyN d = some k)
def putKs (ks : List D) (kk : NestedKey) (k : D) : List D := if hasK ks kk = true then ks else ks ++ [k]
def putDs (ks ds : List D) (kk : NestedKey) (v : D) : List D := if hasK ks kk = true then List.zipWith (fun d w => if keyN d = some kk then v else w) ks ds else ds ++ [v]
section
variable {W : Wo} {p : Addr} {F H : Hp} {xs : List (NestedKey × Addr × Value)} {vs : List V} {ks ds : List D}
theorem has_iff (hl : xs.length = ks.length) (hk : ∀ (i : Nat) (x : NestedKey × Addr × Value) (d : D), xs[i]? = some x → ks[i]? = some d → keyN d = some x.1 ∧ x.1.depth ≤ 8) (k : NestedKey) : (atKey xs k).isSome = hasK ks k := by
  have h1 : (atKey xs k).isSome = xs.any fun x => decide (x.1 = k) := by
    unfold atKey
    rw [Option.isSome_map, Bool.eq_iff_iff, List.find?_isSome, List.any_eq_true]
  rw [h1]
  unfold hasK
  have : ∀ (xs : List (NestedKey × Addr × Value)) (ks : List D), xs.length = ks.length → (∀ (i : Nat) (x : NestedKey × Addr × Value) (d : D), xs[i]? = some x → ks[i]? = some d → keyN d = some x.1 ∧ x.1.depth ≤ 8) → (xs.any fun x => decide (x.1 = k)) = ks.any fun d => decide (keyN d = some k) := by
    intro xs
    induction xs with
    | nil => intro ks hl _; cases ks with
      | nil => rfl
      | cons d ks => simp at hl
    | cons x xs ih => intro ks hl hk; cases ks with
      | nil => simp at hl
      | cons d ks =>
        rw [List.any_cons, List.any_cons, ih ks (by simpa using hl) fun i x d a b => hk (i + 1) x d (by simpa using a) (by simpa using b)]
        have := (hk 0 x d rfl rfl).1
        rw [this]
        simp
  exact this xs ks hl hk
theorem DctR.put (R : DctR W p F xs vs ks ds) {kk : NestedKey} {b : Addr} {u : Value} {k v : D} {w : V} (ek : keyN k = some kk) (hd : kk.depth ≤ 8) (rk : Rep W p F (.ref b) k) (rv : Rep W p F w v) (ru : RelV w u) : ∃ vs', DctR W p F (storedH xs kk b u) vs' (putKs ks kk k) (putDs ks ds kk v) := by
  have hh := has_iff R.lk R.hk kk
  cases hb : hasK ks kk with
  | true =>
    rw [hb] at hh
    have e1 : storedH xs kk b u = xs.map (putAt kk u) := by unfold storedH; rw [if_pos hh]
    have e2 : putKs ks kk k = ks := by unfold putKs; rw [if_pos hb]
    have e3 : putDs ks ds kk v = List.zipWith (fun d w => if keyN d = some kk then v else w) ks ds := by unfold putDs; rw [if_pos hb]
    refine ⟨List.zipWith (fun d x => if keyN d = some kk then w else x) ks vs, ?_⟩
    rw [e1, e2, e3]
    have lkd : ks.length = ds.length := by rw [← R.lk, R.lv, R.l]
    have lkv : ks.length = vs.length := by rw [← R.lk, R.lv]
    have back : ∀ {i : Nat} {x : NestedKey × Addr × Value}, (xs.map (putAt kk u))[i]? = some x → ∃ y, xs[i]? = some y ∧ x = putAt kk u y := fun {i x} e => by
      rw [List.getElem?_map] at e
      cases e0 : xs[i]? with
      | none => rw [e0] at e; cases e
      | some y => rw [e0] at e; exact ⟨y, rfl, (Option.some.inj e).symm⟩
    have fst : ∀ y : NestedKey × Addr × Value, (putAt kk u y).1 = y.1 ∧ (putAt kk u y).2.1 = y.2.1 := fun y => by unfold putAt; split <;> exact ⟨rfl, rfl⟩
    refine ⟨by rw [List.length_map]; exact R.lk, by rw [List.length_map, List.length_zipWith, R.lv]; omega, by rw [List.length_zipWith, List.length_zipWith]; omega, fun i x d a c => ?_, fun i x z a c => ?_, fun i x d a c => ?_, fun i z d a c => ?_⟩
    · obtain ⟨y, ey, rfl⟩ := back a
      rw [(fst y).1]
      exact R.hk i y d ey c
    · obtain ⟨y, ey, rfl⟩ := back a
      have hi : i < ks.length := by
        have := (List.getElem?_eq_some_iff.mp ey).1
        rw [← R.lk]; exact this
      have hv : i < vs.length := by omega
      have eki : ks[i]? = some ks[i] := List.getElem?_eq_getElem hi
      have evi : vs[i]? = some vs[i] := List.getElem?_eq_getElem hv
      rw [List.getElem?_zipWith, eki, evi] at c
      have hky := (R.hk i y _ ey eki).1
      have c : (if keyN ks[i] = some kk then w else vs[i]) = z := by simpa using c
      rw [hky] at c
      unfold putAt
      by_cases hy : y.1 = kk
      · rw [if_pos hy]
        rw [if_pos (by rw [hy])] at c
        subst c
        exact ru
      · rw [if_neg hy]
        rw [if_neg (fun z => hy (Option.some.inj z))] at c
        subst c
        exact R.rv i y _ ey evi
    · obtain ⟨y, ey, rfl⟩ := back a
      rw [(fst y).2]
      exact R.rk i y d ey c
    · have hi : i < vs.length := by
        have := (List.getElem?_eq_some_iff.mp a).1
        simp at this
        omega
      have eki : ks[i]? = some (ks[i]'(by omega)) := List.getElem?_eq_getElem (by omega)
      have evi : vs[i]? = some vs[i] := List.getElem?_eq_getElem hi
      have edi : ds[i]? = some (ds[i]'(by omega)) := List.getElem?_eq_getElem (by omega)
      rw [List.getElem?_zipWith, eki, evi] at a
      rw [List.getElem?_zipWith, eki, edi] at c
      have a : (if keyN (ks[i]'(by omega)) = some kk then w else vs[i]) = z := by simpa using a
      have c : (if keyN (ks[i]'(by omega)) = some kk then v else (ds[i]'(by omega))) = d := by simpa using c
      split at a
      · rename_i hq
        rw [if_pos hq] at c
        subst a; subst c
        exact rv
      · rename_i hq
        rw [if_neg hq] at c
        subst a; subst c
        exact R.r i _ _ evi edi
  | false =>
    rw [hb] at hh
    have e1 : storedH xs kk b u = xs ++ [(kk, b, u)] := by unfold storedH; rw [if_neg (by rw [hh]; simp)]
    have e2 : putKs ks kk k = ks ++ [k] := by unfold putKs; rw [if_neg (by rw [hb]; simp)]
    have e3 : putDs ks ds kk v = ds ++ [v] := by unfold putDs; rw [if_neg (by rw [hb]; simp)]
    refine ⟨vs ++ [w], ?_⟩
    rw [e1, e2, e3]
    have two : ∀ {α β : Type} {l : List α} {m : List β} {a x : α} {c y : β} {i : Nat} {Φ : Nat → α → β → Prop}, l.length = m.length → (∀ (i : Nat) (x : α) (y : β), l[i]? = some x → m[i]? = some y → Φ i x y) → Φ l.length a c → (l ++ [a])[i]? = some x → (m ++ [c])[i]? = some y → Φ i x y := fun {α β l m a x c y i Φ} hl h1 h2 ex ey => by
      by_cases hi : i < l.length
      · rw [List.getElem?_append_left hi] at ex
        rw [List.getElem?_append_left (by omega)] at ey
        exact h1 i x y ex ey
      · have hi2 : i = l.length := by
          have := (List.getElem?_eq_some_iff.mp ex).1
          simp at this
          omega
        subst hi2
        rw [List.getElem?_append_right (Nat.le_refl _)] at ex
        rw [List.getElem?_append_right (by omega)] at ey
        simp at ex
        rw [hl] at ey
        simp at ey
        subst ex; subst ey
        exact h2
    have l1 := R.lk
    have l2 := R.lv
    have l3 := R.l
    refine ⟨by simp [l1], by simp [l2], by simp [l3], fun i x d a c => two (Φ := fun _ x d => keyN d = some x.1 ∧ x.1.depth ≤ 8) l1 (fun i x y => R.hk i x y) ⟨ek, hd⟩ a c, fun i x z a c => two (Φ := fun _ x z => RelV z x.2.2) l2 (fun i x y => R.rv i x y) ru a c, fun i x d a c => two (Φ := fun _ x d => Rep W p F (.ref x.2.1) d) l1 (fun i x y => R.rk i x y) rk a c, fun i z d a c => two (Φ := fun _ z d => Rep W p F z d) l3 (fun i x y => R.r i x y) rv a c⟩
end
/-! ### slots -/
section
variable {c : Cf} {u : PuS} {F H : Hp} {σ : L2.St} {ρ : Env}
theorem Sta.od {i : Nat} {ks ds : List D} (S : Sta c u F H σ ρ) (e : ρ[i]? = some (.od ks ds)) : ∃ q o xs vs, σ[i]? = some (some (.ref q)) ∧ H q = some (dxO q o) ∧ F q = none ∧ q ≠ c.p ∧ c.H0 q = none ∧ DxO q o xs ∧ DctR c.W c.p F xs vs ks ds := S.env.at_ i _ e
/-- a fresh dict at q is owned by the slot i -/
theorem Sta.setD {i : Nat} {q : Addr} {o : Obj} (S : Sta c u F H σ ρ) (hn : H q = none) (hx : DxO q o []) :
    Sta c u F (upd H q (dxO q o)) (σ.set i (some (.ref q))) (ρ.set i (.od [] [])) := by
  have S1 := S.step (Stp.own (o := dxO q o) hn) (S.gd.own hn)
  have hF := S.gd.fresh hn
  have hp : q ≠ c.p := fun e => S.gd.ne (e ▸ hn)
  have h0 : c.H0 q = none := S.ent.back S.gd.ne hn
  have nq : ∀ {j : Nat} {t : Sd}, ρ[j]? = some t → t.own = true → σ[j]? ≠ some (some (.ref q)) := fun {j t} e o z => by
    obtain ⟨q', e', hq', _⟩ := (S.env.at_ j t e).ref o
    rw [z] at e'
    injection e' with e'
    injection e' with e'
    injection e' with e'
    subst e'
    exact hq' hn
  refine ⟨S1.ent, S1.gd, by simpa using S.env.len, fun j t e => ?_, fun j k t t' h e1 e2 o1 o2 => ?_⟩
  · rcases set_get e with ⟨rfl, rfl, hl⟩ | ⟨ne, e⟩
    · exact ⟨q, o, [], [], List.getElem?_set_self (by rw [S.env.len]; exact hl), upd_same, hF, hp, h0, hx, rfl, rfl, rfl, (fun i x d a => by simp at a), (fun i x d a => by simp at a), (fun i x d a => by simp at a), (fun i x d a => by simp at a)⟩
    · rw [List.getElem?_set_ne ne]; exact S1.env.at_ j t e
  · rcases set_get e1 with ⟨rfl, rfl, hl⟩ | ⟨n1, e1⟩
    · rcases set_get e2 with ⟨e, _, _⟩ | ⟨n2, e2⟩
      · exact absurd e h
      · rw [List.getElem?_set_self (by rw [S.env.len]; exact hl), List.getElem?_set_ne n2]; exact fun z => nq e2 o2 z.symm
    · rcases set_get e2 with ⟨rfl, rfl, hl⟩ | ⟨n2, e2⟩
      · rw [List.getElem?_set_self (by rw [S.env.len]; exact hl), List.getElem?_set_ne n1]; exact nq e1 o1
      · rw [List.getElem?_set_ne n1, List.getElem?_set_ne n2]; exact S.env.ne j k t t' h e1 e2 o1 o2
end
/-- the dict with k : v -/
def dputD (q : List D × List D) (k v : D) : Option (List D × List D) := match k, keyN k with
  | .tup _, some kk => if kk.depth ≤ 8 ∧ q.1.length < 16000000 then some (putKs q.1 kk k, putDs q.1 q.2 kk v) else none
  | _, _ => none
section
variable {X : Cx} {c : Cf} {pos : Pos} {e ie : Expr} {m mi : ME} {i : Nat} {x : Str}
end
end Mi


set_option Elab.async false
set_option linter.all false
set_option maxRecDepth 100000
set_option maxHeartbeats 4000000
namespace S3
open PySem PySem.Spec PyProof.Rows L2 Mi He Sh
@[reducible] def ce__law_events_1 : ME := mCall 2 mf__law_draw (mCons (mVar 0) (mCons (mBin addD (mVar 2) (mC (.int 1))) (mNil)))
@[reducible] def mb__law_events : MS := mSeq (mSet 3 (mCall 2 mf__law_draw (mCons (mVar 0) (mCons (mC (.int 3)) (mNil))))) (mSeq (mSet 4 (mFz (mBorLs [] (mLcO [6] (mIof rng1 (mCons (mCall 2 mf__law_draw (mCons (mVar 0) (mCons (mBin addD (mVar 1) (mC (.int 1))) (mNil)))) (mNil))) (mGn 6) (mYes) (ce__law_events_1))))) (mSeq (mIfS (mB (mBin gtD (mVar 3) (mC (.int 0)))) (mRet (mVar 4)) (mNext)) (mSeq (mSet 5 (mCall 2 mf__law_draw (mCons (mVar 0) (mCons (mBin addD (mCB lenD (mCons (mVar 4) (mNil))) (mC (.int 1))) (mNil))))) (mRet (mBin addD (mBin addD (mSl (mVar 4) (mOn) (mOs (mVar 5))) (mFz (mLstO (mCons (mTup (mCons (mCall 2 mf__law_draw (mCons (mVar 0) (mCons (mC (.int 5)) (mNil)))) (mCons (mBin addD (mC (.int 1)) (mCall 2 mf__law_draw (mCons (mVar 0) (mCons (mC (.int 2)) (mNil))))) (mNil)))) (mNil))))) (mSl (mVar 4) (mOs (mVar 5)) (mOn)))))))
def mf__law_events : List D → M D := mFn 7 mb__law_events
end S3

set_option Elab.async false
set_option linter.all false
set_option maxRecDepth 100000
set_option maxHeartbeats 4000000
/-! K8m: all ways of paying, gone through, plain. -/
namespace P20
open Mi L2
/-- some payments pay the events -/
def PayX : List (Int × Int) → List Ev → Prop
  | _, [] => True
  | am, .inr q :: r => PayX (am ++ [q]) r
  | am, .inl x :: r => ∃ ys, Box am ys ∧ ys.sum = x ∧ PayX (lbh am ys) r
/-! ### the ways to pay one bill -/
def wstep (q : Int × Int) (fs : List (List Int × Int)) : List (List Int × Int) := fs.flatMap fun f => (List.range (min (min q.1 q.2) f.2 + 1).toNat).map fun i : Nat => (f.1 ++ [(i : Int)], f.2 - (i : Int))
def wall (fs : List (List Int × Int)) (am : List (Int × Int)) : List (List Int × Int) := am.foldl (fun fs q => wstep q fs) fs
def ways (am : List (Int × Int)) (x : Int) : List (List Int) := ((wall [([], x)] am).filter fun f => decide (f.2 = 0)).map Prod.fst
/-! ### states below given cards -/
/-- the same limits, balances no greater -/
def Below : List (Int × Int) → List (Int × Int) → Prop
  | [], [] => True
  | q :: am, s :: ss => (0 ≤ s.1 ∧ s.1 ≤ q.1 ∧ s.2 = q.2) ∧ Below am ss
  | _, _ => False
theorem Below.refl : ∀ {am : List (Int × Int)}, (∀ q ∈ am, 0 ≤ q.1) → Below am am
  | [], _ => trivial
  | q :: am, h => ⟨⟨h q List.mem_cons_self, Int.le_refl _, rfl⟩, Below.refl fun x hx => h x (List.mem_cons_of_mem _ hx)⟩
theorem Below.snoc : ∀ {am ss : List (Int × Int)} {q : Int × Int}, Below am ss → 0 ≤ q.1 → Below (am ++ [q]) (ss ++ [q])
  | [], [], q, _, h0 => ⟨⟨h0, Int.le_refl _, rfl⟩, trivial⟩
  | p :: am, s :: ss, q, h, h0 => ⟨h.1, h.2.snoc h0⟩
  | [], _ :: _, _, h, _ => by simp [Below] at h
  | _ :: _, [], _, h, _ => by simp [Below] at h
theorem Below.box : ∀ {am ss : List (Int × Int)} {ys : List Int}, Below am ss → Box ss ys → Below am (lbh ss ys)
  | [], [], [], _, _ => trivial
  | p :: am, s :: ss, y :: ys, h, hb => by
    have e : lbh (s :: ss) (y :: ys) = (s.1 - y, s.2) :: lbh ss ys := rfl
    rw [e]
    have h1 := h.1
    have h2 := hb.1
    exact ⟨⟨by show 0 ≤ s.1 - y; omega, by show s.1 - y ≤ p.1; omega, h1.2.2⟩, h.2.box hb.2⟩
  | [], [], _ :: _, _, hb => by simp [Box] at hb
  | _ :: _, _ :: _, [], _, hb => by simp [Box] at hb
  | [], _ :: _, _, h, _ => by simp [Below] at h
  | _ :: _, [], _, h, _ => by simp [Below] at h
theorem Below.len : ∀ {am ss : List (Int × Int)}, Below am ss → ss.length = am.length
  | [], [], _ => rfl
  | p :: am, s :: ss, h => by rw [List.length_cons, List.length_cons, h.2.len]
  | [], _ :: _, h => by simp [Below] at h
  | _ :: _, [], h => by simp [Below] at h
theorem Below.am : ∀ {am ss : List (Int × Int)}, Below am ss → Am am → Am ss
  | [], [], _, _ => Am.nil
  | p :: am, s :: ss, h, ha => by
    have h1 := h.1
    have h2 := ha p List.mem_cons_self
    exact Am.cons ⟨by omega, by omega, by rw [h1.2.2]; omega⟩ (h.2.am ha.tail)
  | [], _ :: _, h, _ => by simp [Below] at h
  | _ :: _, [], h, _ => by simp [Below] at h
end P20

set_option Elab.async false
set_option linter.all false
set_option maxRecDepth 100000
set_option maxHeartbeats 4000000
/-! K9m: own play with cards of any balance; what payments of a bill leave. -/
namespace P20
open Mi L2
def AmW (am : List (Int × Int)) : Prop := ∀ q ∈ am, 1 ≤ q.2 ∧ 0 ≤ q.1
theorem Am.w {am : List (Int × Int)} (h : Am am) : AmW am := fun q hq => ⟨(h q hq).1, (h q hq).2.1⟩
theorem AmW.append {am bm : List (Int × Int)} (h : AmW am) (h' : AmW bm) : AmW (am ++ bm) := fun q hq => by
  rcases List.mem_append.mp hq with h1 | h1
  · exact h q h1
  · exact h' q h1
/-- the same limits, no balance less -/
def Over : List (Int × Int) → List (Int × Int) → Prop
  | [], [] => True
  | q :: am, r :: bm => (q.2 = r.2 ∧ q.1 ≤ r.1) ∧ Over am bm
  | _, _ => False
theorem Over.snoc : ∀ {am bm : List (Int × Int)} {q : Int × Int}, Over am bm → Over (am ++ [q]) (bm ++ [q])
  | [], [], q, _ => ⟨⟨rfl, Int.le_refl _⟩, trivial⟩
  | _ :: am, _ :: bm, q, h => ⟨h.1, Over.snoc h.2⟩
  | [], _ :: _, _, h => by simp [Over] at h
  | _ :: _, [], _, h => by simp [Over] at h
theorem Over.box : ∀ {am bm : List (Int × Int)} {ys : List Int}, Over am bm → Box am ys → Box bm ys ∧ Over (lbh am ys) (lbh bm ys)
  | [], [], [], _, _ => ⟨trivial, trivial⟩
  | q :: am, r :: bm, y :: ys, h, hb => by
    have ih := Over.box h.2 hb.2
    have h1 := h.1
    have h2 := hb.1
    refine ⟨⟨⟨h2.1, by omega⟩, ih.1⟩, ⟨⟨h1.1, ?_⟩, ih.2⟩⟩
    show q.1 - y ≤ r.1 - y
    omega
  | [], [], _ :: _, _, hb => by simp [Box] at hb
  | _ :: _, _ :: _, [], _, hb => by simp [Box] at hb
  | [], _ :: _, _, h, _ => by simp [Over] at h
  | _ :: _, [], _, h, _ => by simp [Over] at h
theorem PayX.over : ∀ {evs : List Ev} {am bm : List (Int × Int)}, Over am bm → PayX am evs → PayX bm evs
  | [], _, _, _, _ => trivial
  | .inr q :: r, am, bm, h, hp => PayX.over (evs := r) h.snoc hp
  | .inl x :: r, am, bm, h, hp => by
    obtain ⟨ys, h1, h2, h3⟩ := hp
    obtain ⟨g1, g2⟩ := h.box h1
    exact ⟨ys, g1, h2, PayX.over (evs := r) g2 h3⟩
/-! ### what payments of a bill leave, gone through -/
/-! ### states that are near -/
/-- what is left where no card paid more than t -/
def Near (t : Nat) : List (Int × Int) → List (Int × Int) → Prop
  | [], [] => True
  | q :: am, r :: ss => (r.2 = q.2 ∧ q.1 - (t : Int) ≤ r.1 ∧ r.1 ≤ q.1) ∧ Near t am ss
  | _, _ => False
theorem Near.refl (t : Nat) : ∀ am : List (Int × Int), Near t am am
  | [] => trivial
  | q :: am => ⟨⟨rfl, by omega, Int.le_refl _⟩, Near.refl t am⟩
theorem Near.snoc {t : Nat} : ∀ {am ss : List (Int × Int)} (q : Int × Int), Near t am ss → Near t (am ++ [q]) (ss ++ [q])
  | [], [], q, _ => ⟨⟨rfl, by omega, Int.le_refl _⟩, trivial⟩
  | p :: am, r :: ss, q, h => ⟨h.1, Near.snoc q h.2⟩
  | [], _ :: _, _, h => by simp [Near] at h
  | _ :: _, [], _, h => by simp [Near] at h
theorem Near.mono {t t' : Nat} (ht : t ≤ t') : ∀ {am ss : List (Int × Int)}, Near t am ss → Near t' am ss
  | [], [], _ => trivial
  | p :: am, r :: ss, h => ⟨⟨h.1.1, by have := h.1.2.1; omega, h.1.2.2⟩, Near.mono ht h.2⟩
  | [], _ :: _, h => by simp [Near] at h
  | _ :: _, [], h => by simp [Near] at h
theorem Near.box {t x : Nat} : ∀ {am ss : List (Int × Int)} {ys : List Int}, Near t am ss → Box ss ys → ys.sum ≤ x → Near (t + x) am (lbh ss ys)
  | [], [], [], _, _, _ => trivial
  | p :: am, r :: ss, y :: ys, h, hb, hs => by
    have h1 := h.1
    have h2 := hb.1
    have h3 := (box_sum hb.2).1
    rw [List.sum_cons] at hs
    refine ⟨⟨h1.1, ?_, ?_⟩, Near.box h.2 hb.2 (by omega)⟩
    · show p.1 - ((t + x : Nat) : Int) ≤ r.1 - y
      omega
    · show r.1 - y ≤ p.1
      omega
  | [], [], _ :: _, _, hb, _ => by simp [Box] at hb
  | _ :: _, _ :: _, [], _, hb, _ => by simp [Box] at hb
  | [], _ :: _, _, h, _, _ => by simp [Near] at h
  | _ :: _, [], _, h, _, _ => by simp [Near] at h
theorem Near.len {t : Nat} : ∀ {am ss : List (Int × Int)}, Near t am ss → ss.length = am.length
  | [], [], _ => rfl
  | p :: am, r :: ss, h => by simp [Near.len h.2]
  | [], _ :: _, h => by simp [Near] at h
  | _ :: _, [], h => by simp [Near] at h
theorem Near.snd {t : Nat} : ∀ {am ss : List (Int × Int)}, Near t am ss → ss.map Prod.snd = am.map Prod.snd
  | [], [], _ => rfl
  | p :: am, r :: ss, h => by
    show r.2 :: ss.map Prod.snd = p.2 :: am.map Prod.snd
    rw [Near.snd h.2, h.1.1]
  | [], _ :: _, h => by simp [Near] at h
  | _ :: _, [], h => by simp [Near] at h
end P20

set_option Elab.async false
set_option linter.all false
set_option maxRecDepth 100000
set_option maxHeartbeats 4000000
/-! MiDw: plain reckoning with dicts. -/
namespace Mi
open PySem L2
section
variable {ρ : Env} {u : PuS} {PS : Fl → PuS → Prop} {P : D → PuS → Prop} {m mk : ME} {i : Nat}
end
/-! keys told by plain values -/
structure KeyF {α : Type} (f : α → D) (g : α → NestedKey) : Prop where
  tup : ∀ a, ∃ es, f a = .tup es
  key : ∀ a, keyN (f a) = some (g a)
  dep : ∀ a, (g a).depth ≤ 8
  inj : ∀ a b, g a = g b → a = b
def ins {α : Type} [DecidableEq α] (xs : List α) (a : α) : List α := if a ∈ xs then xs else xs ++ [a]
section
variable {α : Type} [DecidableEq α] {f : α → D} {g : α → NestedKey}
theorem KeyF.has (h : KeyF f g) (xs : List α) (a : α) : hasK (xs.map f) (g a) = decide (a ∈ xs) := by
  unfold hasK
  rw [List.any_map, Bool.eq_iff_iff, List.any_eq_true, decide_eq_true_iff]
  constructor
  · rintro ⟨x, hx, e⟩
    have e : keyN (f x) = some (g a) := by simpa using e
    rw [h.key] at e
    rw [← h.inj _ _ (Option.some.inj e)]
    exact hx
  · intro hx
    exact ⟨a, hx, by simp [h.key]⟩
theorem KeyF.put (h : KeyF f g) {xs : List α} (hl : xs.length < 16000000) (ds : List D) (a : α) (v : D) : ∃ ds', dputD (xs.map f, ds) (f a) v = some ((ins xs a).map f, ds') := by
  obtain ⟨es, e⟩ := h.tup a
  have k := h.key a
  unfold dputD
  rw [e] at k ⊢
  rw [k]
  simp only [List.length_map]
  rw [if_pos ⟨h.dep a, hl⟩]
  unfold putKs
  rw [h.has]
  unfold ins
  by_cases hm : a ∈ xs
  · simp [hm]
  · simp [hm, e]
end
/-! rows and lists of pairs as keys -/
theorem keyNs_map {α : Type} {f : α → D} {g : α → NestedKey} (h : ∀ a, keyN (f a) = some (g a)) : ∀ xs : List α, keyNs (xs.map f) = some (xs.map g)
  | [] => by unfold keyNs; rfl
  | a :: xs => by
    show keyNs (f a :: xs.map f) = _
    unfold keyNs
    rw [h a, keyNs_map h xs]
    rfl
theorem depthAll_le {n : Nat} : ∀ {ks : List NestedKey}, (∀ k ∈ ks, k.depth ≤ n) → NestedKey.depthAll ks ≤ n
  | [], _ => by unfold NestedKey.depthAll; omega
  | k :: ks, h => by
    unfold NestedKey.depthAll
    have := h k List.mem_cons_self
    have := depthAll_le fun x hx => h x (List.mem_cons_of_mem _ hx)
    omega
theorem map_inj' {α β : Type} {g : α → β} (h : ∀ a b, g a = g b → a = b) : ∀ {xs ys : List α}, xs.map g = ys.map g → xs = ys
  | [], [], _ => rfl
  | [], _ :: _, e => by simp at e
  | _ :: _, [], e => by simp at e
  | a :: xs, b :: ys, e => by
    simp only [List.map_cons, List.cons.injEq] at e
    rw [h a b e.1, map_inj' h e.2]
theorem KeyF.list {α : Type} {f : α → D} {g : α → NestedKey} {n : Nat} (hk : ∀ a, keyN (f a) = some (g a)) (hd : ∀ a, (g a).depth ≤ n) (hn : n ≤ 7) (hi : ∀ a b, g a = g b → a = b) : KeyF (fun xs : List α => .tup (xs.map f)) (fun xs => .tup (xs.map g)) :=
  ⟨fun xs => ⟨_, rfl⟩, fun xs => by unfold keyN; rw [keyNs_map hk]; rfl, fun xs => by
    unfold NestedKey.depth
    have := depthAll_le (n := n) (ks := xs.map g) fun k hk => by
      obtain ⟨a, _, rfl⟩ := List.mem_map.mp hk
      exact hd a
    omega, fun xs ys e => map_inj' hi (NestedKey.tup.inj e)⟩
end Mi

set_option Elab.async false
set_option linter.all false
set_option maxRecDepth 100000
set_option maxHeartbeats 4000000
/-! S3wl: the own play of family 3, by all ways of paying. -/
namespace S3
open PySem L2 Mi P20 Sh
def rowL (t : List Int) : D := .lst (t.map D.int)
def rowT (t : List Int) : D := .tup (t.map D.int)
end S3

set_option Elab.async false
set_option linter.all false
set_option maxRecDepth 100000
set_option maxHeartbeats 4000000
/-! Nml: names; the texts of wallets read back. -/
namespace Sh
open PySem L2 Mi P20 TL
def Lt (c : Nat) : Prop := 97 ≤ c ∧ c ≤ 122
instance (c : Nat) : Decidable (Lt c) := inferInstanceAs (Decidable (97 ≤ c ∧ c ≤ 122))
def Al (c : Nat) : Prop := Lt c ∨ (48 ≤ c ∧ c ≤ 57)
/-- the signs of a name -/
structure NmL (l : List Nat) : Prop where
  hd : ∃ c r, l = c :: r ∧ Lt c
  len : l.length ≤ 8
  al : ∀ c ∈ l, Al c
def Nm (x : Str) : Prop := NmL x.cps.toList
theorem Nm.free {x : Str} (h : Nm x) {s : Nat} (hs : s < 48) : s ∉ x.cps.toList := fun hm => by
  rcases h.al s hm with h | h
  · have := h.1; omega
  · omega
end Sh

set_option Elab.async false
set_option linter.all false
set_option maxRecDepth 100000
set_option maxHeartbeats 4000000
/-! S3xl: names, small events, small courses and wallets of family 3. -/
namespace S3
open PySem L2 Mi P20 Sh TL
def n12 : List Str := ["b", "zed7", "ba", "x9yz0000", "a", "q", "ann", "k2", "an", "m", "bab", "c1"]
/-- small events: bills up to t, at most one card -/
theorem events_ok {n t : Nat} (hn : n ≤ 12) (ht : t ≤ 13) {u : PuS} (hu : Pu u) {P : D → PuS → Prop} (h : ∀ (evs : List Ev) u', (∀ e ∈ evs, evOk e) → (∀ x, Sum.inl x ∈ evs → (0 : Int) ≤ x ∧ x ≤ t) → nB evs ≤ n → nC evs ≤ 1 → (∀ q, Sum.inr q ∈ evs → q.1 ≤ 4 ∧ q.2 ≤ 2) → Pu u' → P (.lst (evs.map evR)) u') : Ok (mf__law_events [.pur, .int n, .int t]) u P := by
  unfold mf__law_events mb__law_events
  rw [ok_fn]
  refine seq_go fun K R hK hR => ?_
  simp
  refine draw_ok (by decide) hu fun c u1 c0 c1 hu1 => hK _ _ ?_
  clear hK hR K R
  refine seq_go fun K R hK hR => ?_
  simp [mBorLs]
  refine draw_ok (by omega) hu1 fun r u2 r0 r1 hu2 => ?_
  obtain ⟨r, rfl⟩ : ∃ j : Nat, r = (j : Int) := ⟨r.toNat, by omega⟩
  simp
  refine ⟨by omega, by rw [rngD_len]; omega, ?_⟩
  refine (ok_lc Pu (fun y => ∃ b : Int, (0 ≤ b ∧ b ≤ t) ∧ y = .int b) _ _ hu2 (fun d hd u8 hu8 => ?_)).mono ?_
  · refine ⟨_, rfl, ?_⟩
    unfold ce__law_events_1
    simp
    refine draw_ok (by omega) hu8 fun b u9 b0 b1 hu9 => ⟨⟨b, ⟨b0, by omega⟩, rfl⟩, hu9⟩
  rintro ys u3 ⟨⟨hyl, hy⟩, hu3⟩
  rw [rngD_len] at hyl
  obtain ⟨bs, rfl, hbs⟩ : ∃ bs : List Int, ys = bs.map D.int ∧ ∀ b ∈ bs, 0 ≤ b ∧ b ≤ (t : Int) := by
    clear hyl
    induction ys with
    | nil => exact ⟨[], rfl, fun b hb => by cases hb⟩
    | cons y ys ih =>
      obtain ⟨b, hb, rfl⟩ := hy y List.mem_cons_self
      obtain ⟨bs, rfl, hbs⟩ := ih fun y hy' => hy y (List.mem_cons_of_mem _ hy')
      exact ⟨b :: bs, rfl, fun c hc => by
        rcases List.mem_cons.mp hc with rfl | hc
        · exact hb
        · exact hbs c hc⟩
  rw [List.length_map] at hyl
  have hbl : bs.length ≤ n := by omega
  clear hy
  refine hK _ _ ?_
  clear hK hR K R
  have ev1 : ∀ {l : List Int}, (∀ b ∈ l, 0 ≤ b ∧ b ≤ (t : Int)) → (∀ e ∈ (l.map Sum.inl : List Ev), evOk e) := fun {l} hl e he => by
    obtain ⟨b, hb, rfl⟩ := List.mem_map.mp he
    exact (hl b hb).1
  refine seq_go fun K R hK hR => ?_
  simp
  refine brd (fun z => ?_) (fun z => ?_)
  · refine hR _ _ ?_
    rw [bills_ev]
    refine h _ _ (ev1 hbs) (fun x hx => ?_) (by rw [nB_bills]; exact hbl) (by rw [nC_bills]; omega) (fun q hq => ?_) hu3
    · obtain ⟨b, hb, e⟩ := List.mem_map.mp hx
      cases e
      exact hbs _ hb
    · obtain ⟨b, hb, e⟩ := List.mem_map.mp hq
      cases e
  · refine hK _ _ ?_
    clear hK hR K R
    refine seq_go fun K R hK hR => ?_
    simp
    refine draw_ok (by omega) hu3 fun at_ u4 a0 a1 hu4 => ?_
    refine hK _ _ ?_
    clear hK hR K R
    obtain ⟨at_, rfl⟩ : ∃ j : Nat, at_ = (j : Int) := ⟨at_.toNat, by omega⟩
    simp
    refine draw_ok (by decide) hu4 fun b u5 b0 b1 hu5 => ?_
    refine draw_ok (by decide) hu5 fun l u6 l0 l1 hu6 => ?_
    refine ⟨.int (1 + l), rfl, ?_⟩
    rw [cut_from, cut_to]
    refine ⟨_, s_addL (by simp; omega), ?_⟩
    refine ⟨_, s_addL (by simp; omega), ?_⟩
    have e : (bs.map D.int).take at_ ++ [D.tup [.int b, .int (1 + l)]] ++ (bs.map D.int).drop at_ = ((bs.take at_).map Sum.inl ++ [Sum.inr (b, 1 + l)] ++ (bs.drop at_).map Sum.inl : List Ev).map evR := by
      rw [List.map_append, List.map_append, ← List.map_take, ← List.map_drop, bills_ev, bills_ev]
      rfl
    rw [e]
    have m1 : ∀ {x : Int}, Sum.inl x ∈ ((bs.take at_).map Sum.inl ++ [Sum.inr (b, 1 + l)] ++ (bs.drop at_).map Sum.inl : List Ev) → x ∈ bs := fun {x} hx => by
      rcases List.mem_append.mp hx with hx | hx
      · rcases List.mem_append.mp hx with hx | hx
        · obtain ⟨y, hy, e⟩ := List.mem_map.mp hx
          cases e
          exact List.mem_of_mem_take hy
        · simp at hx
      · obtain ⟨y, hy, e⟩ := List.mem_map.mp hx
        cases e
        exact List.mem_of_mem_drop hy
    have m2 : ∀ {q : Int × Int}, Sum.inr q ∈ ((bs.take at_).map Sum.inl ++ [Sum.inr (b, 1 + l)] ++ (bs.drop at_).map Sum.inl : List Ev) → q = (b, 1 + l) := fun {q} hx => by
      rcases List.mem_append.mp hx with hx | hx
      · rcases List.mem_append.mp hx with hx | hx
        · obtain ⟨y, hy, e⟩ := List.mem_map.mp hx
          cases e
        · simpa using hx
      · obtain ⟨y, hy, e⟩ := List.mem_map.mp hx
        cases e
    have nBa : ∀ (x y : List Ev), nB (x ++ y) = nB x + nB y := fun x y => by unfold nB; rw [List.filter_append, List.length_append]
    have nCa : ∀ (x y : List Ev), nC (x ++ y) = nC x + nC y := fun x y => by unfold nC; rw [List.filter_append, List.length_append]
    refine h _ _ (fun e he => ?_) (fun x hx => hbs x (m1 hx)) ?_ ?_ (fun q hq => ?_) hu6
    · cases e with
      | inl x => exact (hbs x (m1 he)).1
      | inr q =>
        rw [m2 he]
        show 1 ≤ 1 + l ∧ 0 ≤ b ∧ b ≤ 24 * (1 + l)
        omega
    · rw [nBa, nBa, nB_bills, nB_bills]
      have e0 : nB ([Sum.inr (b, 1 + l)] : List Ev) = 0 := rfl
      rw [e0, List.length_take, List.length_drop]
      omega
    · rw [nCa, nCa, nC_bills, nC_bills]
      have e0 : nC ([Sum.inr (b, 1 + l)] : List Ev) = 1 := rfl
      omega
    · rw [m2 hq]
      show b ≤ 4 ∧ 1 + l ≤ 2
      omega
/-- three bills of up to four, one card -/
structure Sml (evs : List Ev) : Prop where
  ok : ∀ e ∈ evs, evOk e
  bill : ∀ x, Sum.inl x ∈ evs → (0 : Int) ≤ x ∧ x ≤ 4
  nb : nB evs ≤ 3
  nc : nC evs ≤ 1
theorem Sml.e0 {evs : List Ev} (h : Sml evs) : Evs0 evs := ⟨fun q hq => h.ok _ hq, fun x hx => h.ok _ hx⟩
theorem Sml.evs {evs : List Ev} (h : Sml evs) : EvsOk evs := ⟨h.ok, by have := h.nb; omega, by have := h.nc; omega⟩
end S3

set_option Elab.async false
set_option linter.all false
set_option maxRecDepth 100000
set_option maxHeartbeats 4000000
namespace G57
open PySem L2 Mi P20 Sh S3
theorem brd' {b : Bool} {P Q : Prop} (h1 : P) (h2 : Q) : Br b P Q := by cases b <;> simp [h1, h2]
theorem neB2 (a b : Bool) : neMD (.bl a) (.bl b) = some (.bl (!decide (a = b))) := by cases a <;> cases b <;> rfl
def rsD (es : List (List Ev)) : List D := es.map fun e => .lst (e.map evR)
theorem drawn_ok {u : PuS} (hu : Pu u) {P : D → PuS → Prop} (h : ∀ hid ya na u', Nn hid → hid.length ≤ 11 → Eo ya → Eo na → Pu u' → P (.tup [rowL hid, .lst (rsD ya), .lst (rsD na)]) u') : Ok (mf__law_drawn [.pur]) u P := by
  unfold mf__law_drawn mb__law_drawn
  rw [ok_fn]
  refine seq_go fun K R hK hR => ?_
  simp
  refine falling_ok hu fun hid u1 h0 hl hu1 => ?_
  refine draw_ok (by decide) hu1 fun w u2 w0 w1 hu2 => hK _ _ ?_
  clear hK hR K R
  refine seq_cut (fun ρ u' => Pu u' ∧ ∃ ya na : List (List Ev), (∀ e ∈ ya, EvsOk e) ∧ (∀ e ∈ na, EvsOk e) ∧ ∃ a b : Sd, ρ = [.sh .pur, .sh (rowL hid), .sh (.int w), .ow (rsD ya), .ow (rsD na), a, b]) ?_ ?_
  · simp
    refine draw_ok (by decide) hu2 fun n u3 n0 n1 hu3 => ?_
    obtain ⟨n, rfl⟩ : ∃ j : Nat, n = (j : Int) := ⟨n.toNat, by omega⟩
    rw [e_rng1]
    refine ⟨⟨by omega, by omega⟩, ?_⟩
    refine ok_range 0 n (fun k ρ u' => Pu u' ∧ ∃ ya na : List (List Ev), (∀ e ∈ ya, EvsOk e) ∧ (∀ e ∈ na, EvsOk e) ∧ ya.length ≤ k ∧ na.length ≤ k ∧ ∃ a b : Sd, ρ = [.sh .pur, .sh (rowL hid), .sh (.int w), .ow (rsD ya), .ow (rsD na), a, b]) ?_ ?_ _ _ ⟨hu3, [], [], by simp, by simp, Nat.le_refl _, Nat.le_refl _, _, _, rfl⟩
    · rintro k ρ u' hk ⟨hu4, ya, na, hy, hn, yl, nl, a, b, rfl⟩
      unfold lb__law_drawn_1
      simp
      refine near_ok h0 hl hu4 fun es u5 he hu5 => ?_
      refine asks_ok he ?_
      have ha := a12 he
      refine pays_ok (by omega) ?_
      have hny : ∀ e ∈ ya ++ [es], EvsOk e := fun e hm => by
        rcases List.mem_append.mp hm with w | w
        · exact hy e w
        · rw [List.mem_singleton.mp w]; exact he
      have hnn : ∀ e ∈ na ++ [es], EvsOk e := fun e hm => by
        rcases List.mem_append.mp hm with w | w
        · exact hn e w
        · rw [List.mem_singleton.mp w]; exact he
      have eap : ∀ xs : List (List Ev), rsD xs ++ [D.lst (es.map evR)] = rsD (xs ++ [es]) := fun xs => by unfold rsD; rw [List.map_append]; rfl
      have elen : ∀ xs : List (List Ev), (rsD xs).length = xs.length := fun xs => by unfold rsD; rw [List.length_map]
      refine ⟨_, neB2 _ _, _, rfl, ?_⟩
      refine brd' ?_ ?_
      · exact ⟨by rw [elen]; omega, hu5, ya ++ [es], hny, na, hn, by rw [List.length_append]; simp; omega, by omega, eap ya, rfl⟩
      · exact ⟨by rw [elen]; omega, hu5, ya, hy, na ++ [es], hnn, by omega, by rw [List.length_append]; simp; omega, rfl, eap na⟩
    · rintro ρ u' ⟨hu4, ya, na, hy, hn, yl, nl, a, b, rfl⟩
      exact ⟨hu4, ya, hy, na, hn, a, b, rfl⟩
  rintro ρ u' ⟨hu4, ya, na, hy, hn, a, b, rfl⟩
  have ec : ∀ xs : List (List Ev), cutD (rsD xs) none (some 8) = rsD (xs.take 8) := fun xs => by
    rw [show (8 : Int) = ((8 : Nat) : Int) from rfl, cut_to]
    unfold rsD
    rw [List.map_take]
  have et : ∀ {xs : List (List Ev)}, (∀ e ∈ xs, EvsOk e) → Eo (xs.take 8) := fun {xs} hx => ⟨fun e he => hx e (List.mem_of_mem_take he), by rw [List.length_take]; omega⟩
  simp [ec]
  exact h hid _ _ u' h0 hl (et hy) (et hn) hu4

/-! ### answers are compared -/
abbrev ATx := {x : Str // As x}
theorem eqTx : EqT (fun x : ATx => D.str x.1) (fun x : ATx => PyData.str x.1) 0 := ⟨fun _ => rfl, fun x => by
  have := x.2
  simp only [PyData.canLay0]
  unfold PyData.strOk
  rw [Array.all_eq_true]
  intro i hi
  have := this x.1.cps[i] (by simp)
  simp
  omega, fun _ => Nat.le_refl 0, fun x y => by
  show (x.1 == y.1) = _
  by_cases h : x.1 = y.1 <;> simp [h, Subtype.ext_iff]⟩
theorem eqT3 : EqT (fun q : ATx × ATx × Bool => D.tup [.str q.1.1, .str q.2.1.1, .bl q.2.2]) (fun q => PyData.tuple [.str q.1.1, .str q.2.1.1, .bool q.2.2]) 1 := ⟨fun q => rfl, fun q => by
  show (PyData.canLay0 (.str q.1.1) && (PyData.canLay0 (.str q.2.1.1) && (true && true))) = true
  rw [eqTx.lay q.1, eqTx.lay q.2.1]
  rfl, fun q => Nat.le_refl _, fun q r => by
  show (PyData.eqv (.str q.1.1) (.str r.1.1) && (PyData.eqv (.str q.2.1.1) (.str r.2.1.1) && (PyData.eqv (.bool q.2.2) (.bool r.2.2) && true))) = _
  rw [eqTx.eqv q.1 r.1, eqTx.eqv q.2.1 r.2.1, EqT.bl.eqv]
  obtain ⟨a, b, c⟩ := q
  obtain ⟨a', b', c'⟩ := r
  by_cases h1 : a = a' <;> by_cases h2 : b = b' <;> by_cases h3 : c = c' <;> simp [h1, h2, h3]⟩
theorem ne3 {a b : Str} (ha : As a) (hb : As b) (c : Bool) : neMD (.tup [.str a, .str b, .bl c]) (.tup [.str a, .str b, .bl c]) = some (.bl false) := by
  have := eqT3.ne (by decide) (⟨a, ha⟩, ⟨b, hb⟩, c) (⟨a, ha⟩, ⟨b, hb⟩, c)
  simpa using this
theorem ne2 {a b : Str} (ha : As a) (hb : As b) : neMD (.tup [.str a, .str b]) (.tup [.str a, .str b]) = some (.bl false) := by
  have := (EqT.tup eqTx).ne (by decide) [⟨a, ha⟩, ⟨b, hb⟩] [⟨a, ha⟩, ⟨b, hb⟩]
  simpa using this
theorem as_now : As (Str.ofString "no wallet") := by unfold As; decide
theorem as_ret : As (Str.ofString "returned") := by unfold As; decide
theorem dueT_ne (row : List Int) (Ls : List (List Int)) (L : List Int) : neMD (dueT row Ls L) (dueT row Ls L) = some (.bl false) := by
  unfold dueT
  cases fp row Ls with
  | some k => exact ne3 as_now (nT_as k) true
  | none =>
    show neMD (if Pays row L then _ else _) (if Pays row L then _ else _) = _
    by_cases hp : Pays row L
    · rw [if_pos hp]
      exact ne2 as_ret (as_rep as_paid)
    · rw [if_neg hp]
      cases (fp (HR row L) Ls).isSome with
      | true => exact ne2 as_ret (as_rep as_refused)
      | false => exact ne2 as_ret (as_rep as_open)
theorem rsD_of {ys : List D} (h : ∀ d ∈ ys, ∃ es : List Ev, EvsOk es ∧ d = .lst (es.map evR)) : ∃ qs : List (List Ev), ys = rsD qs ∧ ∀ e ∈ qs, EvsOk e := by
  induction ys with
  | nil => exact ⟨[], rfl, by simp⟩
  | cons d ys ih =>
    obtain ⟨es, he, rfl⟩ := h d List.mem_cons_self
    obtain ⟨qs, rfl, hq⟩ := ih fun x hx => h x (List.mem_cons_of_mem _ hx)
    exact ⟨es :: qs, rfl, fun e hm => by
      rcases List.mem_cons.mp hm with rfl | hm
      · exact he
      · exact hq e hm⟩
theorem eqLit {a b : Str} (ha : As a) (hb : As b) : eqMD (.str a) (.str b) = some (.bl (decide (a = b))) := by
  have := eqTx.eq (by decide) ⟨a, ha⟩ ⟨b, hb⟩
  rw [this]
  by_cases h : a = b <;> simp [h]
theorem due0 (row : List Int) (Ls : List (List Int)) : ∃ y, ixD (dueT row Ls []) (.int 0) = some (.str y) ∧ eqMD (.str y) (.str "returned") = some (.bl (fp row Ls).isNone) := by
  have hp : Pays row [] := fun k hk => absurd hk (Nat.not_lt_zero k)
  unfold dueT
  cases fp row Ls with
  | some k =>
    refine ⟨"no wallet", rfl, ?_⟩
    have e := eqLit as_now as_ret
    rw [decide_eq_false (by decide)] at e
    exact e
  | none =>
    refine ⟨"returned", ?_, ?_⟩
    · show ixD (if Pays row [] then _ else _) _ = _
      rw [if_pos hp]
      rfl
    · have e := eqLit as_ret as_ret
      rw [decide_eq_true rfl] at e
      exact e
theorem repB (rt : RT) (b : Bool) : ∃ x : Str, repM rt (.bl b) = M.pure (.str x) := by cases b <;> exact ⟨_, rfl⟩
theorem ok_methX1 {k mm : Str} {n : Nat} {mf : List D → M RX} {mo : ME} {ms : MA} {ρ : Mi.Env} {u : PuS} {P : RX → PuS → Prop} (h : Ok (mo ρ) u fun d u1 => ∃ ks ds, d = .obj k ks ds ∧ mm ∉ ks ∧ Ok (ms ρ) u1 fun es u2 => es.length = n ∧ Ok (mf (.obj k ks ds :: es)) u2 P) : Ok (mMethX k mm n mf mo ms ρ) u P := by
  unfold mMethX
  rw [ok_bind]
  refine h.mono fun d u1 z => ?_
  obtain ⟨ks, ds, rfl, h2, z⟩ := z
  simp only [h2, not_false_eq_true, and_self, if_true]
  rw [ok_bind]
  refine z.mono fun es u1 z => ?_
  rw [if_pos z.1]
  exact z.2
theorem rsD_len (es : List (List Ev)) : (rsD es).length = es.length := by unfold rsD; rw [List.length_map]
theorem rep_nat {n : Nat} (h : n < 100) (t : RT) : repM t (.int (n : Int)) = M.pure (.str (nT n)) := by
  have e : repP (.int (n : Int)) = some (nT n) := by
    refine if_pos ?_
    have h2 : n < 2 ^ 10 := by omega
    rw [Int.natAbs_natCast]
    by_cases z : n = 0
    · rw [z]; decide
    · have := (Nat.log2_lt z).mpr h2
      omega
  show lft ((repP (.int (n : Int))).map D.str) = _
  rw [e]
  rfl
theorem right_ok {u : PuS} (hu : Pu u) {P : D → PuS → Prop} (hP : ∀ u', P (.bl true) u') : Ok (mf__law_right [.pur]) u P := by
  unfold mf__law_right mb__law_right
  rw [ok_fn]
  refine seq_go fun K R hK hR => ?_
  simp
  refine drawn_ok hu fun hid ya na u1 h0 hl hy hn hu1 => ?_
  refine ⟨_, rfl, hK _ _ ?_⟩
  clear hK hR K R
  have yl := hy.2
  have nl := hn.2
  refine seq_cut (fun ρ u' => ∃ qs : List (List Ev), (∀ e ∈ qs, EvsOk e) ∧ qs.length = 5 ∧ ρ = [.sh .pur, .sh (rowL hid), .sh (.lst (rsD ya)), .sh (.lst (rsD na)), .sh (.lst (rsD qs)), .un, .un, .un, .un, .un, .un, .un, .un, .un]) ?_ ?_
  · simp [mBorLs]
    refine ⟨by rw [rngD_len]; decide, ?_⟩
    refine (ok_lc (g := mGn 12) (mt := mYes) (me := ce__law_right_1) Pu (fun d => ∃ es : List Ev, EvsOk es ∧ d = .lst (es.map evR)) _ u1 hu1 ?_).mono fun ys u5 hy => ?_
    · intro d hd u hu
      refine ⟨_, rfl, ?_⟩
      unfold ce__law_right_1
      simp
      exact near_ok h0 hl hu fun es u' he hu' => ⟨⟨es, he, rfl⟩, hu'⟩
    · obtain ⟨⟨hyl, hye⟩, hu5⟩ := hy
      obtain ⟨qs, rfl, hq⟩ := rsD_of hye
      refine ⟨qs, hq, ?_, rfl⟩
      rw [rsD_len, rngD_len] at hyl
      exact hyl
  clear hu1
  rintro ρ u2 ⟨qs, hq, ql, rfl⟩
  have hay := as_len hy
  have han := as_len hn
  have anl : (as_ na).length = na.length := List.length_map _
  have ayl : (as_ ya).length = ya.length := List.length_map _
  have hrl : (RW ya).length ≤ 24 := RW_len hy
  refine seq_go fun K R hK hR => ?_
  simp [rsD_len]
  refine ⟨by omega, ?_⟩
  have eas : ∀ es : List (List Ev), es.map (fun e => rowL (asks e)) = (as_ es).map rowL := fun es => by unfold as_; rw [List.map_map]; rfl
  refine ok_lca (xs := ya) (f := fun e => D.lst (e.map evR)) (fun e => [.sh .pur, .sh (rowL hid), .sh (.lst (rsD ya)), .sh (.lst (rsD na)), .sh (.lst (rsD qs)), .un, .un, .un, .un, .sh (.lst (e.map evR)), .un, .un, .un, .un]) (fun e => rowL (asks e)) (fun e he => rfl) (fun e he => ?_) ?_
  · unfold ce__law_right_3
    simp
    exact asks_ok (hy.1 e he) ⟨rfl, rfl⟩
  rw [eas]
  refine joined_ok (by omega) (fun L hL => by have := hay L hL; omega) ?_
  refine lleast (by rw [J_len]; have := mlen_le hay; omega) fun _ => ?_
  refine ⟨by omega, ?_⟩
  refine ok_lca (xs := na) (f := fun e => D.lst (e.map evR)) (fun e => [.sh .pur, .sh (rowL hid), .sh (.lst (rsD ya)), .sh (.lst (rsD na)), .sh (.lst (rsD qs)), .un, .un, .un, .un, .un, .un, .un, .un, .sh (.lst (e.map evR))]) (fun e => rowL (asks e)) (fun e he => rfl) (fun e he => ?_) ?_
  · unfold ce__law_right_2
    simp
    exact asks_ok (hn.1 e he) ⟨rfl, rfl⟩
  rw [eas]
  refine hK _ _ ?_
  clear hK hR K R
  have eRW : LR (J (as_ ya)) = RW ya := rfl
  rw [eRW]
  refine seq_go fun K R hK hR => ?_
  simp [rsD_len, mBorLs]
  refine ⟨by omega, ?_⟩
  refine ok_lca (xs := ya) (f := fun e => D.lst (e.map evR)) (fun e => [.sh .pur, .sh (rowL hid), .sh (.lst (rsD ya)), .sh (.lst (rsD na)), .sh (.lst (rsD qs)), .sh (rowL (RW ya)), .sh (.lst ((as_ na).map rowL)), .un, .un, .sh (.lst (e.map evR)), .un, .un, .un, .un]) (fun e => courD e) (fun e he => rfl) (fun e he => ?_) ?_
  · unfold ce__law_right_4
    simp
    exact course_ok (hy.1 e he) ⟨rfl, rfl⟩
  refine hK _ _ ?_
  clear hK hR K R
  refine seq_go fun K R hK hR => ?_
  simp [rsD_len]
  refine ⟨by omega, ?_⟩
  refine ok_lca (xs := na) (f := fun e => D.lst (e.map evR)) (fun e => [.sh .pur, .sh (rowL hid), .sh (.lst (rsD ya)), .sh (.lst (rsD na)), .sh (.lst (rsD qs)), .sh (rowL (RW ya)), .sh (.lst ((as_ na).map rowL)), .sh (.lst (ya.map courD)), .un, .sh (.lst (e.map evR)), .un, .un, .un, .un]) (fun e => courD e) (fun e he => rfl) (fun e he => ?_) ?_
  · unfold ce__law_right_5
    simp
    exact course_ok (hn.1 e he) ⟨rfl, rfl⟩
  refine ⟨rfl, finit_ok yl nl ?_⟩
  have efc : D.obj (Str.ofString "Facts") ["known", "unpaid"] [crs ya, crs na] = fctD ya na := rfl
  show K [.sh .pur, .sh (rowL hid), .sh (.lst (rsD ya)), .sh (.lst (rsD na)), .sh (.lst (rsD qs)), .sh (rowL (RW ya)), .sh (.lst ((as_ na).map rowL)), .sh (.lst (ya.map fun e => courD e)), .sh (fctD ya na), .un, .un, .un, .un, .un] u2
  refine hK _ _ ?_
  clear hK hR K R
  generalize hT : D.lst (ya.map fun e => courD e) = T7
  have hrw : ∀ {u : PuS} {Q : D → PuS → Prop}, Q (rowT (RW ya)) u → Ok (mf_Form_row [formD (RW ya)]) u Q := fun {u Q} q => row_ok'.mpr q
  have etr : ∀ L : List Int, tupD [rowL L] = some (rowT L) := fun L => rfl
  have ener : ∀ L : List Int, neMD (rowT L) (rowT L) = some (.bl false) := fun L => by
    have := (EqT.tup EqT.int).ne (by decide) L L
    simpa [rowT] using this
  have eeqr : ∀ L : List Int, eqMD (rowT L) (rowT L) = some (.bl true) := fun L => by
    have := (EqT.tup EqT.int).eq (by decide) L L
    simpa [rowT] using this
  have hM : ∀ M ∈ as_ na, M.length ≤ 24 := fun M hM => by have := han M hM; omega
  have e0 : D.lst [] = rowL [] := rfl
  refine seq_go fun K R hK hR => ?_
  simp [etr, ok_repA]
  refine ⟨_, _, rfl, form_ok hy ?_⟩
  refine ⟨_, _, rfl, hrw ?_⟩
  refine ⟨_, ener _, _, rfl, ?_⟩
  simp only [br_f]
  refine ⟨_, _, rfl, fit_ok hy hn ?_⟩
  obtain ⟨x, hx⟩ := repB rtC (fp (RW ya) (as_ na)).isNone
  obtain ⟨y, hy1, hy2⟩ := due0 (RW ya) (as_ na)
  rw [hx, ok_pure, e0]
  refine due_ok hrl (by decide) (by omega) hM ?_
  refine ⟨_, hy1, _, hy2, ?_⟩
  rw [hx, ok_pure]
  have ens : neSD (.str x) (.str x) = some (.bl false) := by show some (D.bl (!decide (x = x))) = _; simp
  refine ⟨_, ens, _, rfl, ?_⟩
  simp only [br_f]
  refine hK _ _ ?_
  clear hK hR K R hx hy1 hy2 x y ens
  refine seq_cut (fun ρ u' => ∃ a b c d e : Sd, ρ = [.sh .pur, .sh (rowL hid), .sh (.lst (rsD ya)), .sh (.lst (rsD na)), .sh (.lst (rsD qs)), .sh (rowL (RW ya)), .sh (.lst ((as_ na).map rowL)), .sh T7, .sh (fctD ya na), a, b, c, d, e]) ?_ ?_
  · have eadd : ∀ xs ys : List (List Ev), xs.length + ys.length ≤ 100 → addD (.lst (rsD xs)) (.lst (rsD ys)) = some (.lst (rsD (xs ++ ys))) := fun xs ys h => by
      have e : rsD xs ++ rsD ys = rsD (xs ++ ys) := by unfold rsD; rw [List.map_append]
      rw [← e]
      exact if_pos (by rw [rsD_len, rsD_len]; omega)
    have ec : cutD (rsD qs) none (some 1) = rsD (qs.take 1) := by
      rw [show (1 : Int) = ((1 : Nat) : Int) from rfl, cut_to]
      unfold rsD
      rw [List.map_take]
    simp [ec]
    refine ⟨_, eadd _ _ (by omega), _, eadd _ _ (by rw [List.length_append]; omega), _, eadd _ _ (by rw [List.length_append, List.length_append, List.length_take]; omega), ?_⟩
    have hall : ∀ e ∈ qs ++ na ++ ya ++ qs.take 1, EvsOk e := fun e he => by
      rcases List.mem_append.mp he with he | he
      · rcases List.mem_append.mp he with he | he
        · rcases List.mem_append.mp he with he | he
          · exact hq e he
          · exact hn.1 e he
        · exact hy.1 e he
      · exact hq e (List.mem_of_mem_take he)
    generalize qs ++ na ++ ya ++ qs.take 1 = al at hall
    refine ⟨rsD al, rfl, ?_⟩
    refine ok_list (rsD al) (fun k ρ u' => ∃ a b c d e : Sd, ρ = [.sh .pur, .sh (rowL hid), .sh (.lst (rsD ya)), .sh (.lst (rsD na)), .sh (.lst (rsD qs)), .sh (rowL (RW ya)), .sh (.lst ((as_ na).map rowL)), .sh T7, .sh (fctD ya na), a, b, c, d, e]) ?_ ?_ _ _ ⟨_, _, _, _, _, rfl⟩
    · rintro j dd ρ u' ej ⟨a, b, c, d, e', rfl⟩
      obtain ⟨e, he, rfl⟩ : ∃ e : List Ev, EvsOk e ∧ dd = .lst (e.map evR) := by
        obtain ⟨e, he, rfl⟩ := List.mem_map.mp (List.mem_of_getElem? ej)
        exact ⟨e, hall e he, rfl⟩
      have ha := a12 he
      refine ⟨_, rfl, ?_⟩
      unfold lb__law_right_7
      refine st_go fun R0 hR0 => ?_
      refine seq_go fun K R hK hR => ?_
      simp
      refine course_ok he ?_
      refine asks_ok he ?_
      refine due_ok (L := asks e) hrl (by omega) (by omega) hM ?_
      refine hK _ _ ?_
      clear hK hR K R
      simp [ok_lamX]
      refine end_ok (ok_methX1 ?_)
      simp
      refine ⟨_, _, rfl, by decide, ?_⟩
      have hne := dueT_ne (RW ya) (as_ na) (asks e)
      refine answer_ok hy hn he (fun k hk => ?_) fun hk => ?_
      · have hkl : k < 100 := by
          have h1 := (List.find?_range_eq_some.mp hk).2.1
          have h1 := List.mem_range.mp h1
          omega
        have edu : dueT (RW ya) (as_ na) (asks e) = .tup [.str "no wallet", .str (nT k), .bl true] := by unfold dueT; rw [hk]
        rw [edu] at hne
        refine ⟨rfl, rfl, _, _, rfl, rep_nat hkl rtH, ?_⟩
        rw [edu]
        refine ⟨_, hne, _, rfl, ?_⟩
        simp only [br_f]
        exact hR0 (.nx _) _ ⟨_, _, _, _, _, rfl⟩
      · generalize hans : (if Pays (RW ya) (asks e) then Str.ofString "paid" else if (fp (HR (RW ya) (asks e)) (as_ na)).isSome = true then "refused" else "open") = ans
        have edu : dueT (RW ya) (as_ na) (asks e) = .tup [.str "returned", .str (reprText ans)] := by
          unfold dueT
          rw [hk, ← hans]
          by_cases hp : Pays (RW ya) (asks e)
          · simp [hp]
          · simp [hp]
        have has : As ans := by
          rw [← hans]
          split
          · exact as_paid
          · split
            · exact as_refused
            · exact as_open
        have hal2 : ans.length ≤ 9000 := by
          rw [← hans]
          split
          · decide
          · split <;> decide
        show Ok (repM rtC (.str ans)) u' _
        rw [rM rtC has hal2, ok_pure]
        rw [edu] at hne
        rw [edu]
        refine ⟨_, hne, _, rfl, ?_⟩
        simp only [br_f]
        exact hR0 (.nx _) _ ⟨_, _, _, _, _, rfl⟩
    · rintro ρ u' ⟨a, b, c, d, e, rfl⟩
      exact ⟨_, _, _, _, _, rfl⟩
  rintro ρ u3 ⟨a, b, c, d, e, rfl⟩
  simp [etr]
  refine ⟨_, _, rfl, form_ok hy ?_⟩
  refine ⟨_, _, rfl, hrw ?_⟩
  exact ⟨_, eeqr _, hP _⟩

theorem rows_ok {mfr : List D → M D} {N : Int} (hN : 2 ≤ N ∧ N ≤ 60) (h : ∀ u, Pu u → Ok (mfr [.pur]) u fun d _ => d = .bl true) (ns : List Int) (u : PuS) :
    Ok (mRet (mCB allD (mCons (mFz (mLcO [1] (mIof rng1 (mCons (mCB maxD (mCons (mC (.int 2)) (mCons (mCB minD (mCons (mCB lenD (mCons (mVar 0) (mNil))) (mCons (mC (.int N)) (mNil)))) (mNil)))) (mNil))) (mGn 1) (mYes) (mWith mfr (mCallL 2 mfL__law_pot (mCons (mVar 0) (mCons (mVar 1) (mNil))))))) (mNil))) [.sh (.scr ns), .un]) u fun f _ => f = .rt (.bl true) := by
  simp
  obtain ⟨m, hm, hm2⟩ : ∃ m : Nat, (if 2 < (if N < (ns.length : Int) then N else (ns.length : Int)) then (if N < (ns.length : Int) then N else (ns.length : Int)) else 2) = (m : Int) ∧ m ≤ 60 := by
    refine ⟨(if 2 < (if N < (ns.length : Int) then N else (ns.length : Int)) then (if N < (ns.length : Int) then N else (ns.length : Int)) else 2).toNat, ?_, ?_⟩ <;> split <;> split <;> omega
  rw [hm]
  refine ⟨by omega, by rw [rngD_len]; omega, ?_⟩
  refine (ok_lc (fun _ => True) (fun d => d = .bl true) _ _ trivial ?_).mono ?_
  · intro d hd u _
    obtain ⟨i, hi, rfl⟩ : ∃ i : Nat, i < m ∧ d = .int i := by
      obtain ⟨i, hi, e⟩ := List.mem_iff_getElem.mp hd
      rw [rngD_len] at hi
      exact ⟨i, by omega, by rw [← e]; simp [rngD]⟩
    refine ⟨_, rfl, ?_⟩
    simp
    refine ok_with true ?_
    simp
    refine pot_ok (by omega) fun d s h1 h2 => ?_
    exact ⟨[d, s, 0], rfl, h _ ⟨d, s, 0, rfl, h1, h2⟩⟩
  · rintro ys u' ⟨⟨hl, he⟩, -⟩
    have e1 : ys = (List.replicate ys.length true).map D.bl := by
      clear hl
      induction ys with
      | nil => rfl
      | cons a ys ih =>
        have := he a List.mem_cons_self
        subst this
        rw [List.length_cons, List.replicate_succ, List.map_cons, ← ih fun y hy => he y (List.mem_cons_of_mem _ hy)]
    rw [e1]
    show (blsD ((List.replicate ys.length true).map D.bl)).map (fun bs => D.bl (bs.all id)) = _
    rw [blsD_map]
    simp
theorem law_ok (ns : List Int) (u : PuS) : Ok (mf_law [.scr ns]) u fun d _ => d = .bl true := by
  unfold mf_law mb_law
  rw [ok_fn]
  refine (rows_ok (by decide) (fun u hu => right_ok hu fun _ => rfl) ns u).mono ?_
  rintro f u1 rfl
  rfl
theorem hlaw (ns : List Int) (o : HO) (hl : ns.length ≤ 63) : ∃ u', mf_law [.scr ns] (.idle o) = some (.bl true, u') := by
  obtain ⟨d, u', e, rfl⟩ := law_ok ns (.idle o)
  exact ⟨u', e⟩
end G57

set_option maxHeartbeats 0
open PySem PySem.W PySem.Calls PyProof.Rows in
theorem G57.fin (hlaw : ∀ (ns : List Int) (o : L2.HO), ns.length ≤ 63 → ∃ u', G57.mf_law [.scr ns] (.idle o) = some (.bl true, u')) : PySem.Challenge.rw_sparepay_k57_answers_of_great_numbers.Holds := by
  w_on; o_law
  refine HandSHeadRun.head_any (r := OpenLaw.row PySem.Challenge.rw_sparepay_k57_answers_of_great_numbers) (q := view (OpenLaw.row PySem.Challenge.rw_sparepay_k57_answers_of_great_numbers).prog [81, 82]) (H := G57.hk) (ob := G57.ob) (M := 20000) (loose := G57.loose) (d := HandSHeadRun.topDef (OpenLaw.row PySem.Challenge.rw_sparepay_k57_answers_of_great_numbers).prog 82) (kwd := []) G57.ob_eq
    (by kernel_rfl) (fun s => by kernel_rfl) G57.run (by kernel_rfl) (by kernel_rfl) (by kernel_rfl) (by rfl) (by first | assumption | decide +kernel) (by decide +kernel) ⟨rfl, rfl, rfl, rfl, rfl, by decide +kernel⟩ ?hw ?hc
  case hw => w_witness2
  case hc =>
    refine Mi.walk_T (l := PySem.Challenge.rw_sparepay_k57_answers_of_great_numbers) (n := 63) (k := 12) (x := "_law_cells") rfl (by decide) (by kernel_rfl) ⟨rfl, by decide, by decide⟩ ?F
    intro w mg fa h Y G hmg0 htab
    obtain ⟨K, KX, c⟩ := Y
    have hmg : mg ("law" : PySem.Str) = some (.ref fa) := by
      have e : (HandSHeadRun.topDef (OpenLaw.row PySem.Challenge.rw_sparepay_k57_answers_of_great_numbers).prog 82).name = ("law" : PySem.Str) := by kernel_rfl
      rw [← e]
      exact hmg0
    have C : Mi.HF G57.fa G57.fn K mg := ⟨c, h, KX, G⟩
    have eg := G57.glaw C
    rw [hmg] at eg
    cases eg
    have b := L2.FunD.bindsA (ps := ["_law_cells"]) (G57.flaw C) fun _ _ _ _ _ _ us hl => match us, hl with | [_], _ => rfl
    have hT := C.fact 94 rfl
    have hrec : ∀ x ∈ G57.xs, ∃ d, (recsOf (view (OpenLaw.row PySem.Challenge.rw_sparepay_k57_answers_of_great_numbers).prog [81, 82])).find? (fun e => e.name == x) = some d := by
      intro x hx
      simp only [G57.xs, List.mem_cons, List.not_mem_nil, or_false] at hx
      rcases hx with rfl
      · exact ⟨HandSHeadRun.topDef (OpenLaw.row PySem.Challenge.rw_sparepay_k57_answers_of_great_numbers).prog 81, by kernel_rfl⟩
    refine ⟨K, _, Mi.csOf K G57.xs, @Mi.spM ⟨Mi.tabsOf K G57.xs, true⟩ (Mi.WW G57.cs K) 1 G57.mf_law, KX, fun p hp => ?_, Mi.tabs_free hT, fun p hp => ?_, fun s v => b s [v] rfl, fun H a ns hl hO hS => Mi.law_spT (TB := ⟨Mi.tabsOf K G57.xs, true⟩) (C.fact 95 rfl) 63 hlaw Mi.tabs_in H a ns hl hO hS, fun base _ _ hB => G57.ok_law (TB := ⟨Mi.tabsOf K G57.xs, true⟩) C (Mi.baseT_ok hT hB)⟩
    · obtain ⟨x, hx, e⟩ := List.mem_filterMap.mp hp
      obtain ⟨d, hd⟩ := hrec x hx
      exact (htab K x d p.1 p.2 KX hd e).2
    · obtain ⟨x, hx, e⟩ := List.mem_filterMap.mp hp
      obtain ⟨d, hd⟩ := hrec x hx
      exact (htab K x d p.1 p.2 KX hd e).1

theorem PySem.Challenge.cw_sparepay_k57_answers_of_great_numbers_holds : PySem.Challenge.rw_sparepay_k57_answers_of_great_numbers.Holds := by
  exact G57.fin G57.hlaw
