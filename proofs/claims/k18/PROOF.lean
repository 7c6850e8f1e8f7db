import PyProof.Rows.All
import Wide.All
import OpenK.AllK
import Wide.FinOn
import KE.KStateDown
import KE.KNest
import KE.KExcInit
import KE.KTryMore
import HandS.Head0
import HandS.Head1
import HandS.Head2
import HandS.HeadEnd
import HandS.HeadHook1
import HandS.HeadHook2
import HandS.ForMost
import HandS.Walk
import HandS.Defaults
import HandS.Lambda
import HandS.ExcCtx
import KE.KDictKeyed
import HandS.Property
import HandS.ClsMeth
import HandS.TupAny
import HandS.Wide
import HandS.WideBits
import HandS.IsInst
import HandS.Style
import HandS.Text
import KE.KTupSum
import KE.GoesEnum
import HandS.Zip
import HandS.MakeKwOnly
import HandS.SortKw
import HandS.SortInts
import HandS.Rev
import HandS.FStr
import HandS.ListItems
import PyProof.Draws
import HandS.OwnEq
import KE.KDictZip
import KE.KOpsOwn
import KE.DatumOrd
import PyProof.ListNew
import HandS.Star
import PyProof.ReprRoads
import HandS.ExcInit
import KE.KFmtOwn
import HandS.TryOnly
import HandS.More
import KE.KExcIs
import HandS.ExcField
import KE.Datum
import HandS.SetFor
import HandS.HotCalls
import HandS.RaiseMore
import HandS.EndTab
import PyProof.InstStoreFacts
import PyProof.ExcBaseAll.ValueError
import PyProof.ExcBaseAll.LookupError
import PyProof.ExcBaseAll.ArithmeticError
import HandS.Dict
import HandS.Hot
import PySem.Challenge.RW_sparepay_k18_whole_least_and_greatest_fo
import Lean
namespace Mi
end Mi
namespace G18
end G18
namespace PySem.W
end PySem.W
namespace PySem
end PySem
namespace SrtR
end SrtR
namespace L2
end L2
namespace Sh
end Sh
namespace S1
end S1
namespace MiHot
end MiHot
namespace P20
end P20
set_option Elab.async false
set_option linter.all false
set_option maxRecDepth 100000
set_option maxHeartbeats 4000000
/-! Mp0: the checks of the written part (what the run of the top is asked). -/
namespace Mi
open PySem PySem.Spec PyProof.Rows L2 He
/-- the errors of the package, their three bases -/
def errV : List Str := ["InvalidName", "InvalidText", "InvalidAmount", "InvalidBill", "InvalidIndex", "NotACard", "NotAWallet", "NotAForm", "NotACourse", "NotFacts", "NotARule", "InvalidCards", "InvalidRow", "InvalidEvents", "InvalidPayment", "InvalidPaid", "InvalidRefused", "InvalidKeys"]
def errN : List Str := ["UnknownName", "InUse"]
def errA : List Str := ["CannotPay", "Full", "TooMany", "NoWallet", "Broken", "NothingToUndo"]
def errB : List Str := ["WrongValue", "WrongName", "NoAnswer"]
def errs : List Str := errV ++ errN ++ errA ++ errB

/-- the package's classes: which is under which -/
def subC (c k : Str) : Bool := decide (c = k) || (decide (k = "Rule") && (decide (c = "Drain") || decide (c = "Units") || decide (c = "Spare")))
def refsM (o : Obj) : List Addr := match o.cls with
  | .type "code" => []
  | _ => refsD o
def frontM (g : Addr → Option Obj) (as : List Addr) : List Addr := as.flatMap fun a => match g a with
  | some o => refsM o
  | none => []
def bfsM (g : Addr → Option Obj) : Nat → List Addr → List Addr
  | 0, as => as
  | n + 1, as => as ++ bfsM g n (frontM g as).eraseDups
def asM (g : Addr → Option Obj) (n : Nat) : List Addr := (bfsM g n [mainGlobals, cStatics]).eraseDups
def recFn (K : PySem.W.Frag) (p : Addr) (T : String) : Addr := match PySem.W.recIn K p T with
  | some (.ref g :: _) => g
  | _ => 0
inductive Pl where
  | glob (x : Str) | meth (c m : Str) | prop (c m : Str) | stat (c m : Str) | clsm (c m : Str)
def Pl.ad (K : PySem.W.Frag) : Pl → Addr
  | .glob x => ga K x
  | .meth c m => ma K (ga K c) m
  | .prop c m => recFn K (ma K (ga K c) m) "property"
  | .stat c m => recFn K (ma K (ga K c) m) "staticmethod"
  | .clsm c m => recFn K (ma K (ga K c) m) "classmethod"
def fd0 : FuncData := PySem.W.fnOf "" "" ⟨[], [], none, [], [], none, []⟩ [] ⟨.function, [], false, false, []⟩ .none .none .none .none none .none .none
def fdOf (K : PySem.W.Frag) (a : Addr) : FuncData := match K.lookup a with
  | some ⟨_, _, .func fd, _⟩ => fd
  | _ => fd0
/-- one def: its place, name, qualified name, parameters, body, scope -/
structure DefP where
  at_ : Pl
  name : Str
  qual : Str
  params : Arguments
  body : List Stmt
  scope : Scope
def fnP (K : PySem.W.Frag) (a : Addr) : FnW := match K.lookup a with
  | some ⟨_, _, .func fd, _⟩ => some (fd.name, fd.qualname, fd.params, fd.body, fd.scope, fd.globals, fd.closure, fd.builtins)
  | _ => none
def DefP.val (d : DefP) : FnW := some (d.name, d.qual, d.params, .stmts d.body, d.scope, mainGlobals, [], builtinsNs)
def DefP.ok (K : PySem.W.Frag) (d : DefP) : Bool := PySem.W.keepIn K (.ref (d.at_.ad K)) && (match K.lookup (d.at_.ad K) with
  | some ⟨_, _, .func fd, _⟩ => PySem.W.codeIn K fd.code d.qual && dflB K fd.defaults []
  | _ => false)
inductive Ft where
  | b (f : Fa) | prop (c f : Str) | stat (c m : Str) | clsm (c m : Str) | eqc (c : Str) | isi (cs : List Str) | len (c : Str) | raw (f : PySem.W.Frag → Bool)
def insB (K : PySem.W.Frag) (C : Addr) : Bool := (PySem.W.plainGet K C Str.empty && (PySem.W.hasDictIn K C && (PySem.W.plainOver K C && eqO (PySem.W.findIn K (.ref C) "__setattr__") (some (some (.builtin "object.__setattr__"))))))
  && (eqO (PySem.W.findIn K (.ref C) "__class__") (some (some (.builtin "object.__class__"))) && (eqO (PySem.W.specialIn K (.builtin "object.__class__") "__get__") (some (some (.builtin "getset_descriptor.__get__")))
  && (decide (PySem.W.takesIn K (.builtin "object.__class__") = some true) && decide (PySem.W.mroIn K C (.type "object") = some true))))
def Ft.ok (K : PySem.W.Frag) : Ft → Bool
  | .b f => f.ok K
  | .prop c f => eqO (PySem.W.findIn K (.ref (ga K c)) f) (some (some (.ref (ma K (ga K c) f)))) && (eqO (PySem.W.specialIn K (.ref (ma K (ga K c) f)) "__get__") (some (some (.builtin "property.__get__"))) && (decide (PySem.W.takesIn K (.ref (ma K (ga K c) f)) = some true) &&
    (match PySem.W.recIn K (ma K (ga K c) f) "property" with
      | some (.ref _ :: _) => true
      | _ => false)))
  | .stat c m => PySem.W.readsIn K (ga K c) (.type "type") && (eqO (PySem.W.specialIn K (.ref (ga K c)) "__getattribute__") (some (some (.builtin "type.__getattribute__"))) && ((match PySem.W.findCls K (.ref (ga K c)) (.type "type") m with
      | some (.get (.builtin "staticmethod.__get__") (.ref q) .none (.ref C)) => decide (q = ma K (ga K c) m) && decide (C = ga K c)
      | _ => false) && ((match PySem.W.recIn K (ma K (ga K c) m) "staticmethod" with
      | some (.ref _ :: _) => true
      | _ => false) && PySem.W.keepIn K (.ref (recFn K (ma K (ga K c) m) "staticmethod")))))
  | .clsm c m => PySem.W.readsIn K (ga K c) (.type "type") && (eqO (PySem.W.specialIn K (.ref (ga K c)) "__getattribute__") (some (some (.builtin "type.__getattribute__"))) && ((match PySem.W.findCls K (.ref (ga K c)) (.type "type") m with
      | some (.get (.builtin "classmethod.__get__") (.ref q) .none (.ref C)) => decide (q = ma K (ga K c) m) && decide (C = ga K c)
      | _ => false) && ((match PySem.W.recIn K (ma K (ga K c) m) "classmethod" with
      | some (.ref _ :: _) => true
      | _ => false) && PySem.W.fnIn K (recFn K (ma K (ga K c) m) "classmethod"))))
  | .eqc c => eqO (PySem.W.findIn K (.ref (ga K c)) "__eq__") (some (some (.ref (ma K (ga K c) "__eq__")))) && (PySem.W.isFn K (.ref (ma K (ga K c) "__eq__")) && (eqO (PySem.W.findIn K (.ref (ga K c)) "__ne__") (some (some (.builtin "object.__ne__"))) && decide (PySem.W.mroIn K (ga K c) (.type "object") = some true)))
  | .isi cs => (cs.all fun c => insB K (ga K c)) && ((cs.all fun c => cs.all fun k => decide (PySem.W.kitOne K (.ref (ga K c)) (.ref (ga K k)) = some (subC c k))) &&
    ((["NoneType", "bool", "int", "str", "tuple", "list", "dict"].all fun a => cs.all fun k => decide (PySem.W.kitOne K (.type a) (.ref (ga K k)) = some false)) &&
    (cs.all fun c => ["int", "bool", "str", "tuple", "list"].all fun n => decide (PySem.W.kitOne K (.ref (ga K c)) (.type n) = some false))))
  | .len c => eqO (PySem.W.findIn K (.ref (ga K c)) "__len__") (some (some (.ref (ma K (ga K c) "__len__")))) && PySem.W.isFn K (.ref (ma K (ga K c) "__len__"))
  | .raw f => f K
abbrev AlP : Type := Bool × List FnW
def obsP (fa : List Ft) (fn : List DefP) (K : PySem.W.Frag) : AlP := ((fa.all fun f => f.ok K) && fn.all fun d => d.ok K, fn.map fun d => fnP K (d.at_.ad K))
def valP (fn : List DefP) : AlP := (true, fn.map DefP.val)
def SaysP (fa : List Ft) (fn : List DefP) (K : PySem.W.Frag) : Prop := obsP fa fn K = valP fn
def obsPG (n : Nat) (fa : List Ft) (fn : List DefP) (g : Addr → Option Obj) : AlP := obsP fa fn (frG g (asM g n))
def hookP (n : Nat) (fa : List Ft) (fn : List DefP) : PySem.W.Hook where
  α := AlP
  obs := fun s => obsPG n fa fn s.heap.get?
  val := fun _ => valP fn
  says := fun _ h => ∃ K : PySem.W.Frag, K.In h ∧ SaysP fa fn K
  of := fun _ _ e => ⟨_, frG_in, e⟩
  keeps := fun _ _ _ ⟨K, hK, c⟩ k => ⟨K, PySem.W.Frag.In.keeps hK k, c⟩
theorem obsPG_eq {n : Nat} {fa : List Ft} {fn : List DefP} {g : Addr → Option Obj} {s : Shared} (h : ∀ a, g a = s.heap.get? a) : obsPG n fa fn g = (hookP n fa fn).obs s := by
  have e : g = s.heap.get? := funext h
  rw [e] <;> rfl
def noListsB (K : PySem.W.Frag) : Bool := K.all fun q => match q.2.cls with
  | .type c => !(c == "list")
  | _ => true
def ownB (c n : Str) (K : PySem.W.Frag) : Bool := eqO (PySem.W.findIn K (.ref (ga K c)) n) (some (some (.ref (ma K (ga K c) n)))) && PySem.W.isFn K (.ref (ma K (ga K c) n))
def ownSB (c n : Str) (K : PySem.W.Frag) : Bool := ownB c n K && PySem.W.selfFirst K (ga K c)
def noIB (c ni : Str) (K : PySem.W.Frag) : Bool := (match PySem.W.clsIn K (ga K c) with
    | some cd => cd.mro == [.ref (ga K c), .type "object"]
    | none => false) && ((match PySem.W.findIn K (.ref (ga K c)) ni with | some none => true | _ => false) && (match PySem.W.findIn K (.type "object") ni with | some none => true | _ => false))
def ownNSB (c n ni : Str) (K : PySem.W.Frag) : Bool := ownB c n K && noIB c ni K
end Mi

namespace G18
open PySem PySem.Spec PyProof.Rows L2 Mi He
def top (i : Nat) : Stmt := PySem.Challenge.pw_sparepay_k18_whole_least_and_greatest_fo.main.body.getD i (.Pass ⟨0, 0, 0, 0⟩)
def sub (s : Stmt) (j : Nat) : Stmt := match s with
  | .ClassDef _ _ _ b _ _ _ _ _ _ _ => b.getD j (.Pass ⟨0, 0, 0, 0⟩)
  | _ => .Pass ⟨0, 0, 0, 0⟩

@[reducible] def cs : List Str := ["Form"]
theorem hc_Form : ("Form" : Str) ∈ cs := by decide
abbrev st__law_draw : Stmt := (top 35)
def d__law_draw : DefP := ⟨.glob "_law_draw", "_law_draw", "_law_draw", defArgs st__law_draw, defBody st__law_draw, defScope st__law_draw⟩
theorem sc__law_draw : FnScope ["_law_purse_here", "_law_many", "_law_digit", "_law_first"] ["_law_purse_here", "_law_many"] (defScope st__law_draw) := ⟨rfl, rfl, rfl, by decide +kernel, rfl, by decide +kernel, by decide +kernel⟩
abbrev st__law_falling : Stmt := (top 39)
def d__law_falling : DefP := ⟨.glob "_law_falling", "_law_falling", "_law_falling", defArgs st__law_falling, defBody st__law_falling, defScope st__law_falling⟩
theorem sc__law_falling : FnScope ["_law_total", "_law_most", "_law_found", "_law_first", "_law_rest"] ["_law_total", "_law_most"] (defScope st__law_falling) := ⟨rfl, rfl, rfl, by decide +kernel, rfl, by decide +kernel, by decide +kernel⟩
abbrev st__law_small_rows : Stmt := (top 40)
def d__law_small_rows : DefP := ⟨.glob "_law_small_rows", "_law_small_rows", "_law_small_rows", defArgs st__law_small_rows, defBody st__law_small_rows, defScope st__law_small_rows⟩
theorem sc__law_small_rows : FnScope ["_law_most", "_law_found", "_law_total"] ["_law_most"] (defScope st__law_small_rows) := ⟨rfl, rfl, rfl, by decide +kernel, rfl, by decide +kernel, by decide +kernel⟩
abbrev st_check_form : Stmt := (top 31)
def d_check_form : DefP := ⟨.glob "check_form", "check_form", "check_form", defArgs st_check_form, defBody st_check_form, defScope st_check_form⟩
theorem sc_check_form : FnScope ["value"] ["value"] (defScope st_check_form) := ⟨rfl, rfl, rfl, by decide +kernel, rfl, by decide +kernel, by decide +kernel⟩
abbrev st_sums_of : Stmt := (top 21)
def d_sums_of : DefP := ⟨.glob "sums_of", "sums_of", "sums_of", defArgs st_sums_of, defBody st_sums_of, defScope st_sums_of⟩
theorem sc_sums_of : FnScope ["row", "found", "number"] ["row"] (defScope st_sums_of) := ⟨rfl, rfl, rfl, by decide +kernel, rfl, by decide +kernel, by decide +kernel⟩
abbrev st_number_at : Stmt := (top 20)
def d_number_at : DefP := ⟨.glob "number_at", "number_at", "number_at", defArgs st_number_at, defBody st_number_at, defScope st_number_at⟩
theorem sc_number_at : FnScope ["row", "index"] ["row", "index"] (defScope st_number_at) := ⟨rfl, rfl, rfl, by decide +kernel, rfl, by decide +kernel, by decide +kernel⟩
abbrev st_sums_for : Stmt := (top 22)
def d_sums_for : DefP := ⟨.glob "sums_for", "sums_for", "sums_for", defArgs st_sums_for, defBody st_sums_for, defScope st_sums_for⟩
theorem sc_sums_for : FnScope ["row", "days", "day"] ["row", "days"] (defScope st_sums_for) := ⟨rfl, rfl, rfl, by decide +kernel, rfl, by decide +kernel, by decide +kernel⟩
abbrev st_both_sums : Stmt := (top 24)
def d_both_sums : DefP := ⟨.glob "both_sums", "both_sums", "both_sums", defArgs st_both_sums, defBody st_both_sums, defScope st_both_sums⟩
theorem sc_both_sums : FnScope ["one", "other", "days"] ["one", "other"] (defScope st_both_sums) := ⟨rfl, rfl, rfl, by decide +kernel, rfl, by decide +kernel, by decide +kernel⟩
abbrev st_is_integer : Stmt := (top 14)
def d_is_integer : DefP := ⟨.glob "is_integer", "is_integer", "is_integer", defArgs st_is_integer, defBody st_is_integer, defScope st_is_integer⟩
theorem sc_is_integer : FnScope ["value"] ["value"] (defScope st_is_integer) := ⟨rfl, rfl, rfl, by decide +kernel, rfl, by decide +kernel, by decide +kernel⟩
abbrev st_is_natural : Stmt := (top 15)
def d_is_natural : DefP := ⟨.glob "is_natural", "is_natural", "is_natural", defArgs st_is_natural, defBody st_is_natural, defScope st_is_natural⟩
theorem sc_is_natural : FnScope ["value"] ["value"] (defScope st_is_natural) := ⟨rfl, rfl, rfl, by decide +kernel, rfl, by decide +kernel, by decide +kernel⟩
abbrev st_wrong_number : Stmt := (top 29)
def d_wrong_number : DefP := ⟨.glob "wrong_number", "wrong_number", "wrong_number", defArgs st_wrong_number, defBody st_wrong_number, defScope st_wrong_number⟩
theorem sc_wrong_number : FnScope ["row", "index", "number"] ["row"] (defScope st_wrong_number) := ⟨rfl, rfl, rfl, by decide +kernel, rfl, by decide +kernel, by decide +kernel⟩
abbrev st_Form___init__ : Stmt := (sub (top 30) 0)
def d_Form___init__ : DefP := ⟨.meth "Form" "__init__", "__init__", "Form.__init__", defArgs st_Form___init__, defBody st_Form___init__, defScope st_Form___init__⟩
theorem sc_Form___init__ : FnScope ["self", "row", "wrong"] ["self", "row"] (defScope st_Form___init__) := ⟨rfl, rfl, rfl, by decide +kernel, rfl, by decide +kernel, by decide +kernel⟩
abbrev st_least_row : Stmt := (top 25)
def d_least_row : DefP := ⟨.glob "least_row", "least_row", "least_row", defArgs st_least_row, defBody st_least_row, defScope st_least_row⟩
theorem sc_least_row : FnScope ["sums", "found", "total", "day", "wanted", "number", "later"] ["sums"] (defScope st_least_row) := ⟨rfl, rfl, rfl, by decide +kernel, rfl, by decide +kernel, by decide +kernel⟩
abbrev st_Form___or__ : Stmt := (sub (top 30) 15)
def d_Form___or__ : DefP := ⟨.meth "Form" "__or__", "__or__", "Form.__or__", defArgs st_Form___or__, defBody st_Form___or__, defScope st_Form___or__⟩
theorem sc_Form___or__ : FnScope ["self", "other", "pairs", "mine", "theirs"] ["self", "other"] (defScope st_Form___or__) := ⟨rfl, rfl, rfl, by decide +kernel, rfl, by decide +kernel, by decide +kernel⟩
abbrev st_row_with : Stmt := (top 23)
def d_row_with : DefP := ⟨.glob "row_with", "row_with", "row_with", defArgs st_row_with, defBody st_row_with, defScope st_row_with⟩
theorem sc_row_with : FnScope ["sums", "falls", "now", "later", "number"] ["sums"] (defScope st_row_with) := ⟨rfl, rfl, rfl, by decide +kernel, rfl, by decide +kernel, by decide +kernel⟩
abbrev st_Form___and__ : Stmt := (sub (top 30) 14)
def d_Form___and__ : DefP := ⟨.meth "Form" "__and__", "__and__", "Form.__and__", defArgs st_Form___and__, defBody st_Form___and__, defScope st_Form___and__⟩
theorem sc_Form___and__ : FnScope ["self", "other", "pairs", "mine", "theirs"] ["self", "other"] (defScope st_Form___and__) := ⟨rfl, rfl, rfl, by decide +kernel, rfl, by decide +kernel, by decide +kernel⟩
abbrev st_Form_row : Stmt := (sub (top 30) 4)
def d_Form_row : DefP := ⟨.prop "Form" "row", "row", "Form.row", defArgs st_Form_row, defBody st_Form_row, defScope st_Form_row⟩
theorem sc_Form_row : FnScope ["self"] ["self"] (defScope st_Form_row) := ⟨rfl, rfl, rfl, by decide +kernel, rfl, by decide +kernel, by decide +kernel⟩
abbrev st__law_sums : Stmt := (top 38)
def d__law_sums : DefP := ⟨.glob "_law_sums", "_law_sums", "_law_sums", defArgs st__law_sums, defBody st__law_sums, defScope st__law_sums⟩
theorem sc__law_sums : FnScope ["_law_row_here", "_law_many", "_law_found", "_law_k"] ["_law_row_here", "_law_many"] (defScope st__law_sums) := ⟨rfl, rfl, rfl, by decide +kernel, rfl, by decide +kernel, by decide +kernel⟩
abbrev st_Form___len__ : Stmt := (sub (top 30) 10)
def d_Form___len__ : DefP := ⟨.meth "Form" "__len__", "__len__", "Form.__len__", defArgs st_Form___len__, defBody st_Form___len__, defScope st_Form___len__⟩
theorem sc_Form___len__ : FnScope ["self"] ["self"] (defScope st_Form___len__) := ⟨rfl, rfl, rfl, by decide +kernel, rfl, by decide +kernel, by decide +kernel⟩
abbrev st_Form___str__ : Stmt := (sub (top 30) 20)
def d_Form___str__ : DefP := ⟨.meth "Form" "__str__", "__str__", "Form.__str__", defArgs st_Form___str__, defBody st_Form___str__, defScope st_Form___str__⟩
theorem sc_Form___str__ : FnScope ["self", "number"] ["self"] (defScope st_Form___str__) := ⟨rfl, rfl, rfl, by decide +kernel, rfl, by decide +kernel, by decide +kernel⟩
abbrev st_Form___repr__ : Stmt := (sub (top 30) 21)
def d_Form___repr__ : DefP := ⟨.meth "Form" "__repr__", "__repr__", "Form.__repr__", defArgs st_Form___repr__, defBody st_Form___repr__, defScope st_Form___repr__⟩
theorem sc_Form___repr__ : FnScope ["self"] ["self"] (defScope st_Form___repr__) := ⟨rfl, rfl, rfl, by decide +kernel, rfl, by decide +kernel, by decide +kernel⟩
abbrev st__law_below : Stmt := (top 41)
def d__law_below : DefP := ⟨.glob "_law_below", "_law_below", "_law_below", defArgs st__law_below, defBody st__law_below, defScope st__law_below⟩
theorem sc__law_below : FnScope ["_law_sums_here", "_law_rooms", "_law_k"] ["_law_sums_here", "_law_rooms"] (defScope st__law_below) := ⟨rfl, rfl, rfl, by decide +kernel, rfl, by decide +kernel, by decide +kernel⟩
abbrev st_is_bills : Stmt := (top 16)
def d_is_bills : DefP := ⟨.glob "is_bills", "is_bills", "is_bills", defArgs st_is_bills, defBody st_is_bills, defScope st_is_bills⟩
theorem sc_is_bills : FnScope ["value", "bill_here"] ["value"] (defScope st_is_bills) := ⟨rfl, rfl, rfl, by decide +kernel, rfl, by decide +kernel, by decide +kernel⟩
abbrev st_pays_bills : Stmt := (top 28)
def d_pays_bills : DefP := ⟨.glob "pays_bills", "pays_bills", "pays_bills", defArgs st_pays_bills, defBody st_pays_bills, defScope st_pays_bills⟩
theorem sc_pays_bills : FnScope ["row", "bills", "asks", "room", "index", "amount"] ["row", "bills"] (defScope st_pays_bills) := ⟨rfl, rfl, rfl, by decide +kernel, rfl, by decide +kernel, by decide +kernel⟩
abbrev st_Form___contains__ : Stmt := (sub (top 30) 11)
def d_Form___contains__ : DefP := ⟨.meth "Form" "__contains__", "__contains__", "Form.__contains__", defArgs st_Form___contains__, defBody st_Form___contains__, defScope st_Form___contains__⟩
theorem sc_Form___contains__ : FnScope ["self", "row"] ["self", "row"] (defScope st_Form___contains__) := ⟨rfl, rfl, rfl, by decide +kernel, rfl, by decide +kernel, by decide +kernel⟩
abbrev st__law_small_right : Stmt := (top 42)
def d__law_small_right : DefP := ⟨.glob "_law_small_right", "_law_small_right", "_law_small_right", defArgs st__law_small_right, defBody st__law_small_right, defScope st__law_small_right⟩
theorem sc__law_small_right : FnScope ["_law_purse_here", "_law_rows", "_law_one", "_law_other", "_law_both", "_law_least", "_law_ends", "_law_row_here", "_law_sums_here", "_law_paid"] ["_law_purse_here", "_law_rows"] (defScope st__law_small_right) := ⟨rfl, rfl, rfl, by decide +kernel, rfl, by decide +kernel, by decide +kernel⟩
abbrev st__law_large : Stmt := (top 36)
def d__law_large : DefP := ⟨.glob "_law_large", "_law_large", "_law_large", defArgs st__law_large, defBody st__law_large, defScope st__law_large⟩
theorem sc__law_large : FnScope ["_law_purse_here", "_law_found", "_law_turn"] ["_law_purse_here"] (defScope st__law_large) := ⟨rfl, rfl, rfl, by decide +kernel, rfl, by decide +kernel, by decide +kernel⟩
abbrev st__law_row : Stmt := (top 37)
def d__law_row : DefP := ⟨.glob "_law_row", "_law_row", "_law_row", defArgs st__law_row, defBody st__law_row, defScope st__law_row⟩
theorem sc__law_row : FnScope ["_law_purse_here", "_law_many", "_law_found", "_law_number", "_law_turn", "_law_way"] ["_law_purse_here", "_law_many"] (defScope st__law_row) := ⟨rfl, rfl, rfl, by decide +kernel, rfl, by decide +kernel, by decide +kernel⟩
abbrev st_Form___eq__ : Stmt := (sub (top 30) 19)
def d_Form___eq__ : DefP := ⟨.meth "Form" "__eq__", "__eq__", "Form.__eq__", defArgs st_Form___eq__, defBody st_Form___eq__, defScope st_Form___eq__⟩
theorem sc_Form___eq__ : FnScope ["self", "other"] ["self", "other"] (defScope st_Form___eq__) := ⟨rfl, rfl, rfl, by decide +kernel, rfl, by decide +kernel, by decide +kernel⟩
abbrev st__law_bound_anew : Stmt := (top 44)
def d__law_bound_anew : DefP := ⟨.glob "_law_bound_anew", "_law_bound_anew", "_law_bound_anew", defArgs st__law_bound_anew, defBody st__law_bound_anew, defScope st__law_bound_anew⟩
theorem sc__law_bound_anew : FnScope ["_law_first", "_law_mate", "_law_both", "_law_least", "_law_held"] ["_law_first", "_law_mate", "_law_both", "_law_least"] (defScope st__law_bound_anew) := ⟨rfl, rfl, rfl, by decide +kernel, rfl, by decide +kernel, by decide +kernel⟩
abbrev st__law_tight : Stmt := (top 43)
def d__law_tight : DefP := ⟨.glob "_law_tight", "_law_tight", "_law_tight", defArgs st__law_tight, defBody st__law_tight, defScope st__law_tight⟩
theorem sc__law_tight : FnScope ["_law_row_here", "_law_sums_here", "_law_before", "_law_k", "_law_later", "_law_j"] ["_law_row_here", "_law_sums_here"] (defScope st__law_tight) := ⟨rfl, rfl, rfl, by decide +kernel, rfl, by decide +kernel, by decide +kernel⟩
abbrev st__law_great_right : Stmt := (top 45)
def d__law_great_right : DefP := ⟨.glob "_law_great_right", "_law_great_right", "_law_great_right", defArgs st__law_great_right, defBody st__law_great_right, defScope st__law_great_right⟩
theorem sc__law_great_right : FnScope ["_law_purse_here", "_law_one", "_law_other", "_law_first", "_law_mate", "_law_both", "_law_least", "_law_sums_here", "_law_rooms", "_law_lesser", "_law_wanted", "_law_falls", "_law_k", "_law_number"] ["_law_purse_here"] (defScope st__law_great_right) := ⟨rfl, rfl, rfl, by decide +kernel, rfl, by decide +kernel, by decide +kernel⟩
abbrev st__law_right : Stmt := (top 46)
def d__law_right : DefP := ⟨.glob "_law_right", "_law_right", "_law_right", defArgs st__law_right, defBody st__law_right, defScope st__law_right⟩
theorem sc__law_right : FnScope ["_law_purse_here", "_law_rows", "_law_way"] ["_law_purse_here"] (defScope st__law_right) := ⟨rfl, rfl, rfl, by decide +kernel, rfl, by decide +kernel, by decide +kernel⟩
abbrev st__law_purse : Stmt := (top 34)
def d__law_purse : DefP := ⟨.glob "_law_purse", "_law_purse", "_law_purse", defArgs st__law_purse, defBody st__law_purse, defScope st__law_purse⟩
theorem sc__law_purse : FnScope ["_law_cell_here"] ["_law_cell_here"] (defScope st__law_purse) := ⟨rfl, rfl, rfl, by decide +kernel, rfl, by decide +kernel, by decide +kernel⟩
abbrev st__law_cell : Stmt := (top 33)
def d__law_cell : DefP := ⟨.glob "_law_cell", "_law_cell", "_law_cell", defArgs st__law_cell, defBody st__law_cell, defScope st__law_cell⟩
theorem sc__law_cell : FnScope ["_law_cells", "_law_k", "_law_seed", "_law_cell_here"] ["_law_cells", "_law_k"] (defScope st__law_cell) := ⟨rfl, rfl, rfl, by decide +kernel, rfl, by decide +kernel, by decide +kernel⟩
abbrev st_law : Stmt := (top 47)
def d_law : DefP := ⟨.glob "law", "law", "law", defArgs st_law, defBody st_law, defScope st_law⟩
theorem sc_law : FnScope ["_law_cells", "_law_k"] ["_law_cells"] (defScope st_law) := ⟨rfl, rfl, rfl, by decide +kernel, rfl, by decide +kernel, by decide +kernel⟩
def fa : List Ft := [
  .isi cs,
  .b (.free "len"),
  .b (.free "min"),
  .b (.free "max"),
  .b (.free "range"),
  .b (.free "divmod"),
  .b (.free "int"),
  .b (.glo "_law_draw"),
  .b (.glo "_law_falling"),
  .b (.glo "_law_small_rows"),
  .b (.glo "Form"),
  .b (.free "isinstance"),
  .b (.glo "check_form"),
  .b (.glo "number_at"),
  .b (.glo "sums_of"),
  .b (.glo "sums_for"),
  .b (.free "list"),
  .b (.free "zip"),
  .b (.noat "Form" "numbers"),
  .b (.cls "Form"),
  .b (.glo "both_sums"),
  .b (.free "tuple"),
  .b (.free "enumerate"),
  .b (.free "bool"),
  .b (.glo "is_integer"),
  .b (.glo "is_natural"),
  .b (.int "MOST_DAYS" 24),
  .b (.glo "wrong_number"),
  .b (.mkr "Form"),
  .b (.glo "least_row"),
  .raw (ownSB "Form" "__or__"),
  .b (.glo "row_with"),
  .raw (ownSB "Form" "__and__"),
  .prop "Form" "row",
  .b (.glo "_law_sums"),
  .len "Form",
  .b (.free "str"),
  .raw (ownB "Form" "__str__"),
  .raw (ownB "Form" "__repr__"),
  .b (.free "repr"),
  .b (.glo "_law_below"),
  .b (.free "all"),
  .b (.glo "is_bills"),
  .b (.free "sorted"),
  .b (.glo "pays_bills"),
  .raw (ownB "Form" "__contains__"),
  .b (.glo "_law_small_right"),
  .b (.glo "_law_large"),
  .b (.glo "_law_row"),
  .raw (ownNSB "Form" "__and__" "__iand__"),
  .eqc "Form",
  .raw (ownNSB "Form" "__or__" "__ior__"),
  .b (.glo "_law_bound_anew"),
  .b (.glo "_law_tight"),
  .b (.glo "_law_great_right"),
  .b (.glo "_law_cell"),
  .b (.glo "_law_purse"),
  .b (.glo "_law_right"),
  .b (.glo "law"),
  .raw noListsB]
def fn : List DefP := [d__law_draw, d__law_falling, d__law_small_rows, d_check_form, d_sums_of, d_number_at, d_sums_for, d_both_sums, d_is_integer, d_is_natural, d_wrong_number, d_Form___init__, d_least_row, d_Form___or__, d_row_with, d_Form___and__, d_Form_row, d__law_sums, d_Form___len__, d_Form___str__, d_Form___repr__, d__law_below, d_is_bills, d_pays_bills, d_Form___contains__, d__law_small_right, d__law_large, d__law_row, d_Form___eq__, d__law_bound_anew, d__law_tight, d__law_great_right, d__law_right, d__law_purse, d__law_cell, d_law]
end G18
set_option maxHeartbeats 0
section
namespace G18
open PySem PySem.Spec PyProof.Rows L2 Mi He
abbrev RR : PySem.W.OpenRow := PySem.W.OpenLaw.row PySem.Challenge.rw_sparepay_k18_whole_least_and_greatest_fo
def loose : List Str := [("_wall" : Str), ("WrongValue" : Str), ("InvalidText" : Str), ("InvalidAmount" : Str), ("InvalidBill" : Str), ("InvalidIndex" : Str), ("NotAForm" : Str), ("InvalidRow" : Str), ("NoAnswer" : Str), ("CannotPay" : Str), ("MOST_DAYS" : Str), ("DIGITS" : Str), ("is_integer" : Str), ("is_natural" : Str), ("is_bills" : Str), ("number_of" : Str), ("check_bill" : Str), ("number_at" : Str), ("sums_of" : Str), ("sums_for" : Str), ("row_with" : Str), ("both_sums" : Str), ("least_row" : Str), ("added" : Str), ("taken" : Str), ("pays_bills" : Str), ("wrong_number" : Str), ("Form" : Str), ("check_form" : Str), ("_law_cell" : Str), ("_law_purse" : Str), ("_law_draw" : Str), ("_law_large" : Str), ("_law_row" : Str), ("_law_sums" : Str), ("_law_falling" : Str), ("_law_small_rows" : Str), ("_law_below" : Str), ("_law_small_right" : Str), ("_law_tight" : Str), ("_law_bound_anew" : Str), ("_law_great_right" : Str), ("_law_right" : Str)]
abbrev hk : PySem.W.Hook := hookP 5 fa fn
def ob (s : PySem.W.SharedT) : AlP := obsPG 5 fa fn (HandSHeadRun.getT s)
theorem ob_eq (s : PySem.W.SharedT) : ob s = hk.obs s.abs := obsPG_eq (HandSHeadRun.getT_eq s)
def fb : List Ft := []
def fm : List DefP := []
def fa1 : List Ft := fa.take 45
def fa2 : List Ft := fa.drop 45
def fn1 : List DefP := fn.take 25
def fn2 : List DefP := fn.drop 25
open PySem PySem.W PySem.Calls PyProof.Rows HandSHeadRun in
theorem run1 (w : World) (os : OsState) : (HandSHeadRun.endF (HandSHeadRun.stepQ (HandSHeadRun.denQ HandSHeadRun.tabQ) RR.prog w) 20000 RR.prog w os).map (fun s => (looksF RR.prog (boot_heap w.params) s.abs, HandSHeadRun.seenQ (PySem.W.view RR.prog [47]) loose (importedModules RR.prog.main.body) (fun s => xlAt (PySem.W.view RR.prog [47]) [] s && recOk RR.toRowW.records s) s.abs)) = some (true, openGood (PySem.W.view RR.prog [47]) loose) := by
  kernel_rfl
open PySem PySem.W PySem.Calls PyProof.Rows HandSHeadRun in
theorem run3 (w : World) (os : OsState) : (HandSHeadRun.endF (HandSHeadRun.stepQ (HandSHeadRun.denQ HandSHeadRun.tabQ) RR.prog w) 20000 RR.prog w os).map (fun s => obsPG 5 fa1 fm (HandSHeadRun.getT s)) = some (valP fm) := by
  kernel_rfl
open PySem PySem.W PySem.Calls PyProof.Rows HandSHeadRun in
theorem run4 (w : World) (os : OsState) : (HandSHeadRun.endF (HandSHeadRun.stepQ (HandSHeadRun.denQ HandSHeadRun.tabQ) RR.prog w) 20000 RR.prog w os).map (fun s => obsPG 5 fa2 fm (HandSHeadRun.getT s)) = some (valP fm) := by
  kernel_rfl
open PySem PySem.W PySem.Calls PyProof.Rows HandSHeadRun in
theorem run5 (w : World) (os : OsState) : (HandSHeadRun.endF (HandSHeadRun.stepQ (HandSHeadRun.denQ HandSHeadRun.tabQ) RR.prog w) 20000 RR.prog w os).map (fun s => obsPG 5 fb fn1 (HandSHeadRun.getT s)) = some (valP fn1) := by
  kernel_rfl
open PySem PySem.W PySem.Calls PyProof.Rows HandSHeadRun in
theorem run6 (w : World) (os : OsState) : (HandSHeadRun.endF (HandSHeadRun.stepQ (HandSHeadRun.denQ HandSHeadRun.tabQ) RR.prog w) 20000 RR.prog w os).map (fun s => obsPG 5 fb fn2 (HandSHeadRun.getT s)) = some (valP fn2) := by
  kernel_rfl
theorem both (g : Addr → Option Obj) (h3 : obsPG 5 fa1 fm g = valP fm) (h4 : obsPG 5 fa2 fm g = valP fm) (h5 : obsPG 5 fb fn1 g = valP fn1) (h6 : obsPG 5 fb fn2 g = valP fn2) : obsPG 5 fa fn g = valP fn := by
  have efa : fa = fa1 ++ fa2 := (List.take_append_drop 45 fa).symm
  have efn : fn = fn1 ++ fn2 := (List.take_append_drop 25 fn).symm
  rw [efa, efn]
  unfold obsPG obsP valP at *
  generalize frG g (asM g 5) = K at *
  have a1 : (fa1.all fun f => f.ok K) = true := by
    have := congrArg Prod.fst h3
    simp only [Bool.and_eq_true] at this
    exact this.1
  have a2 : (fa2.all fun f => f.ok K) = true := by
    have := congrArg Prod.fst h4
    simp only [Bool.and_eq_true] at this
    exact this.1
  have b1 : (fn1.all fun d => d.ok K) = true := by
    have := congrArg Prod.fst h5
    simp only [Bool.and_eq_true] at this
    exact this.2
  have b2 : (fn2.all fun d => d.ok K) = true := by
    have := congrArg Prod.fst h6
    simp only [Bool.and_eq_true] at this
    exact this.2
  have c1 : (fn1.map fun d => fnP K (d.at_.ad K)) = fn1.map DefP.val := congrArg Prod.snd h5
  have c2 : (fn2.map fun d => fnP K (d.at_.ad K)) = fn2.map DefP.val := congrArg Prod.snd h6
  rw [List.all_append, List.all_append, List.map_append, List.map_append, a1, a2, b1, b2, c1, c2]
  rfl
theorem map3 {α β γ δ : Type} {x : Option α} {f : α → β} {g : α → γ} {h : α → δ} {a : β} {b : γ} {c : δ} (e1 : x.map (fun s => (f s, g s)) = some (a, b)) (e3 : x.map h = some c) : x.map (fun s => (f s, g s, h s)) = some (a, b, c) := by
  cases x with
  | none => cases e1
  | some s =>
    cases e3
    have e := Option.some.inj e1
    have e4 : f s = a := congrArg Prod.fst e
    have e5 : g s = b := congrArg Prod.snd e
    subst e4
    subst e5
    rfl
theorem run7 {x : Option PySem.W.SharedT} (e3 : x.map (fun s => obsPG 5 fa1 fm (HandSHeadRun.getT s)) = some (valP fm)) (e4 : x.map (fun s => obsPG 5 fa2 fm (HandSHeadRun.getT s)) = some (valP fm)) (e5 : x.map (fun s => obsPG 5 fb fn1 (HandSHeadRun.getT s)) = some (valP fn1)) (e6 : x.map (fun s => obsPG 5 fb fn2 (HandSHeadRun.getT s)) = some (valP fn2)) : x.map (fun s => ob s) = some (valP fn) := by
  cases x with
  | none => cases e3
  | some s => exact congrArg some (both _ (Option.some.inj e3) (Option.some.inj e4) (Option.some.inj e5) (Option.some.inj e6))
theorem run (w : World) : HandSHeadRun.RunEq RR (PySem.W.view RR.prog [47]) hk ob 20000 loose w := fun os => map3 (run1 w os) (run7 (run3 w os) (run4 w os) (run5 w os) (run6 w os))
end G18

end
set_option maxHeartbeats 4000000
set_option Elab.async false
set_option linter.all false
set_option maxRecDepth 100000
set_option maxHeartbeats 2000000
/-! Mi0: a mirror of Python code as plain functions on data, over the hand layer. Data D, how data lie in the abstract heap (Rep), steps of the heap (Stp, Gd), slots (Env, Sta), readings of mirrors (rdE, rdT, rdA, rdS, rdI, rdG, spM). -/
namespace Mi
open PySem PySem.Spec PyProof.Rows L2

/-- data -/
inductive D where
  | non | bl (b : Bool) | int (i : Int) | str (x : Str)
  | tup (ds : List D) | lst (ds : List D)
  | obj (c : Str) (ks : List Str) (ds : List D)
  | pur | ty (n : String) | cls (c : Str) | scr (ns : List Int)
  /-- an error that was caught; a dict with texts as keys -/
  | exc (c : Str) (ks : List Str) (ds : List D) | dct (ks : List Str) (ds : List D) | ecl (c : Str)
  /-- a dict whose keys are nested tuples of numbers -/
  | ndc (ks : List D) (ds : List D)
/-- the tables of code objects that lambdas are written into -/
class Tabl where
  T : List (Addr × Str)
  loose : Bool
variable [TB : Tabl]

/-- the one list that changes through calls (a purse of drawn numbers); idle: none is in use -/
inductive PuS where
  | real (l : List Int) | idle (o : HO)
def PuS.ho : PuS → HO
  | .real l => .lst (l.map V.int)
  | .idle o => o

/-- what is fixed: the written part, the classes by name -/
structure Wo where
  K : PySem.W.Frag
  cl : Str → Addr
  cs : List Str

/-- the object at a is just this one -/
def dxO (a : Addr) (o : Obj) : HO := .ext fun h => h.get? a = some o
/-- a dict's object: keys, where they stand, values -/
def DxO (a : Addr) (o : Obj) (xs : List (NestedKey × Addr × Value)) : Prop := (a == sysModules) = false ∧ o.ExactDict ∧ xs.length ≤ sizeLine ∧ (xs.map (·.1)).Nodup ∧
  ∃ es ep, o.data = .dict es ep ∧ ∀ (P : Program) (w : World), es.toList = xs.map (entryOfKey (nestedKind P w))
mutual
/-- data as a key -/
def keyN : D → Option NestedKey
  | .int i => some (.num i)
  | .tup ds => (keyNs ds).map .tup
  | _ => none
def keyNs : List D → Option (List NestedKey)
  | [] => some []
  | d :: r => match keyN d, keyNs r with
    | some k, some ks => some (k :: ks)
    | _, _ => none
end
inductive Rep (W : Wo) (p : Addr) (F : Hp) : V → D → Prop
  | non : Rep W p F .non .non
  | bl (b : Bool) : Rep W p F (.bl b) (.bl b)
  | int (i : Int) : Rep W p F (.int i) (.int i)
  | str (x : Str) : Rep W p F (.str x) (.str x)
  | ty (n : String) : Rep W p F (.ty n) (.ty n)
  | cls (c : Str) (hc : c ∈ W.cs) : Rep W p F (.ref (W.cl c)) (.cls c)
  | pur : Rep W p F (.ref p) .pur
  | scr {a : Addr} {ns : List Int} (h : SqL W.K F a (ns.map V.int)) : Rep W p F (.ref a) (.scr ns)
  | tup {a : Addr} {vs : List V} {ds : List D} (h : SqT W.K F a vs) (l : vs.length = ds.length) (r : ∀ (i : Nat) (v : V) (d : D), vs[i]? = some v → ds[i]? = some d → Rep W p F v d) : Rep W p F (.ref a) (.tup ds)
  | lst {a : Addr} {vs : List V} {ds : List D} (h : F a = some (.lst vs)) (l : vs.length = ds.length) (r : ∀ (i : Nat) (v : V) (d : D), vs[i]? = some v → ds[i]? = some d → Rep W p F v d) : Rep W p F (.ref a) (.lst ds)
  | obj {a dx : Addr} {c : Str} {ks : List Str} {vs : List V} {ds : List D} (hc : c ∈ W.cs) (h : F a = some (.ins (W.cl c) dx (ks.zip vs))) (lk : ks.length = vs.length) (l : vs.length = ds.length)
      (r : ∀ (i : Nat) (v : V) (d : D), vs[i]? = some v → ds[i]? = some d → Rep W p F v d) : Rep W p F (.ref a) (.obj c ks ds)
  | exc {a dx : Addr} {oe : Obj} {u : HO} {fs : Array Value} {c : Str} {ks : List Str} {vs : List V} {ds : List D} (hc : c ∈ errs) (h : F a = some (.frz oe u)) (hk : oe.cls = .ref (W.cl c)) (hf : oe.data = .fields fs) (h2 : fs[2]? = some .none)
      (hx : (oe.dict = some dx ∧ F dx = some (.xd (ks.zip vs))) ∨ (oe.dict = none ∧ ks = [])) (lk : ks.length = vs.length) (l : vs.length = ds.length) (r : ∀ (i : Nat) (v : V) (d : D), vs[i]? = some v → ds[i]? = some d → Rep W p F v d) : Rep W p F (.ref a) (.exc c ks ds)
  | ecl (c : Str) (hc : c ∈ errs) : Rep W p F (.ref (W.cl c)) (.ecl c)
  | dct {a : Addr} {ks : List Str} {vs : List V} {ds : List D} (h : F a = some (.dK ((ks.map Sum.inr).zip vs))) (lk : ks.length = vs.length) (l : vs.length = ds.length)
      (r : ∀ (i : Nat) (v : V) (d : D), vs[i]? = some v → ds[i]? = some d → Rep W p F v d) : Rep W p F (.ref a) (.dct ks ds)
  | ndc {a : Addr} {o : Obj} {xs : List (NestedKey × Addr × Value)} {vs : List V} {ks ds : List D} (h : F a = some (dxO a o)) (hx : DxO a o xs) (lk : xs.length = ks.length) (lv : xs.length = vs.length) (l : vs.length = ds.length)
      (hk : ∀ (i : Nat) (x : NestedKey × Addr × Value) (d : D), xs[i]? = some x → ks[i]? = some d → keyN d = some x.1 ∧ x.1.depth ≤ 8)
      (rv : ∀ (i : Nat) (x : NestedKey × Addr × Value) (v : V), xs[i]? = some x → vs[i]? = some v → RelV v x.2.2)
      (rk : ∀ (i : Nat) (x : NestedKey × Addr × Value) (d : D), xs[i]? = some x → ks[i]? = some d → Rep W p F (.ref x.2.1) d)
      (r : ∀ (i : Nat) (v : V) (d : D), vs[i]? = some v → ds[i]? = some d → Rep W p F v d) : Rep W p F (.ref a) (.ndc ks ds)

/-- keys and values of a dict -/
structure DctR (W : Wo) (p : Addr) (F : Hp) (xs : List (NestedKey × Addr × Value)) (vs : List V) (ks ds : List D) : Prop where
  lk : xs.length = ks.length
  lv : xs.length = vs.length
  l : vs.length = ds.length
  hk : ∀ (i : Nat) (x : NestedKey × Addr × Value) (d : D), xs[i]? = some x → ks[i]? = some d → keyN d = some x.1 ∧ x.1.depth ≤ 8
  rv : ∀ (i : Nat) (x : NestedKey × Addr × Value) (v : V), xs[i]? = some x → vs[i]? = some v → RelV v x.2.2
  rk : ∀ (i : Nat) (x : NestedKey × Addr × Value) (d : D), xs[i]? = some x → ks[i]? = some d → Rep W p F (.ref x.2.1) d
  r : ∀ (i : Nat) (v : V) (d : D), vs[i]? = some v → ds[i]? = some d → Rep W p F v d
def Reps (W : Wo) (p : Addr) (F : Hp) (vs : List V) (ds : List D) : Prop := vs.length = ds.length ∧ ∀ (i : Nat) (v : V) (d : D), vs[i]? = some v → ds[i]? = some d → Rep W p F v d

theorem sq_t {K : PySem.W.Frag} {H H' : Hp} {a : Addr} {xs : List V} (e : Same H H') (h : SqT K H a xs) : SqT K H' a xs := by
  rcases h with (h | ⟨o, h⟩) | h
  · exact .inl (.inl (e _ _ h))
  · exact .inl (.inr ⟨o, e _ _ h⟩)
  · exact .inr h

theorem sq_l {K : PySem.W.Frag} {H H' : Hp} {a : Addr} {xs : List V} (e : Same H H') (h : SqL K H a xs) : SqL K H' a xs := by
  rcases h with (h | ⟨o, h⟩) | h
  · exact .inl (.inl (e _ _ h))
  · exact .inl (.inr ⟨o, e _ _ h⟩)
  · exact .inr h

section
variable {W : Wo} {p : Addr} {F F' H H' F1 H1 F2 H2 : Hp} {u u1 u2 : PuS}
theorem Rep.mono {v : V} {d : D} (e : Same F F') (h : Rep W p F v d) : Rep W p F' v d := by
  induction h with
  | non => exact .non
  | bl b => exact .bl b
  | int i => exact .int i
  | str x => exact .str x
  | ty n => exact .ty n
  | cls c hc => exact .cls c hc
  | pur => exact .pur
  | scr h => exact .scr (sq_l e h)
  | tup h l r ih => exact .tup (sq_t e h) l ih
  | lst h l r ih => exact .lst (e _ _ h) l ih
  | obj hc h lk l r ih => exact .obj hc (e _ _ h) lk l ih
  | exc hc h hk hf h2 hx lk l r ih => exact .exc hc (e _ _ h) hk hf h2 (hx.imp (fun z => ⟨z.1, e _ _ z.2⟩) id) lk l ih
  | dct h lk l r ih => exact .dct (e _ _ h) lk l ih
  | ecl c hc => exact .ecl c hc
  | ndc h hx lk lv l hk rv rk r ihk ih => exact .ndc (e _ _ h) hx lk lv l hk rv ihk ih
theorem Reps.mono {vs : List V} {ds : List D} (e : Same F F') (h : Reps W p F vs ds) : Reps W p F' vs ds := ⟨h.1, fun i v d a b => (h.2 i v d a b).mono e⟩
theorem DctR.mono {xs : List (NestedKey × Addr × Value)} {vs : List V} {ks ds : List D} (e : Same F F') (h : DctR W p F xs vs ks ds) : DctR W p F' xs vs ks ds := ⟨h.lk, h.lv, h.l, h.hk, h.rv, fun i x d a b => (h.rk i x d a b).mono e, fun i v d a b => (h.r i v d a b).mono e⟩
theorem Reps.nil : Reps W p F [] [] := ⟨rfl, fun i v d a _ => by simp at a⟩
theorem Reps.cons {v : V} {d : D} {vs : List V} {ds : List D} (h : Rep W p F v d) (r : Reps W p F vs ds) : Reps W p F (v :: vs) (d :: ds) := by
  refine ⟨by simp [r.1], fun i x y a b => ?_⟩
  cases i with
  | zero =>
    simp at a b
    subst a; subst b
    exact h
  | succ i =>
    simp at a b
    exact r.2 i x y a b
theorem Reps.uncons {vs : List V} {d : D} {ds : List D} (r : Reps W p F vs (d :: ds)) : ∃ v vr, vs = v :: vr ∧ Rep W p F v d ∧ Reps W p F vr ds := by
  obtain ⟨l, r⟩ := r
  cases vs with
  | nil => simp at l
  | cons v vr => exact ⟨v, vr, rfl, r 0 v d rfl rfl, by simpa using l, fun i x y a b => r (i + 1) x y (by simpa using a) (by simpa using b)⟩
theorem Reps.none {vs : List V} (r : Reps W p F vs []) : vs = [] := by
  cases vs with
  | nil => rfl
  | cons v vr => have := r.1; simp at this
theorem Reps.append {vs ws : List V} {ds es : List D} (a : Reps W p F vs ds) (b : Reps W p F ws es) : Reps W p F (vs ++ ws) (ds ++ es) := by
  refine ⟨by simp [a.1, b.1], fun i v d h1 h2 => ?_⟩
  by_cases hi : i < vs.length
  · rw [List.getElem?_append_left hi] at h1
    rw [List.getElem?_append_left (by rw [← a.1]; exact hi)] at h2
    exact a.2 i v d h1 h2
  · rw [List.getElem?_append_right (by omega)] at h1
    rw [List.getElem?_append_right (by rw [← a.1]; omega)] at h2
    rw [a.1] at h1
    exact b.2 _ v d h1 h2
theorem Reps.get {vs : List V} {ds : List D} {i : Nat} {d : D} (a : Reps W p F vs ds) (h : ds[i]? = some d) : ∃ v, vs[i]? = some v ∧ Rep W p F v d := by
  have hi : i < vs.length := by
    have := (List.getElem?_eq_some_iff.mp h).1
    rw [a.1]; exact this
  exact ⟨vs[i], List.getElem?_eq_getElem hi, a.2 i _ d (List.getElem?_eq_getElem hi) h⟩

/-! ### steps of the heap -/
structure Stp (p : Addr) (F H F' H' : Hp) : Prop where
  ef : Same F F'
  eh : ∀ a o, a ≠ p → H a = some o → (TB.loose = false ∨ ∀ ps, o ≠ .tbl ps) → H' a = some o
  et : ∀ a ps, a ≠ p → H a = some (.tbl ps) → ∃ qs, H' a = some (.tbl qs)
  nw : ∀ a o, F' a = some o → F a = some o ∨ H a = none
structure Gd (p : Addr) (u : PuS) (F H : Hp) : Prop where
  ex : Same F H
  pu : H p = some u.ho
  off : ∀ l, u = .real l → F p = none
  nt : ∀ a ps, F a ≠ some (.tbl ps)
  tb : LamX.Tabs TB.T H
  hp : ∀ ps, u.ho ≠ .tbl ps
theorem tbl_or (o : HO) : (∃ ps, o = .tbl ps) ∨ ∀ ps, o ≠ .tbl ps := by
  cases o with
  | tbl ps => exact .inl ⟨ps, rfl⟩
  | _ => exact .inr fun ps z => by cases z
theorem Stp.kept (s : Stp p F H F1 H1) {a : Addr} (ha : a ≠ p) (h : H a ≠ none) : H1 a ≠ none := by
  cases q : H a with
  | none => exact absurd q h
  | some o =>
    rcases tbl_or o with ⟨ps, rfl⟩ | n
    · obtain ⟨qs, e⟩ := s.et a ps ha q
      rw [e]; simp
    · rw [s.eh a o ha q (.inr n)]; simp
theorem Stp.refl : Stp p F H F H := ⟨fun _ _ h => h, fun _ _ _ h _ => h, fun _ ps _ h => ⟨ps, h⟩, fun _ _ h => .inl h⟩
theorem Stp.trans (s : Stp p F H F1 H1) (g : H1 p ≠ none) (t : Stp p F1 H1 F2 H2) : Stp p F H F2 H2 := by
  refine ⟨s.ef.trans t.ef, fun a o h e n => t.eh a o h (s.eh a o h e n) n, fun a ps h e => ?_, fun a o e => ?_⟩
  · obtain ⟨qs, e1⟩ := s.et a ps h e
    exact t.et a qs h e1
  rcases t.nw a o e with h | h
  · exact s.nw a o h
  · right
    cases q : H a with
    | none => rfl
    | some x =>
      by_cases ha : a = p
      · subst ha; exact absurd h g
      · exact absurd h (s.kept ha (by rw [q]; simp))
theorem Gd.ne (g : Gd p u F H) : H p ≠ none := by rw [g.pu]; simp
theorem grow {q : Addr} {o : HO} (h : H q = none) : ∀ b x, H b = some x → upd H q o b = some x := fun b x e => by rw [upd_ne (ne_of_none e h)]; exact e
/-- what is written over an object that is neither a table nor a code object leaves the tables -/
theorem tabs_over {T : List (Addr × Str)} {q : Addr} {o : HO} {xs : List V} (hq : H q = some (.lst xs)) (t : LamX.Tabs T H) : LamX.Tabs T (upd H q o) := fun P hP => by
  obtain ⟨ps, h1, h2, h3⟩ := t P hP
  refine ⟨ps, by rw [upd_ne (fun z => by rw [z, hq] at h1; cases h1)]; exact h1, h2, fun ps2 cv e => ?_⟩
  obtain ⟨c, e1, e2⟩ := h3 ps2 cv e
  exact ⟨c, e1, by rw [upd_ne (fun z => by rw [z, hq] at e2; have := Option.some.inj e2; unfold LamX.CodeO at this; cases this)]; exact e2⟩
theorem tabs_overI {T : List (Addr × Str)} {q : Addr} {o : HO} {C dx : Addr} {fs : List (Str × V)} (hq : H q = some (.ins C dx fs)) (t : LamX.Tabs T H) : LamX.Tabs T (upd H q o) := fun P hP => by
  obtain ⟨ps, h1, h2, h3⟩ := t P hP
  refine ⟨ps, by rw [upd_ne (fun z => by rw [z, hq] at h1; cases h1)]; exact h1, h2, fun ps2 cv e => ?_⟩
  obtain ⟨c, e1, e2⟩ := h3 ps2 cv e
  exact ⟨c, e1, by rw [upd_ne (fun z => by rw [z, hq] at e2; have := Option.some.inj e2; unfold LamX.CodeO at this; cases this)]; exact e2⟩
theorem nt_upd {q : Addr} {o : HO} (g : ∀ a ps, F a ≠ some (.tbl ps)) (no : ∀ ps, o ≠ .tbl ps) : ∀ a ps, upd F q o a ≠ some (.tbl ps) := fun a ps z => by
  by_cases ha : a = q
  · subst ha; rw [upd_same] at z; exact no ps (Option.some.inj z)
  · rw [upd_ne ha] at z; exact g a ps z
theorem Gd.new {q : Addr} {o : HO} (g : Gd p u F H) (h : H q = none) (no : ∀ ps, o ≠ .tbl ps := by intro _ z; cases z) : Gd p u (upd F q o) (upd H q o) := by
  have hq : p ≠ q := fun e => g.ne (e ▸ h)
  refine ⟨fun a x e => ?_, by rw [upd_ne hq]; exact g.pu, fun l e => by rw [upd_ne hq]; exact g.off l e, nt_upd g.nt no, g.tb.ext (grow h), g.hp⟩
  by_cases ha : a = q
  · subst ha; rw [upd_same] at e ⊢; exact e
  · rw [upd_ne ha] at e ⊢; exact g.ex a x e
theorem Stp.new {q : Addr} {o : HO} (g : Gd p u F H) (h : H q = none) : Stp p F H (upd F q o) (upd H q o) := by
  refine ⟨fun a x e => ?_, fun a x _ e _ => ?_, fun a ps _ e => ⟨ps, grow h a _ e⟩, fun a x e => ?_⟩
  · rw [upd_ne (ne_of_none (g.ex a x e) h)]; exact e
  · rw [upd_ne (ne_of_none e h)]; exact e
  · by_cases ha : a = q
    · subst ha; exact .inr h
    · rw [upd_ne ha] at e; exact .inl e
/-- a new object that is not frozen -/
theorem Gd.own {q : Addr} {o : HO} (g : Gd p u F H) (h : H q = none) : Gd p u F (upd H q o) := by
  have hq : p ≠ q := fun e => g.ne (e ▸ h)
  exact ⟨fun a x e => by rw [upd_ne (ne_of_none (g.ex a x e) h)]; exact g.ex a x e, by rw [upd_ne hq]; exact g.pu, g.off, g.nt, g.tb.ext (grow h), g.hp⟩
theorem Stp.own {q : Addr} {o : HO} (h : H q = none) : Stp p F H F (upd H q o) :=
  ⟨fun _ _ e => e, fun a x _ e _ => by rw [upd_ne (ne_of_none e h)]; exact e, fun a ps _ e => ⟨ps, grow h a _ e⟩, fun _ _ e => .inl e⟩
theorem Gd.fresh {q : Addr} (g : Gd p u F H) (h : H q = none) : F q = none := by
  cases e : F q with
  | none => rfl
  | some o => rw [g.ex q o e] at h; cases h
theorem Stp.off {q : Addr} (s : Stp p F H F' H') (h : F q = none) (h' : H q ≠ none) : F' q = none := by
  cases e : F' q with
  | none => rfl
  | some o =>
    rcases s.nw q o e with z | z
    · rw [h] at z; cases z
    · exact absurd z h'
end

/-! ### slots -/
inductive Sd where
  | un | sh (d : D) | ow (ds : List D) | oi (c : Str) (ks : List Str) (ds : List D) | od (ks ds : List D)
abbrev Env := List Sd
def Sd.own : Sd → Bool
  | .ow _ => true
  | .oi _ _ _ => true
  | .od _ _ => true
  | _ => false
/-- where a body runs: entered at F0, H0; sf: the object that is being made -/
structure Cf where
  W : Wo
  p : Addr
  F0 : Hp
  H0 : Hp
  sf : Addr
  xw : WX
def SdOk (c : Cf) (F H : Hp) (x : Option (Option V)) : Sd → Prop
  | .un => True
  | .sh d => ∃ v, x = some (some v) ∧ Rep c.W c.p F v d
  | .ow ds => ∃ q vs, x = some (some (.ref q)) ∧ H q = some (.lst vs) ∧ F q = none ∧ q ≠ c.p ∧ c.H0 q = none ∧ Reps c.W c.p F vs ds
  | .oi k ks ds => ∃ dx vs, x = some (some (.ref c.sf)) ∧ H c.sf = some (.ins (c.W.cl k) dx (ks.zip vs)) ∧ F c.sf = none ∧ c.sf ≠ c.p ∧ c.H0 c.sf = none ∧ ks.length = vs.length ∧ Reps c.W c.p F vs ds
  | .od ks ds => ∃ q o xs vs, x = some (some (.ref q)) ∧ H q = some (dxO q o) ∧ F q = none ∧ q ≠ c.p ∧ c.H0 q = none ∧ DxO q o xs ∧ DctR c.W c.p F xs vs ks ds
structure EnvOk (c : Cf) (F H : Hp) (σ : L2.St) (ρ : Env) : Prop where
  len : σ.length = ρ.length
  at_ : ∀ (i : Nat) (s : Sd), ρ[i]? = some s → SdOk c F H σ[i]? s
  ne : ∀ (i j : Nat) (s t : Sd), i ≠ j → ρ[i]? = some s → ρ[j]? = some t → s.own = true → t.own = true → σ[i]? ≠ σ[j]?
structure Sta (c : Cf) (u : PuS) (F H : Hp) (σ : L2.St) (ρ : Env) : Prop where
  ent : Stp c.p c.F0 c.H0 F H
  gd : Gd c.p u F H
  env : EnvOk c F H σ ρ
section
variable {c : Cf} {u u' : PuS} {F H F' H' : Hp} {σ : L2.St} {ρ : Env}
theorem SdOk.step {x : Option (Option V)} {s : Sd} (h : SdOk c F H x s) (t : Stp c.p F H F' H') : SdOk c F' H' x s := by
  cases s with
  | un => trivial
  | sh d => obtain ⟨v, e, r⟩ := h; exact ⟨v, e, r.mono t.ef⟩
  | ow ds => obtain ⟨q, vs, e, hq, hf, hp, h0, r⟩ := h; exact ⟨q, vs, e, t.eh q _ hp hq (.inr (by intro _ z; cases z)), t.off hf (by rw [hq]; simp), hp, h0, r.mono t.ef⟩
  | oi k ks ds => obtain ⟨dx, vs, e, hq, hf, hp, h0, hl, r⟩ := h; exact ⟨dx, vs, e, t.eh _ _ hp hq (.inr (by intro _ z; cases z)), t.off hf (by rw [hq]; simp), hp, h0, hl, r.mono t.ef⟩
  | od ks ds => obtain ⟨q, o, xs, vs, e, hq, hf, hp, h0, hx, r⟩ := h; exact ⟨q, o, xs, vs, e, t.eh _ _ hp hq (.inr (by intro _ z; cases z)), t.off hf (by rw [hq]; simp), hp, h0, hx, r.mono t.ef⟩
theorem Sta.step (s : Sta c u F H σ ρ) (t : Stp c.p F H F' H') (g : Gd c.p u' F' H') : Sta c u' F' H' σ ρ :=
  ⟨s.ent.trans s.gd.ne t, g, s.env.len, fun i x e => (s.env.at_ i x e).step t, s.env.ne⟩
end

/-! ### mirrors -/
abbrev M (α : Type) := PuS → Option (α × PuS)
def M.pure {α : Type} (a : α) : M α := fun u => some (a, u)
def M.bind {α β : Type} (m : M α) (f : α → M β) : M β := fun u => match m u with
  | some (a, u') => f a u'
  | none => none
def lft {α : Type} (o : Option α) : M α := fun u => o.map fun a => (a, u)
instance : Monad M where
  pure := M.pure
  bind := M.bind
/-- what is wanted behind a mirror's step -/
def After {α : Type} (p : Addr) (F H : Hp) (r : Option (α × PuS)) (Φ : α → PuS → Hp → Hp → Prop) : Prop := match r with
  | some (a, u') => ∀ F' H', Stp p F H F' H' → Gd p u' F' H' → Φ a u' F' H'
  | none => False
section
variable {α β : Type} {p : Addr} {F H : Hp} {u : PuS}
theorem After.imp {r : Option (α × PuS)} {Φ Ψ : α → PuS → Hp → Hp → Prop} (h : After p F H r Φ) (k : ∀ a u' F' H', r = some (a, u') → Stp p F H F' H' → Gd p u' F' H' → Φ a u' F' H' → Ψ a u' F' H') : After p F H r Ψ := by
  cases r with
  | none => exact h
  | some x => obtain ⟨a, u'⟩ := x; exact fun F' H' s g => k a u' F' H' rfl s g (h F' H' s g)
theorem After.split {m : M α} {f : α → M β} {Φ : β → PuS → Hp → Hp → Prop} (h : After p F H (M.bind m f u) Φ) : After p F H (m u) fun a u1 F1 H1 => After p F1 H1 (f a u1) Φ := by
  unfold M.bind at h
  cases e : m u with
  | none => rw [e] at h; exact h
  | some x =>
    obtain ⟨a, u1⟩ := x
    rw [e] at h
    intro F1 H1 s g
    show After p F1 H1 (f a u1) Φ
    have h2 : After p F H (f a u1) Φ := h
    cases e2 : f a u1 with
    | none => rw [e2] at h2; exact h2
    | some y =>
      obtain ⟨b, u2⟩ := y
      rw [e2] at h2
      exact fun F2 H2 s2 g2 => h2 F2 H2 (s.trans g.ne s2) g2
theorem After.now {a : α} {Φ : α → PuS → Hp → Hp → Prop} (g : Gd p u F H) (h : After p F H (some (a, u)) Φ) : Φ a u F H := h F H Stp.refl g
end

abbrev ME := Env → M D
abbrev MT := Env → M Bool
abbrev MA := Env → M (List D)
inductive Fl where
  | nx (ρ : Env) | rt (d : D) | bk (ρ : Env) | ct (ρ : Env) | rl (ds : List D)
  | ex (ρ : Env) (c : Str) (ks : List Str) (ds : List D)
abbrev MS := Env → M Fl
abbrev MG := D → Env → Option Env

def rdE (c : Cf) (m : ME) : TE := fun σ H Q => ∃ F u ρ, Sta c u F H σ ρ ∧ After c.p F H (m ρ u) fun d _ F' H' => ∀ v, Rep c.W c.p F' v d → Q v H'
def rdT (c : Cf) (m : MT) : TT := fun σ H Q => ∃ F u ρ, Sta c u F H σ ρ ∧ After c.p F H (m ρ u) fun b _ _ H' => Q b H'
def rdA (c : Cf) (m : MA) : TA := fun σ H Q => ∃ F u ρ, Sta c u F H σ ρ ∧ After c.p F H (m ρ u) fun ds _ F' H' => ∀ vs, Reps c.W c.p F' vs ds → Q vs H'
/-- a fresh list, not frozen -/
def rdL (c : Cf) (m : MA) : TE := fun σ H Q => ∃ F u ρ, Sta c u F H σ ρ ∧ After c.p F H (m ρ u) fun ds _ F' H' => ∀ q vs, F' q = none → H q = none → H' q = some (.lst vs) → Reps c.W c.p F' vs ds → Q (.ref q) H'
/-- what is known of an error in flight: its class, its dict -/
def ExRep (W : Wo) (p : Addr) (F : Hp) (k : Str) (ks : List Str) (ds : List D) (cls : Value) (od : Option Addr) : Prop :=
  cls = .ref (W.cl k) ∧ k ∈ errs ∧ ∃ vs, ks.length = vs.length ∧ Reps W p F vs ds ∧ ((∃ dx, od = some dx ∧ F dx = some (.xd (ks.zip vs))) ∨ (od = none ∧ ks = []))
/-- no error is let out -/
abbrev noX : WX := fun _ _ _ _ => False
def flow (c : Cf) (F : Hp) (Dn : Ends) : Fl → PuS → Prop := fun f u' => match f with
  | .nx ρ' => ∀ σ' F' H', Same F F' → Sta c u' F' H' σ' ρ' → Dn.nx σ' H'
  | .bk ρ' => ∀ σ' F' H', Same F F' → Sta c u' F' H' σ' ρ' → Dn.bk σ' H'
  | .ct ρ' => ∀ σ' F' H', Same F F' → Sta c u' F' H' σ' ρ' → Dn.ct σ' H'
  | .rt d => ∀ v F' H', Stp c.p c.F0 c.H0 F' H' → Gd c.p u' F' H' → Rep c.W c.p F' v d → Dn.rt v H'
  | .rl ds => ∀ q vs F' H', Stp c.p c.F0 c.H0 F' H' → Gd c.p u' F' H' → F' q = none → c.H0 q = none → H' q = some (.lst vs) → Reps c.W c.p F' vs ds → Dn.rt (.ref q) H'
  | .ex ρ' k ks ds => ∀ σ' F' H' cls od, Same F F' → Sta c u' F' H' σ' ρ' → ExRep c.W c.p F' k ks ds cls od → c.xw cls od σ' H'
def flowO (c : Cf) (F : Hp) (Dn : Ends) : Option (Fl × PuS) → Prop
  | some (f, u') => flow c F Dn f u'
  | none => False
def rdS (c : Cf) (m : MS) : TS := fun Dn σ H => ∃ F u ρ, Sta c u F H σ ρ ∧ flowO c F Dn (m ρ u)
/-- two slot lists that differ at most at these places -/
def Agr (is : List Nat) (σ σ' : L2.St) : Prop := σ'.length = σ.length ∧ ∀ j, j ∉ is → σ'[j]? = σ[j]?
def rdG (c : Cf) (is : List Nat) (m : MG) : TG := fun v σ H Q => ∃ F u ρ d, Sta c u F H σ ρ ∧ Rep c.W c.p F v d ∧ match m d ρ with
  | some ρ' => ∀ σ', Sta c u F H σ' ρ' → Agr is σ σ' → Q σ' H
  | none => False
def rdGs (c : Cf) (is : List Nat) (m : List D → Env → Option Env) : TGs := fun vs σ H Q => ∃ F u ρ ds, Sta c u F H σ ρ ∧ Reps c.W c.p F vs ds ∧ match m ds ρ with
  | some ρ' => ∀ σ', Sta c u F H σ' ρ' → Agr is σ σ' → Q σ' H
  | none => False
/-- what a walk over data gives -/
def WalkD (W : Wo) (p : Addr) (J : It) (F : Hp) (ds : List D) : Prop := ∃ (G : Hp → Prop) (Y : Nat → Hp → V → Hp → Prop), Walk J ds.length G Y ∧ (∀ H, Same F H → G H) ∧
  ∀ (i : Nat) (H : Hp) (x : V) (H' F2 : Hp) (u : PuS) (d : D), ds[i]? = some d → Same F F2 → Gd p u F2 H → Y i H x H' → ∃ F3, Stp p F2 H F3 H' ∧ Gd p u F3 H' ∧ Rep W p F3 x d
def rdI (c : Cf) (m : MA) : TI := fun σ H R => ∃ F u ρ, Sta c u F H σ ρ ∧ After c.p F H (m ρ u) fun ds _ F' H' => ∀ J, WalkD c.W c.p J F' ds → R J H'
/-- a def's promise by its mirror -/
def spM (W : Wo) (n : Nat) (mf : List D → M D) : Sp := fun vs H Q _ => vs.length = n ∧ ∃ p F u ds, Gd p u F H ∧ Reps W p F vs ds ∧ After p F H (mf ds u) fun d _ F' H' => ∀ v, Rep W p F' v d → Q v H'

/-! ### the judgements -/
theorem _root_.L2.PE.imp {X : Cx} {e : Expr} {t t' : TE} (h : PE X e t) (k : ∀ σ H Q, t' σ H Q → t σ H Q) : PE X e t' := ⟨fun pins s σ H Q I q => h.run pins s σ H Q I (k σ H Q q)⟩
theorem _root_.L2.PT.imp {X : Cx} {e : Expr} {t t' : TT} (h : PT X e t) (k : ∀ σ H Q, t' σ H Q → t σ H Q) : PT X e t' := ⟨fun pins s σ H Q I q => h.run pins s σ H Q I (k σ H Q q)⟩
theorem _root_.L2.PW.imp {X : Cx} {e : Expr} {t t' : TT} (h : PW X e t) (k : ∀ σ H Q, t' σ H Q → t σ H Q) : PW X e t' := ⟨fun wh pins s σ H Q I q => h.run wh pins s σ H Q I (k σ H Q q)⟩
theorem _root_.L2.PA.imp {X : Cx} {e : List Expr} {t t' : TA} (h : PA X e t) (k : ∀ σ H Q, t' σ H Q → t σ H Q) : PA X e t' := ⟨fun pos pins s σ H Q I q => h.run pos pins s σ H Q I (k σ H Q q)⟩
theorem _root_.L2.PS.imp {X : Cx} {e : Stmt} {t t' : TS} (h : PS X e t) (k : ∀ Dn σ H, t' Dn σ H → t Dn σ H) : PS X e t' := ⟨fun pins s σ H Dn I q => h.run pins s σ H Dn I (k Dn σ H q)⟩
theorem _root_.L2.PSs.imp {X : Cx} {e : List Stmt} {t t' : TS} (h : PSs X e t) (k : ∀ Dn σ H, t' Dn σ H → t Dn σ H) : PSs X e t' := ⟨fun pins s σ H Dn I q => h.run pins s σ H Dn I (k Dn σ H q)⟩
theorem _root_.L2.PG.imp {X : Cx} {e : Expr} {t t' : TG} (h : PG X e t) (k : ∀ v σ H Q, t' v σ H Q → t v σ H Q) : PG X e t' := ⟨fun pins s σ H v u Q I r q => h.run pins s σ H v u Q I r (k v σ H Q q)⟩
theorem _root_.L2.PGs.imp {X : Cx} {e : List Expr} {t t' : TGs} (h : PGs X e t) (k : ∀ v σ H Q, t' v σ H Q → t v σ H Q) : PGs X e t' := ⟨fun pins s σ H v u Q I r q => h.run pins s σ H v u Q I r (k v σ H Q q)⟩
theorem _root_.L2.PI.imp {X : Cx} {tg e : Expr} {t t' : TI} (h : PI X tg e t) (k : ∀ σ H R, t' σ H R → t σ H R) : PI X tg e t' := ⟨fun pins s σ H R I q => h.run pins s σ H R I (k σ H R q)⟩
theorem _root_.L2.PTs.imp {X : Cx} {e : List Expr} {t t' : TT} (h : PTs X e t) (k : ∀ σ H Q, t' σ H Q → t σ H Q) : PTs X e t' := ⟨fun pins s σ H Q I q => h.run pins s σ H Q I (k σ H Q q)⟩

abbrev DE (X : Cx) (c : Cf) (e : Expr) (m : ME) : Prop := PE X e (rdE c m)
abbrev DT (X : Cx) (c : Cf) (e : Expr) (m : MT) : Prop := PT X e (rdT c m)
abbrev DA (X : Cx) (c : Cf) (e : List Expr) (m : MA) : Prop := PA X e (rdA c m)
abbrev DL (X : Cx) (c : Cf) (e : Expr) (m : MA) : Prop := PE X e (rdL c m)
abbrev DS (X : Cx) (c : Cf) (e : Stmt) (m : MS) : Prop := PS X e (rdS c m)
abbrev DB (X : Cx) (c : Cf) (e : List Stmt) (m : MS) : Prop := PSs X e (rdS c m)
end Mi

set_option Elab.async false
set_option linter.all false
set_option maxRecDepth 100000
set_option maxHeartbeats 2000000
/-! Mi1: expressions. -/
namespace Mi
open PySem PySem.Spec PyProof.Rows L2
variable [TB : Tabl]

section
variable {W : Wo} {p : Addr} {F H : Hp}
theorem Rep.int_ {v : V} {i : Int} (h : Rep W p F v (.int i)) : v = .int i := by cases h; rfl
theorem Rep.bl_ {v : V} {i : Bool} (h : Rep W p F v (.bl i)) : v = .bl i := by cases h; rfl
theorem Rep.str_ {v : V} {i : Str} (h : Rep W p F v (.str i)) : v = .str i := by cases h; rfl
theorem Rep.non_ {v : V} (h : Rep W p F v .non) : v = .non := by cases h; rfl
theorem Rep.ty_ {v : V} {n : String} (h : Rep W p F v (.ty n)) : v = .ty n := by cases h; rfl
theorem Rep.tup_ {v : V} {ds : List D} (h : Rep W p F v (.tup ds)) : ∃ a vs, v = .ref a ∧ SqT W.K F a vs ∧ Reps W p F vs ds := by
  cases h with
  | tup h l r => exact ⟨_, _, rfl, h, l, r⟩
theorem Rep.lst_ {v : V} {ds : List D} (h : Rep W p F v (.lst ds)) : ∃ a vs, v = .ref a ∧ F a = some (.lst vs) ∧ Reps W p F vs ds := by
  cases h with
  | lst h l r => exact ⟨_, _, rfl, h, l, r⟩
theorem Rep.obj_ {v : V} {c : Str} {ks : List Str} {ds : List D} (h : Rep W p F v (.obj c ks ds)) : ∃ a dx vs, v = .ref a ∧ F a = some (.ins (W.cl c) dx (ks.zip vs)) ∧ ks.length = vs.length ∧ Reps W p F vs ds := by
  cases h with
  | obj hc h lk l r => exact ⟨_, _, _, rfl, h, lk, l, r⟩
theorem Rep.objc {v : V} {c : Str} {ks : List Str} {ds : List D} (h : Rep W p F v (.obj c ks ds)) : c ∈ W.cs := by
  cases h with
  | obj hc h lk l r => exact hc
theorem Rep.cls_ {v : V} {c : Str} (h : Rep W p F v (.cls c)) : v = .ref (W.cl c) ∧ c ∈ W.cs := by
  cases h with
  | cls _ hc => exact ⟨rfl, hc⟩
theorem Rep.scr_ {v : V} {ns : List Int} (h : Rep W p F v (.scr ns)) : ∃ a, v = .ref a ∧ SqL W.K F a (ns.map V.int) := by
  cases h with
  | scr h => exact ⟨_, rfl, h⟩
theorem Rep.mkT {a : Addr} {vs : List V} {ds : List D} (h : F a = some (.tup vs)) (r : Reps W p F vs ds) : Rep W p F (.ref a) (.tup ds) := .tup (SqT.of h) r.1 r.2
theorem Rep.mkL {a : Addr} {vs : List V} {ds : List D} (h : F a = some (.lst vs)) (r : Reps W p F vs ds) : Rep W p F (.ref a) (.lst ds) := .lst h r.1 r.2
end

/-! ### names, constants -/
def vSh (ρ : Env) (i : Nat) : Option D := match ρ[i]? with
  | some (.sh d) => some d
  | _ => none
def mVar (i : Nat) : ME := fun ρ => lft (vSh ρ i)
def mC (d : D) : ME := fun _ => M.pure d
section
variable {X : Cx} {c : Cf} {pos : Pos}
theorem lft_some {α : Type} {o : Option α} {u : PuS} {p : Addr} {F H : Hp} {Φ : α → PuS → Hp → Hp → Prop} (h : After p F H (lft o u) Φ) : ∃ a, o = some a ∧ After p F H (some (a, u)) Φ := by
  cases o with
  | none => exact absurd h (by intro z; exact z)
  | some a => exact ⟨a, rfl, h⟩
theorem Sta.var {u : PuS} {F H : Hp} {σ : L2.St} {ρ : Env} {i : Nat} {d : D} (S : Sta c u F H σ ρ) (e : vSh ρ i = some d) : ∃ v, σ[i]? = some (some v) ∧ Rep c.W c.p F v d := by
  unfold vSh at e
  cases q : ρ[i]? with
  | none => rw [q] at e; cases e
  | some s =>
    rw [q] at e
    cases s with
    | sh d' => cases e; exact S.env.at_ i _ q
    | _ => cases e
theorem dVar (i : Nat) {x : Str} (hN : X.N[i]? = some x := by rfl) (hv : Vis X.env.scope x := by first | exact Or.inl rfl | exact Or.inr (Or.inl rfl) | exact Or.inr (Or.inr rfl)) (hd : (x == ("__debug__" : Str)) = false := by decide)
    (hcd : (x == ("__classdict__" : Str)) = false := by decide) : DE X c (.Name x pos) (mVar i) :=
  (pe_var hN hv hd hcd).imp fun σ H Q ⟨F, u, ρ, S, h⟩ => by
    obtain ⟨d, e, h⟩ := lft_some h
    obtain ⟨v, e1, r⟩ := S.var e
    exact ⟨v, e1, After.now S.gd h v r⟩
theorem dC_of {e : Expr} {v : V} {d : D} (h : PE X e (tC v)) (r : ∀ F, Rep c.W c.p F v d) : DE X c e (mC d) := h.imp fun σ H Q ⟨F, u, ρ, S, q⟩ => After.now S.gd q v (r F)
theorem dInt {i : Int} {j} : DE X c (.Constant (.int i) j pos) (mC (.int i)) := dC_of pe_int fun _ => .int i
theorem dBl {b : Bool} {j} : DE X c (.Constant (.bool b) j pos) (mC (.bl b)) := dC_of pe_bl fun _ => .bl b
theorem dNon {j} : DE X c (.Constant .none j pos) (mC .non) := dC_of pe_non fun _ => .non
theorem dStr {x : Str} {j} : DE X c (.Constant (.str x) j pos) (mC (.str x)) := dC_of pe_str fun _ => .str x
/-- a module's constant -/
theorem dGI {x : Str} {i : Int} {t : Tok} (hg : Gl X x) (hm : X.mg x = some (.int i t)) (hd : (x == ("__debug__" : Str)) = false := by decide) : DE X c (.Name x pos) (mC (.int i)) := dC_of (pe_glob (v := .int i) hg hm ⟨t, rfl⟩ hd) fun _ => .int i
theorem dGC {x k : Str} (hc : k ∈ c.W.cs) (hg : Gl X x) (hm : X.mg x = some (.ref (c.W.cl k))) (hd : (x == ("__debug__" : Str)) = false := by decide) : DE X c (.Name x pos) (mC (.cls k)) := dC_of (pe_glob (v := .ref (c.W.cl k)) hg hm rfl hd) fun _ => .cls k hc
theorem dTy {x : Str} {n : String} (hg : Gl X x) (hm : X.mg x = none) (hv : bootBuiltins x = some (.type n)) (hn : x ≠ "__name__" := by decide) (hd : (x == ("__debug__" : Str)) = false := by decide) : DE X c (.Name x pos) (mC (.ty n)) :=
  dC_of (pe_bltn (v := .ty n) hg hm hv rfl hn hd) fun _ => .ty n
end

/-! ### operators -/
/-- a mirror of an operator on values -/
def OpM (W : Wo) (r : R2) (f : D → D → Option D) : Prop := ∀ (p : Addr) (F H : Hp) (u : PuS) (x y : V) (a b : D) (Q : VK), Gd p u F H → Rep W p F x a → Rep W p F y b →
  After p F H (lft (f a b) u) (fun d _ F' H' => ∀ v, Rep W p F' v d → Q v H') → r x y H Q
def UnM (W : Wo) (r : V → Hp → VK → Prop) (f : D → Option D) : Prop := ∀ (p : Addr) (F H : Hp) (u : PuS) (x : V) (a : D) (Q : VK), Gd p u F H → Rep W p F x a →
  After p F H (lft (f a) u) (fun d _ F' H' => ∀ v, Rep W p F' v d → Q v H') → r x H Q
def CallM (W : Wo) (r : List V → Hp → VK → Prop) (f : List D → Option D) : Prop := ∀ (p : Addr) (F H : Hp) (u : PuS) (xs : List V) (as : List D) (Q : VK), Gd p u F H → Reps W p F xs as →
  After p F H (lft (f as) u) (fun d _ F' H' => ∀ v, Rep W p F' v d → Q v H') → r xs H Q
def mBin (f : D → D → Option D) (ma mb : ME) : ME := fun ρ => M.bind (ma ρ) fun x => M.bind (mb ρ) fun y => lft (f x y)
def mUn (f : D → Option D) (ma : ME) : ME := fun ρ => M.bind (ma ρ) fun x => lft (f x)
def mCB (f : List D → Option D) (ms : MA) : ME := fun ρ => M.bind (ms ρ) fun xs => lft (f xs)
def mNil : MA := fun _ => M.pure []
def mCons (m : ME) (ms : MA) : MA := fun ρ => M.bind (m ρ) fun x => M.bind (ms ρ) fun xs => M.pure (x :: xs)
section
variable {X : Cx} {c : Cf} {pos : Pos} {a b e : Expr} {es : List Expr} {ma mb m : ME} {ms : MA} {r : R2}
theorem rd2 {f : D → D → Option D} (hm : OpM c.W r f) : ∀ σ H Q, rdE c (mBin f ma mb) σ H Q → tOp r (rdE c ma) (rdE c mb) σ H Q := fun σ H Q ⟨F, u, ρ, S, h⟩ =>
  ⟨F, u, ρ, S, (After.split h).imp fun x u1 F1 H1 _ s1 g1 h1 v rv => ⟨F1, u1, ρ, S.step s1 g1, (After.split h1).imp fun y u2 F2 H2 _ s2 g2 h2 w rw => hm c.p F2 H2 u2 v w x y Q g2 (rv.mono s2.ef) rw h2⟩⟩
theorem dBin {op : Operator} {f : D → D → Option D} (ho : OpR X (binaryOp op) r) (hm : OpM c.W r f) (ha : DE X c a ma) (hb : DE X c b mb) : DE X c (.BinOp a op b pos) (mBin f ma mb) := (pe_op ho ha hb).imp (rd2 hm)
theorem dCmp {op : CmpOp} {f : D → D → Option D} (ho : OpR X (compareOp op) r) (hm : OpM c.W r f) (ha : DE X c a ma) (hb : DE X c b mb) (hk : behindInMarks op b = false) : DE X c (.Compare a [op] [b] pos) (mBin f ma mb) := (pe_cmpR ho ha hb hk).imp (rd2 hm)
theorem dIx {f : D → D → Option D} (ho : IxR X r) (hm : OpM c.W r f) (ha : DE X c a ma) (hb : DE X c b mb) (hs : PlainIx b := by exact fun _ _ => rfl) : DE X c (.Subscript a b pos) (mBin f ma mb) := (pe_ix ho ha hb hs).imp (rd2 hm)
theorem dUn {op : UnaryOp} {ru : V → Hp → VK → Prop} {f : D → Option D} (ho : UnR X (unaryOp op) ru) (hm : UnM c.W ru f) (ha : DE X c a ma) : DE X c (.UnaryOp op a pos) (mUn f ma) :=
  (pe_un ho ha).imp fun σ H Q ⟨F, u, ρ, S, h⟩ => ⟨F, u, ρ, S, (After.split h).imp fun x u1 F1 H1 _ s1 g1 h1 v rv => hm c.p F1 H1 u1 v x Q g1 rv h1⟩
theorem dNil : DA X c [] mNil := pa_nil.imp fun σ H Q ⟨F, u, ρ, S, h⟩ => After.now S.gd h [] Reps.nil
theorem dCons (ha : DE X c e m) (hr : DA X c es ms) (hs : starEach (e :: es) X.env = (false, eval e X.env) :: starEach es X.env := by rfl) : DA X c (e :: es) (mCons m ms) :=
  (pa_cons ha hr hs).imp fun σ H Q ⟨F, u, ρ, S, h⟩ => ⟨F, u, ρ, S, (After.split h).imp fun x u1 F1 H1 _ s1 g1 h1 v rv => ⟨F1, u1, ρ, S.step s1 g1, (After.split h1).imp fun xs u2 F2 H2 _ s2 g2 h2 vs rvs =>
    After.now g2 h2 (v :: vs) (Reps.cons (rv.mono s2.ef) rvs)⟩⟩
theorem rdCB {rc : List V → Hp → VK → Prop} {f : List D → Option D} (hm : CallM c.W rc f) : ∀ σ H Q, rdE c (mCB f ms) σ H Q → tCB rc (rdA c ms) σ H Q := fun σ H Q ⟨F, u, ρ, S, h⟩ =>
  ⟨F, u, ρ, S, (After.split h).imp fun xs u1 F1 H1 _ s1 g1 h1 vs rvs => hm c.p F1 H1 u1 vs xs Q g1 rvs h1⟩
theorem dCallB {rc : List V → Hp → VK → Prop} {f : List D → Option D} {id : String} {x : Str} {p : Pos} (hm : CallM c.W rc f) (hc : CallR X (.builtin id) rc) (hg : Gl X x) (hmg : X.mg x = none) (hv : bootBuiltins x = some (.builtin id)) (ha : DA X c (e :: es) ms)
    (hn : x ≠ "__name__" := by decide) (hdb : (x == ("__debug__" : Str)) = false := by decide)
    (he : starEach (e :: es) X.env = (false, eval e X.env) :: starEach es X.env := by rfl) (hpl : (backTo pos (starEach es X.env)).any (·.1) = false := by rfl) : DE X c (.Call (.Name x p) (e :: es) [] pos) (mCB f ms) :=
  (pe_callB hc hg hmg hv ha hn hdb he hpl).imp (rdCB hm)
theorem dCallT {rc : List V → Hp → VK → Prop} {f : List D → Option D} {id : String} {x : Str} {p : Pos} (hm : CallM c.W rc f) (hc : CallR X (.type id) rc) (hg : Gl X x) (hmg : X.mg x = none) (hv : bootBuiltins x = some (.type id)) (ha : DA X c (e :: es) ms)
    (hn : x ≠ "__name__" := by decide) (hdb : (x == ("__debug__" : Str)) = false := by decide)
    (he : starEach (e :: es) X.env = (false, eval e X.env) :: starEach es X.env := by rfl) (hpl : (backTo pos (starEach es X.env)).any (·.1) = false := by rfl) : DE X c (.Call (.Name x p) (e :: es) [] pos) (mCB f ms) :=
  (pe_callTy hc hg hmg hv ha hn hdb he hpl).imp (rdCB hm)
end

/-! ### displays -/
def mTup (ms : MA) : ME := fun ρ => M.bind (ms ρ) fun xs => lft (if xs.length ≤ 100000 then some (.tup xs) else none)
def mLstO (ms : MA) : MA := fun ρ => M.bind (ms ρ) fun xs => lft (if xs.length ≤ 100000 then some xs else none)
theorem sz5 {n : Nat} (h : n ≤ 100000) : n ≤ sizeLine := Nat.le_trans h (by decide)
theorem sz5l {n : Nat} (h : n ≤ 100000) : n < sizeLine := Nat.lt_of_le_of_lt h (by decide)
theorem lft_if {α : Type} {b : Prop} [Decidable b] {a : α} {u : PuS} {p : Addr} {F H : Hp} {Φ : α → PuS → Hp → Hp → Prop} (h : After p F H (lft (if b then some a else none) u) Φ) : b ∧ After p F H (some (a, u)) Φ := by
  obtain ⟨a', e, h⟩ := lft_some h
  by_cases hb : b
  · rw [if_pos hb] at e; cases e; exact ⟨hb, h⟩
  · rw [if_neg hb] at e; cases e
section
variable {X : Cx} {c : Cf} {pos : Pos} {es : List Expr} {ms : MA}
theorem dTup {x1} (h : DA X c es ms) : DE X c (.Tuple es x1 pos) (mTup ms) :=
  (pe_tup h).imp fun σ H Q ⟨F, u, ρ, S, h⟩ => ⟨F, u, ρ, S, (After.split h).imp fun xs u1 F1 H1 _ s1 g1 h1 vs rvs => by
    obtain ⟨hl, h2⟩ := lft_if h1
    refine ⟨sz5 (by rw [rvs.1]; exact hl), fun q hq => ?_⟩
    exact h2 _ _ (Stp.new g1 hq) (g1.new hq) _ (Rep.mkT upd_same (rvs.mono (Stp.new g1 hq).ef))⟩
theorem Stp.back {p q : Addr} {F H F' H' : Hp} (s : Stp p F H F' H') (hp : H' p ≠ none) (h : H' q = none) : H q = none := by
  cases e : H q with
  | none => rfl
  | some o =>
    by_cases hq : q = p
    · subst hq; exact absurd h hp
    · exact absurd h (s.kept hq (by rw [e]; simp))
theorem dLstO (h : DA X c es ms) : DL X c (.List es pos) (mLstO ms) :=
  (pe_lst h).imp fun σ H Q ⟨F, u, ρ, S, h⟩ => ⟨F, u, ρ, S, (After.split h).imp fun xs u1 F1 H1 _ s1 g1 h1 vs rvs => by
    obtain ⟨hl, h2⟩ := lft_if h1
    refine ⟨sz5 (by rw [rvs.1]; exact hl), fun q hq => ?_⟩
    exact h2 _ _ (Stp.own hq) (g1.own hq) q vs (g1.fresh hq) (s1.back g1.ne hq) upd_same rvs⟩
end

/-! ### tests -/
def mB (m : ME) : MT := fun ρ => M.bind (m ρ) fun d => match d with
  | .bl b => M.pure b
  | _ => lft none
def mAnd (t v : MT) : MT := fun ρ => M.bind (t ρ) fun b => if b = true then v ρ else M.pure false
def mOr (t v : MT) : MT := fun ρ => M.bind (t ρ) fun b => if b = true then M.pure true else v ρ
def mNot (t : MT) : MT := fun ρ => M.bind (t ρ) fun b => M.pure (!b)
def mIf (t : MT) (ma mb : ME) : ME := fun ρ => M.bind (t ρ) fun b => if b = true then ma ρ else mb ρ
def mAndV (ma mb : ME) : ME := fun ρ => M.bind (ma ρ) fun d => match d with
  | .bl b => if b = true then mb ρ else M.pure (.bl false)
  | _ => lft none
def mOrV (ma mb : ME) : ME := fun ρ => M.bind (ma ρ) fun d => match d with
  | .bl b => if b = true then M.pure (.bl true) else mb ρ
  | _ => lft none
def mNotV (ma : ME) : ME := fun ρ => M.bind (ma ρ) fun d => match d with
  | .bl b => M.pure (.bl (!b))
  | _ => lft none
section
variable {X : Cx} {c : Cf} {pos : Pos} {a b e : Expr} {rest : List Expr} {ma mb m : ME} {t v : MT} {r : R2}
theorem rdB : ∀ σ H Q, rdT c (mB m) σ H Q → tB (rdE c m) σ H Q := fun σ H Q ⟨F, u, ρ, S, h⟩ =>
  ⟨F, u, ρ, S, (After.split h).imp fun d u1 F1 H1 _ s1 g1 h1 w rw => by
    cases d with
    | bl k =>
      have h2 : After c.p F1 H1 (some (k, u1)) (fun b _ _ H' => Q b H') := h1
      exact ⟨k, rw.bl_, After.now g1 h2⟩
    | _ => exact False.elim h1⟩
theorem dTst (h : DE X c e m) (he : ∀ whole, isTrue e X.env whole = (do let v ← whole; standAt e.pos; holding [v] (truthy v)) := by intro _; rfl) : DT X c e (mB m) := (pt_val h he).imp rdB
theorem dTcmp {op : CmpOp} {f : D → D → Option D} (ho : OpR X (compareOp op) r) (hm : OpM c.W r f) (ha : DE X c a ma) (hb : DE X c b mb) (hk : behindInMarks op b = false) : DT X c (.Compare a [op] [b] pos) (mB (mBin f ma mb)) :=
  (pt_cmpR ho ha hb hk).imp fun σ H Q h => by
    obtain ⟨F, u, ρ, S, h⟩ := h
    refine rd2 hm σ H _ ⟨F, u, ρ, S, (After.split h).imp fun d u1 F1 H1 _ s1 g1 h1 w rw => ?_⟩
    cases d with
    | bl k =>
      have h2 : After c.p F1 H1 (some (k, u1)) (fun b _ _ H' => Q b H') := h1
      exact ⟨k, rw.bl_, After.now g1 h2⟩
    | _ => exact False.elim h1
theorem dNotT (h : DT X c e t) : DT X c (.UnaryOp .Not e pos) (mNot t) :=
  (pt_not h).imp fun σ H Q ⟨F, u, ρ, S, h⟩ => ⟨F, u, ρ, S, (After.split h).imp fun b u1 F1 H1 _ s1 g1 h1 => After.now g1 h1⟩
theorem dAnd1 (h : DT X c e t) : PW X (.BoolOp .And [e] pos) (rdT c t) := pw_and1 h
theorem dOr1 (h : DT X c e t) : PW X (.BoolOp .Or [e] pos) (rdT c t) := pw_or1 h
theorem dAndT (h : DT X c a t) (hb : PW X (.BoolOp .And (b :: rest) pos) (rdT c v)) : PW X (.BoolOp .And (a :: b :: rest) pos) (rdT c (mAnd t v)) :=
  (pw_and h hb).imp fun σ H Q ⟨F, u, ρ, S, h⟩ => ⟨F, u, ρ, S, (After.split h).imp fun b u1 F1 H1 _ s1 g1 h1 => by
    cases b with
    | true => exact ⟨F1, u1, ρ, S.step s1 g1, h1⟩
    | false =>
      have h2 : After c.p F1 H1 (some (false, u1)) (fun b _ _ H' => Q b H') := h1
      exact After.now g1 h2⟩
theorem dOrT (h : DT X c a t) (hb : PW X (.BoolOp .Or (b :: rest) pos) (rdT c v)) : PW X (.BoolOp .Or (a :: b :: rest) pos) (rdT c (mOr t v)) :=
  (pw_or h hb).imp fun σ H Q ⟨F, u, ρ, S, h⟩ => ⟨F, u, ρ, S, (After.split h).imp fun b u1 F1 H1 _ s1 g1 h1 => by
    cases b with
    | false => exact ⟨F1, u1, ρ, S.step s1 g1, h1⟩
    | true =>
      have h2 : After c.p F1 H1 (some (true, u1)) (fun b _ _ H' => Q b H') := h1
      exact After.now g1 h2⟩
theorem dIf {k : Expr} (hk : DT X c k t) (ha : DE X c a ma) (hb : DE X c b mb) : DE X c (.IfExp k a b pos) (mIf t ma mb) :=
  (pe_ifExp hk ha hb).imp fun σ H Q ⟨F, u, ρ, S, h⟩ => ⟨F, u, ρ, S, (After.split h).imp fun b u1 F1 H1 _ s1 g1 h1 => by
    cases b with
    | true => exact ⟨F1, u1, ρ, S.step s1 g1, h1⟩
    | false => exact ⟨F1, u1, ρ, S.step s1 g1, h1⟩⟩
theorem dOneV {op} (h : DE X c e m) : DE X c (.BoolOp op [e] pos) m := pe_one h
theorem dAndV (ha : DE X c a ma) (hb : DE X c (.BoolOp .And (b :: rest) pos) mb) : DE X c (.BoolOp .And (a :: b :: rest) pos) (mAndV ma mb) :=
  (pe_and ha hb).imp fun σ H Q ⟨F, u, ρ, S, h⟩ => ⟨F, u, ρ, S, (After.split h).imp fun d u1 F1 H1 _ s1 g1 h1 w rw => by
    cases d with
    | bl k =>
      refine ⟨k, rw.bl_, ?_⟩
      cases k with
      | true => exact ⟨F1, u1, ρ, S.step s1 g1, h1⟩
      | false =>
        have h2 : After c.p F1 H1 (some (D.bl false, u1)) (fun d _ F' H' => ∀ v, Rep c.W c.p F' v d → Q v H') := h1
        exact After.now g1 h2 _ (.bl false)
    | _ => exact False.elim h1⟩
theorem dOrV (ha : DE X c a ma) (hb : DE X c (.BoolOp .Or (b :: rest) pos) mb) : DE X c (.BoolOp .Or (a :: b :: rest) pos) (mOrV ma mb) :=
  (pe_or ha hb).imp fun σ H Q ⟨F, u, ρ, S, h⟩ => ⟨F, u, ρ, S, (After.split h).imp fun d u1 F1 H1 _ s1 g1 h1 w rw => by
    cases d with
    | bl k =>
      refine ⟨k, rw.bl_, ?_⟩
      cases k with
      | false => exact ⟨F1, u1, ρ, S.step s1 g1, h1⟩
      | true =>
        have h2 : After c.p F1 H1 (some (D.bl true, u1)) (fun d _ F' H' => ∀ v, Rep c.W c.p F' v d → Q v H') := h1
        exact After.now g1 h2 _ (.bl true)
    | _ => exact False.elim h1⟩
theorem dNotV (ha : DE X c a ma) : DE X c (.UnaryOp .Not a pos) (mNotV ma) :=
  (pe_not ha).imp fun σ H Q ⟨F, u, ρ, S, h⟩ => ⟨F, u, ρ, S, (After.split h).imp fun d u1 F1 H1 _ s1 g1 h1 w rw => by
    cases d with
    | bl k =>
      have h2 : After c.p F1 H1 (some (D.bl (!k), u1)) (fun d _ F' H' => ∀ v, Rep c.W c.p F' v d → Q v H') := h1
      exact ⟨k, rw.bl_, After.now g1 h2 _ (.bl (!k))⟩
    | _ => exact False.elim h1⟩
end
end Mi

set_option Elab.async false
set_option linter.all false
set_option maxRecDepth 100000
set_option maxHeartbeats 2000000
/-! Mi2: statements, loops, comprehensions. -/
namespace Mi
open PySem PySem.Spec PyProof.Rows L2
variable [TB : Tabl]

/-! ### slots are set -/
section
variable {c : Cf} {u : PuS} {F H : Hp} {σ : L2.St} {ρ : Env}
theorem set_get {α : Type} {l : List α} {i j : Nat} {a b : α} (h : (l.set i a)[j]? = some b) : (i = j ∧ b = a ∧ i < l.length) ∨ (i ≠ j ∧ l[j]? = some b) := by
  by_cases e : i = j
  · subst e
    rw [List.getElem?_set] at h
    simp only [if_true] at h
    split at h
    · rename_i hl
      cases h
      exact .inl ⟨rfl, rfl, hl⟩
    · cases h
  · rw [List.getElem?_set_ne e] at h
    exact .inr ⟨e, h⟩
theorem Sta.set {i : Nat} {v : V} {d : D} (S : Sta c u F H σ ρ) (r : Rep c.W c.p F v d) : Sta c u F H (σ.set i (some v)) (ρ.set i (.sh d)) := by
  refine ⟨S.ent, S.gd, by simpa using S.env.len, fun j s e => ?_, fun j k s t h e1 e2 o1 o2 => ?_⟩
  · rcases set_get e with ⟨rfl, rfl, hl⟩ | ⟨ne, e⟩
    · exact ⟨v, List.getElem?_set_self (by rw [S.env.len]; exact hl), r⟩
    · rw [List.getElem?_set_ne ne]; exact S.env.at_ j s e
  · rcases set_get e1 with ⟨rfl, rfl, _⟩ | ⟨n1, e1⟩
    · cases o1
    · rcases set_get e2 with ⟨rfl, rfl, _⟩ | ⟨n2, e2⟩
      · cases o2
      · rw [List.getElem?_set_ne n1, List.getElem?_set_ne n2]; exact S.env.ne j k s t h e1 e2 o1 o2
theorem SdOk.ref {x : Option (Option V)} {s : Sd} (h : SdOk c F H x s) (o : s.own = true) : ∃ q, x = some (some (.ref q)) ∧ H q ≠ none ∧ F q = none := by
  cases s with
  | un => cases o
  | sh d => cases o
  | ow ds => obtain ⟨q, vs, e, hq, hf, _⟩ := h; exact ⟨q, e, by rw [hq]; simp, hf⟩
  | oi k ks ds => obtain ⟨dx, vs, e, hq, hf, _⟩ := h; exact ⟨_, e, by rw [hq]; simp, hf⟩
  | od ks ds => obtain ⟨q, o, xs, vs, e, hq, hf, _⟩ := h; exact ⟨_, e, by rw [hq]; simp, hf⟩
/-- a fresh list at q is owned by the slot i -/
theorem Sta.setO {H1 : Hp} {i : Nat} {q : Addr} {vs : List V} {ds : List D} {u1 : PuS} {F1 : Hp} (S : Sta c u F H σ ρ) (s : Stp c.p F H F1 H1) (g : Gd c.p u1 F1 H1) (hF : F1 q = none) (hn : H q = none) (h1 : H1 q = some (.lst vs)) (r : Reps c.W c.p F1 vs ds) :
    Sta c u1 F1 H1 (σ.set i (some (.ref q))) (ρ.set i (.ow ds)) := by
  have S1 := S.step s g
  have hp : q ≠ c.p := fun e => S.gd.ne (e ▸ hn)
  have h0 : c.H0 q = none := S.ent.back S.gd.ne hn
  have nq : ∀ {j : Nat} {t : Sd}, ρ[j]? = some t → t.own = true → σ[j]? ≠ some (some (.ref q)) := fun {j t} e o z => by
    obtain ⟨q', e', hq', _⟩ := (S.env.at_ j t e).ref o
    rw [z] at e'
    injection e' with e'
    injection e' with e'
    injection e' with e'
    subst e'
    exact hq' hn
  refine ⟨S1.ent, S1.gd, by simpa using S.env.len, fun j t e => ?_, fun j k t t' h e1 e2 o1 o2 => ?_⟩
  · rcases set_get e with ⟨rfl, rfl, hl⟩ | ⟨ne, e⟩
    · exact ⟨q, vs, List.getElem?_set_self (by rw [S.env.len]; exact hl), h1, hF, hp, h0, r⟩
    · rw [List.getElem?_set_ne ne]; exact S1.env.at_ j t e
  · rcases set_get e1 with ⟨rfl, rfl, hl⟩ | ⟨n1, e1⟩
    · rcases set_get e2 with ⟨e, _, _⟩ | ⟨n2, e2⟩
      · exact absurd e h
      · rw [List.getElem?_set_self (by rw [S.env.len]; exact hl), List.getElem?_set_ne n2]; exact fun z => nq e2 o2 z.symm
    · rcases set_get e2 with ⟨rfl, rfl, hl⟩ | ⟨n2, e2⟩
      · rw [List.getElem?_set_self (by rw [S.env.len]; exact hl), List.getElem?_set_ne n1]; exact nq e1 o1
      · rw [List.getElem?_set_ne n1, List.getElem?_set_ne n2]; exact S.env.ne j k t t' h e1 e2 o1 o2
/-- the owned list of the slot i is changed -/
theorem Sta.put {i : Nat} {q : Addr} {vs : List V} {ds es : List D} (S : Sta c u F H σ ρ) (e : ρ[i]? = some (.ow ds)) (hq : σ[i]? = some (some (.ref q))) (r : Reps c.W c.p F vs es) :
    Sta c u F (upd H q (.lst vs)) σ (ρ.set i (.ow es)) := by
  obtain ⟨q', ws, e1, h1, hf, hp, h0, _⟩ := S.env.at_ i _ e
  rw [hq] at e1
  injection e1 with e1; injection e1 with e1; injection e1 with e1
  subst e1
  have qs : ∀ {j : Nat} {t : Sd} {a : Addr}, i ≠ j → ρ[j]? = some t → t.own = true → σ[j]? = some (some (.ref a)) → a ≠ q := fun {j t a} ne e2 o z h => by
    subst h
    exact S.env.ne i j _ t ne e e2 rfl o (hq.trans z.symm)
  refine ⟨⟨S.ent.ef, fun a o ha e n => ?_, fun a ps ha e => by
    obtain ⟨qs, e1⟩ := S.ent.et a ps ha e
    exact ⟨qs, by rw [upd_ne (fun z => by rw [z, h1] at e1; cases e1)]; exact e1⟩, S.ent.nw⟩, ⟨fun a o e => ?_, by rw [upd_ne (Ne.symm hp)]; exact S.gd.pu, S.gd.off, S.gd.nt, tabs_over h1 S.gd.tb, S.gd.hp⟩, by simpa using S.env.len, fun j t e2 => ?_, fun j k t t' h e1 e2 o1 o2 => ?_⟩
  · rw [upd_ne (fun z => by rw [z, h0] at e; cases e)]; exact S.ent.eh a o ha e n
  · rw [upd_ne (fun z => by rw [z, hf] at e; cases e)]; exact S.gd.ex a o e
  · rcases set_get e2 with ⟨rfl, rfl, hl⟩ | ⟨ne, e2⟩
    · exact ⟨q, vs, hq, upd_same, hf, hp, h0, r⟩
    · have k := S.env.at_ j t e2
      cases t with
      | un => trivial
      | sh d => exact k
      | ow ds' => obtain ⟨a, xs, z, ha, rest⟩ := k; exact ⟨a, xs, z, by rw [upd_ne (qs ne e2 rfl z)]; exact ha, rest⟩
      | oi kk ks ds' => obtain ⟨dx, xs, z, ha, rest⟩ := k; exact ⟨dx, xs, z, by rw [upd_ne (qs ne e2 rfl z)]; exact ha, rest⟩
      | od ks ds' => obtain ⟨a, ob, xs, ws, z, ha, rest⟩ := k; exact ⟨a, ob, xs, ws, z, by rw [upd_ne (qs ne e2 rfl z)]; exact ha, rest⟩
  · have back : ∀ {m : Nat} {y : Sd}, (ρ.set i (.ow es))[m]? = some y → y.own = true → ∃ y', ρ[m]? = some y' ∧ y'.own = true := fun {m y} z o => by
      rcases set_get z with ⟨rfl, rfl, _⟩ | ⟨_, z⟩
      · exact ⟨_, e, rfl⟩
      · exact ⟨y, z, o⟩
    obtain ⟨y1, z1, p1⟩ := back e1 o1
    obtain ⟨y2, z2, p2⟩ := back e2 o2
    exact S.env.ne j k y1 y2 h z1 z2 p1 p2
end

/-! ### blocks and small statements -/
def mNext : MS := fun ρ => M.pure (.nx ρ)
def mSeq (m n : MS) : MS := fun ρ => M.bind (m ρ) fun f => match f with
  | .nx ρ' => n ρ'
  | .rt d => M.pure (.rt d)
  | .rl d => M.pure (.rl d)
  | .bk ρ' => M.pure (.bk ρ')
  | .ct ρ' => M.pure (.ct ρ')
  | .ex ρ' k ks ds => M.pure (.ex ρ' k ks ds)
def mDrop (m : ME) : MS := fun ρ => M.bind (m ρ) fun _ => M.pure (.nx ρ)
def mRet (m : ME) : MS := fun ρ => M.bind (m ρ) fun d => M.pure (.rt d)
def mIfS (t : MT) (m n : MS) : MS := fun ρ => M.bind (t ρ) fun b => if b = true then m ρ else n ρ
def mBrk : MS := fun ρ => M.pure (.bk ρ)
def mSet (i : Nat) (m : ME) : MS := fun ρ => M.bind (m ρ) fun d => M.pure (.nx (ρ.set i (.sh d)))
def mSetO (i : Nat) (m : MA) : MS := fun ρ => M.bind (m ρ) fun ds => M.pure (.nx (ρ.set i (.ow ds)))
def mStuck : MS := fun _ => lft none
section
variable {X : Cx} {c : Cf} {pos : Pos} {st : Stmt} {rest : List Stmt} {e : Expr} {m n : MS} {me : ME} {ml : MA} {t : MT}
theorem flowO.split {F : Hp} {Dn : Ends} {u : PuS} {ρ : Env} (h : flowO c F Dn (mSeq m n ρ u)) : flowO c F { Dn with nx := rdS c n Dn } (m ρ u) := by
  unfold mSeq M.bind at h
  cases e : m ρ u with
  | none => rw [e] at h; exact h
  | some x =>
    obtain ⟨f, u1⟩ := x
    rw [e] at h
    cases f with
    | nx ρ1 =>
      intro σ' F' H' sm S'
      have h2 : flowO c F Dn (n ρ1 u1) := h
      refine ⟨F', u1, ρ1, S', ?_⟩
      cases e2 : n ρ1 u1 with
      | none => rw [e2] at h2; exact h2
      | some y =>
        obtain ⟨f2, u2⟩ := y
        rw [e2] at h2
        cases f2 with
        | nx ρ2 => exact fun σ2 F2 H2 s2 => h2 σ2 F2 H2 (sm.trans s2)
        | bk ρ2 => exact fun σ2 F2 H2 s2 => h2 σ2 F2 H2 (sm.trans s2)
        | ct ρ2 => exact fun σ2 F2 H2 s2 => h2 σ2 F2 H2 (sm.trans s2)
        | ex ρ2 k ks ds => exact fun σ2 F2 H2 cls od s2 => h2 σ2 F2 H2 cls od (sm.trans s2)
        | rt d => exact h2
        | rl d => exact h2
    | rt d => exact h
    | rl d => exact h
    | bk ρ1 => exact h
    | ct ρ1 => exact h
    | ex ρ1 k ks ds => exact h
theorem dBnil : DB X c [] mNext := pss_nil.imp fun Dn σ H ⟨F, u, ρ, S, h⟩ => h σ F H (Same.refl F) S
theorem dBcons (h1 : DS X c st m) (h2 : DB X c rest n) : DB X c (st :: rest) (mSeq m n) := (pss_cons h1 h2).imp fun Dn σ H ⟨F, u, ρ, S, h⟩ => ⟨F, u, ρ, S, h.split⟩
theorem dBone (h1 : DS X c st m) : DB X c [st] m := pss_one h1
theorem dBrk : DS X c (.Break pos) mBrk := ps_break.imp fun Dn σ H ⟨F, u, ρ, S, h⟩ => h σ F H (Same.refl F) S
theorem dNever : DS X c st mStuck := ps_never.imp fun Dn σ H ⟨F, u, ρ, S, h⟩ => h
/-- an expression's end, from a statement's -/
theorem flowO.after {α : Type} {F H : Hp} {Dn : Ends} {u : PuS} {ρ : Env} {σ : L2.St} {k : M α} {f : α → M Fl} (S : Sta c u F H σ ρ) (h : flowO c F Dn (M.bind k f u)) :
    After c.p F H (k u) fun a u1 F1 H1 => Sta c u1 F1 H1 σ ρ ∧ flowO c F1 Dn (f a u1) := by
  unfold M.bind at h
  cases e : k u with
  | none => rw [e] at h; exact h
  | some x =>
    obtain ⟨a, u1⟩ := x
    rw [e] at h
    intro F1 H1 s g
    refine ⟨S.step s g, ?_⟩
    have h2 : flowO c F Dn (f a u1) := h
    cases e2 : f a u1 with
    | none => rw [e2] at h2; exact h2
    | some y =>
      obtain ⟨f2, u2⟩ := y
      rw [e2] at h2
      cases f2 with
      | nx ρ2 => exact fun σ2 F2 H2 s2 => h2 σ2 F2 H2 (s.ef.trans s2)
      | bk ρ2 => exact fun σ2 F2 H2 s2 => h2 σ2 F2 H2 (s.ef.trans s2)
      | ct ρ2 => exact fun σ2 F2 H2 s2 => h2 σ2 F2 H2 (s.ef.trans s2)
      | ex ρ2 k ks ds => exact fun σ2 F2 H2 cls od s2 => h2 σ2 F2 H2 cls od (s.ef.trans s2)
      | rt d => exact h2
      | rl d => exact h2
theorem dExpr (he : DE X c e me) (hs : swapsWith e none pos.line X.env = pure false := by rfl) : DS X c (.Expr e pos) (mDrop me) :=
  (ps_expr he hs).imp fun Dn σ H ⟨F, u, ρ, S, h⟩ => ⟨F, u, ρ, S, (flowO.after S h).imp fun d u1 F1 H1 _ s1 g1 h1 v rv => h1.2 σ F1 H1 (Same.refl _) h1.1⟩
theorem dRet (he : DE X c e me) : DS X c (.Return (some e) pos) (mRet me) :=
  (ps_ret he).imp fun Dn σ H ⟨F, u, ρ, S, h⟩ => ⟨F, u, ρ, S, (flowO.after S h).imp fun d u1 F1 H1 _ s1 g1 h1 v rv => h1.2 v F1 H1 h1.1.ent g1 rv⟩
theorem dIfS {k : Expr} {a b : List Stmt} (hk : DT X c k t) (ha : DB X c a m) (hb : DB X c b n) : DS X c (.If k a b pos) (mIfS t m n) :=
  (ps_if hk ha hb).imp fun Dn σ H ⟨F, u, ρ, S, h⟩ => ⟨F, u, ρ, S, (flowO.after S h).imp fun b u1 F1 H1 _ s1 g1 h1 => by
    cases b with
    | true => exact ⟨F1, u1, ρ, h1.1, h1.2⟩
    | false => exact ⟨F1, u1, ρ, h1.1, h1.2⟩⟩
theorem dSet {i : Nat} {x : Str} {pos' : Pos} (hN : X.N.Nodup) (hi : X.N[i]? = some x) (hx : Loc X.env.scope x) (he : DE X c e me) (hs : swapsWith e (some (.Name x pos')) pos.line X.env = pure false := by rfl)
    (hf : X.fn x = true ∨ X.env.scope.names.lookup x = some .local := by first | exact .inl rfl | exact .inr rfl | assumption) : DS X c (.Assign [.Name x pos'] e pos) (mSet i me) :=
  (ps_set hN hi hx he hs hf).imp fun Dn σ H ⟨F, u, ρ, S, h⟩ => ⟨F, u, ρ, S, (flowO.after S h).imp fun d u1 F1 H1 _ s1 g1 h1 v rv => h1.2 _ F1 H1 (Same.refl _) (h1.1.set rv)⟩
theorem dSetO {i : Nat} {x : Str} {pos' : Pos} (hN : X.N.Nodup) (hi : X.N[i]? = some x) (hx : Loc X.env.scope x) (he : DL X c e ml) (hs : swapsWith e (some (.Name x pos')) pos.line X.env = pure false := by rfl)
    (hf : X.fn x = true ∨ X.env.scope.names.lookup x = some .local := by first | exact .inl rfl | exact .inr rfl | assumption) : DS X c (.Assign [.Name x pos'] e pos) (mSetO i ml) :=
  (ps_set hN hi hx he hs hf).imp fun Dn σ H ⟨F, u, ρ, S, h⟩ => ⟨F, u, ρ, S, (flowO.after S h).imp fun d u1 F1 H1 _ s1 g1 h1 q vs hF hn h3 r => h1.2 _ F1 H1 (Same.refl _) (S.setO s1 g1 hF hn h3 r)⟩
end

/-! ### targets -/
def mGn (i : Nat) : MG := fun d ρ => some (ρ.set i (.sh d))
def mGnil : List D → Env → Option Env := fun ds ρ => match ds with
  | [] => some ρ
  | _ => none
def mGcons (g : MG) (gs : List D → Env → Option Env) : List D → Env → Option Env := fun ds ρ => match ds with
  | d :: r => (g d ρ).bind fun ρ' => gs r ρ'
  | [] => none
def mGt (n : Nat) (gs : List D → Env → Option Env) : MG := fun d ρ => match d with
  | .tup ds => if ds.length = n then gs ds ρ else none
  | _ => none
def mAsg (m : ME) (g : MG) : MS := fun ρ => M.bind (m ρ) fun d => lft ((g d ρ).map Fl.nx)
abbrev DG (X : Cx) (c : Cf) (e : Expr) (is : List Nat) (g : MG) : Prop := PG X e (rdG c is g)
abbrev DGs (X : Cx) (c : Cf) (e : List Expr) (is : List Nat) (g : List D → Env → Option Env) : Prop := PGs X e (rdGs c is g)
section
variable {X : Cx} {c : Cf} {pos : Pos} {e : Expr} {es : List Expr} {g : MG} {gs : List D → Env → Option Env} {is js : List Nat}
theorem Agr.refl {σ : L2.St} : Agr is σ σ := ⟨rfl, fun _ _ => rfl⟩
theorem Agr.trans {σ σ1 σ2 : L2.St} (a : Agr is σ σ1) (b : Agr js σ1 σ2) : Agr (is ++ js) σ σ2 :=
  ⟨b.1.trans a.1, fun j hj => (b.2 j fun z => hj (List.mem_append_right _ z)).trans (a.2 j fun z => hj (List.mem_append_left _ z))⟩
theorem Agr.set {σ : L2.St} {i : Nat} {x : Option V} : Agr [i] σ (σ.set i x) := ⟨by simp, fun j hj => List.getElem?_set_ne (fun z => hj (by simp [z]))⟩
theorem dGn {i : Nat} {x : Str} (hN : X.N.Nodup) (hi : X.N[i]? = some x) (hx : Loc X.env.scope x) (hf : X.fn x = true ∨ X.env.scope.names.lookup x = some .local := by first | exact .inl rfl | exact .inr rfl | assumption) : DG X c (.Name x pos) [i] (mGn i) :=
  (pg_name hN hi hx hf).imp fun v σ H Q ⟨F, u, ρ, d, S, r, h⟩ => h _ (S.set r) Agr.set
theorem dGnil : DGs X c [] [] mGnil := pgs_nil.imp fun vs σ H Q ⟨F, u, ρ, ds, S, r, h⟩ => by
  cases ds with
  | nil => exact ⟨r.none, h σ S Agr.refl⟩
  | cons d ds => exact False.elim h
theorem dGcons (h1 : DG X c e is g) (h2 : DGs X c es js gs) (hs : (assignEach (e :: es) X.env).map (·.2) = assign e X.env :: (assignEach es X.env).map (·.2) := by rfl) : DGs X c (e :: es) (is ++ js) (mGcons g gs) :=
  (pgs_cons h1 h2 hs).imp fun vs σ H Q ⟨F, u, ρ, ds, S, r, h⟩ => by
    cases ds with
    | nil => exact False.elim h
    | cons d ds =>
      obtain ⟨v, vr, rfl, r1, r2⟩ := r.uncons
      refine ⟨v, vr, rfl, F, u, ρ, d, S, r1, ?_⟩
      have h' : match (g d ρ).bind fun ρ' => gs ds ρ' with
        | some ρ' => ∀ σ', Sta c u F H σ' ρ' → Agr (is ++ js) σ σ' → Q σ' H
        | none => False := h
      cases e1 : g d ρ with
      | none => rw [e1] at h'; exact h'
      | some ρ1 =>
        rw [e1] at h'
        intro σ1 S1 a1
        refine ⟨F, u, ρ1, ds, S1, r2, ?_⟩
        have h3 : match gs ds ρ1 with
          | some ρ' => ∀ σ', Sta c u F H σ' ρ' → Agr (is ++ js) σ σ' → Q σ' H
          | none => False := h'
        cases e2 : gs ds ρ1 with
        | none => rw [e2] at h3; exact h3
        | some ρ2 =>
          rw [e2] at h3
          exact fun σ2 S2 a2 => h3 σ2 S2 (a1.trans a2)
theorem dGt {k n : Nat} (hc : X.calm = true) (h : DGs X c es is gs) (hn : (assignEach es X.env).length = n := by rfl) (hst : (assignEach es X.env).findIdx? (·.1) = none := by rfl) (hK : X.K = c.W.K := by rfl) : DG X c (.Tuple es k pos) is (mGt n gs) :=
  (pg_tup hc h hn hst).imp fun v σ H Q ⟨F, u, ρ, d, S, r, h⟩ => by
    cases d with
    | tup ds =>
      obtain ⟨a, vs, rfl, ht, rs⟩ := r.tup_
      have h' : match (if ds.length = n then gs ds ρ else none) with
        | some ρ' => ∀ σ', Sta c u F H σ' ρ' → Agr is σ σ' → Q σ' H
        | none => False := h
      by_cases hl : ds.length = n
      · rw [if_pos hl] at h'
        exact ⟨a, vs, rfl, by rw [hK]; exact sq_t S.gd.ex ht, rs.1.trans hl, F, u, ρ, ds, S, rs, h'⟩
      · rw [if_neg hl] at h'; exact False.elim h'
    | _ => exact False.elim h
theorem dAsg {tg : Expr} {me : ME} (he : DE X c e me) (hg : DG X c tg is g) (hs : swapsWithSole [tg] e pos.line X.env = pure false := by rfl) (hw : swappedStores [tg] e X.env = pure none := by rfl)
    (h1 : (assignEach [tg] X.env).map (·.2) = [assign tg X.env] := by rfl) : DS X c (.Assign [tg] e pos) (mAsg me g) :=
  (ps_asg he hg hs hw h1).imp fun Dn σ H ⟨F, u, ρ, S, h⟩ => ⟨F, u, ρ, S, (flowO.after S h).imp fun d u1 F1 H1 _ s1 g1 h1 v rv => by
    refine ⟨F1, u1, ρ, d, h1.1, rv, ?_⟩
    have h2 := h1.2
    cases e1 : g d ρ with
    | none => rw [e1] at h2; exact h2
    | some ρ1 =>
      rw [e1] at h2
      exact fun σ' S' _ => h2 σ' F1 H1 (Same.refl _) S'⟩
end

/-! ### augmented assignment to a name -/
section
variable {X : Cx} {c : Cf} {pos : Pos} {e : Expr} {me : ME}
theorem flowO.lft {α : Type} {F H : Hp} {Dn : Ends} {u : PuS} {ρ : Env} {σ : L2.St} {o : Option α} {f : α → M Fl} (S : Sta c u F H σ ρ) (h : flowO c F Dn (M.bind (Mi.lft o) f u)) : ∃ a, o = some a ∧ flowO c F Dn (f a u) := by
  cases o with
  | none => exact False.elim h
  | some a => exact ⟨a, rfl, h⟩
end

/-! ### loops -/
def loopD (g : MG) (mb : MS) : List D → Env → M Fl
  | [], ρ => M.pure (.nx ρ)
  | d :: ds, ρ => M.bind (lft (g d ρ)) fun ρ1 => M.bind (mb ρ1) fun f => match f with
    | .nx ρ2 => loopD g mb ds ρ2
    | .ct ρ2 => loopD g mb ds ρ2
    | .bk ρ2 => M.pure (.nx ρ2)
    | .rt d => M.pure (.rt d)
    | .rl d => M.pure (.rl d)
    | .ex ρ2 k ks ds => M.pure (.ex ρ2 k ks ds)
def mFor (mi : MA) (g : MG) (mb : MS) : MS := fun ρ => M.bind (mi ρ) fun ds => loopD g mb ds ρ
abbrev DI (X : Cx) (c : Cf) (tg e : Expr) (m : MA) : Prop := PI X tg e (rdI c m)
section
variable {X : Cx} {c : Cf} {pos : Pos} {tg iter : Expr} {body : List Stmt} {mi : MA} {g : MG} {mb : MS} {is : List Nat}
theorem flowO.mono {F F' : Hp} {Dn : Ends} {r : Option (Fl × PuS)} (e : Same F F') (h : flowO c F Dn r) : flowO c F' Dn r := by
  cases r with
  | none => exact h
  | some x =>
    obtain ⟨f, u⟩ := x
    cases f with
    | nx ρ2 => exact fun σ2 F2 H2 s2 => h σ2 F2 H2 (e.trans s2)
    | bk ρ2 => exact fun σ2 F2 H2 s2 => h σ2 F2 H2 (e.trans s2)
    | ct ρ2 => exact fun σ2 F2 H2 s2 => h σ2 F2 H2 (e.trans s2)
    | ex ρ2 k ks ds => exact fun σ2 F2 H2 cls od s2 => h σ2 F2 H2 cls od (e.trans s2)
    | rt d => exact h
    | rl d => exact h
theorem dFor (hp : PassesOwn (model X.prog X.w) X.A X.env X.xe) (hc : X.calm = true) (hi : DI X c tg iter mi) (hg : DG X c tg is g) (hb : DB X c body mb) (hs : ∀ x, foldedSetIterable iter X.env x = pure x := by intro _; rfl) : DS X c (.For tg iter body [] pos) (mFor mi g mb) :=
  (ps_for hp hc hi hg hb hs).imp fun Dn σ H ⟨F, u, ρ, S, h⟩ => ⟨F, u, ρ, S, (flowO.after S h).imp fun ds u1 F1 H1 _ s1 g1 h1 J hJ => by
    obtain ⟨G, Y, w, hG, hY⟩ := hJ
    refine for_it w (fun i σ H => ∃ F' u' ρ', Same F1 F' ∧ Sta c u' F' H σ ρ' ∧ flowO c F' Dn (loopD g mb (ds.drop i) ρ' u')) ⟨F1, u1, ρ, Same.refl _, h1.1, by simpa using h1.2⟩
      (fun i σ H _ ⟨F', u', ρ', e, S', _⟩ => hG H (e.trans S'.gd.ex)) (fun i x σ H H' hi ⟨F', u', ρ', e, S', hf⟩ hy => ?_) (fun σ H ⟨F', u', ρ', e, S', hf⟩ => ?_)
    · have hd : ds[i]? = some ds[i] := List.getElem?_eq_getElem hi
      obtain ⟨F3, s3, g3, r3⟩ := hY i H x H' F' u' _ hd e S'.gd hy
      rw [List.drop_eq_getElem_cons hi] at hf
      unfold loopD at hf
      obtain ⟨ρ1, e1, hf⟩ := flowO.lft S' hf
      have S3 := S'.step s3 g3
      refine ⟨F3, u', ρ', ds[i], S3, r3, ?_⟩
      rw [e1]
      intro σ1 S1 _
      refine ⟨F3, u', ρ1, S1, ?_⟩
      have hf3 := hf.mono s3.ef
      unfold M.bind at hf3
      cases e2 : mb ρ1 u' with
      | none => rw [e2] at hf3; exact hf3
      | some y =>
        obtain ⟨f2, u2⟩ := y
        rw [e2] at hf3
        cases f2 with
        | nx ρ2 => exact fun σ2 F2 H2 sm S2 => ⟨F2, u2, ρ2, (e.trans s3.ef).trans sm, S2, flowO.mono sm hf3⟩
        | ct ρ2 => exact fun σ2 F2 H2 sm S2 => ⟨F2, u2, ρ2, (e.trans s3.ef).trans sm, S2, flowO.mono sm hf3⟩
        | bk ρ2 => exact fun σ2 F2 H2 sm S2 => hf3 σ2 F2 H2 sm S2
        | ex ρ2 k ks ds => exact fun σ2 F2 H2 cls od sm S2 => hf3 σ2 F2 H2 cls od sm S2
        | rt d => exact hf3
        | rl d => exact hf3
    · rw [List.drop_eq_nil_of_le (Nat.le_refl _)] at hf
      exact hf σ F' H (Same.refl _) S'⟩
end
end Mi

set_option Elab.async false
set_option linter.all false
set_option maxRecDepth 100000
set_option maxHeartbeats 2000000
/-! Mi3: what is walked, comprehensions, owned lists, calls, classes, a def's promise. -/
namespace Mi
open PySem PySem.Spec PyProof.Rows L2
variable [TB : Tabl]

/-! ### what is walked -/
section
variable {W : Wo} {p : Addr} {F : Hp}
theorem walkD_at {J : It} {G : Hp → Prop} {vs : List V} {ds : List D} (w : Walk J vs.length G (YAt vs)) (hG : ∀ H, Same F H → G H) (r : Reps W p F vs ds) : WalkD W p J F ds := by
  refine ⟨G, YAt vs, by rw [← r.1]; exact w, hG, fun i H x H' F2 u d hd e g hy => ?_⟩
  obtain ⟨rfl, hx⟩ := hy
  exact ⟨F2, Stp.refl, g, (r.2 i x d hx hd).mono e⟩
theorem walkD_list {a : Addr} {vs : List V} {ds : List D} (h : F a = some (.lst vs)) (r : Reps W p F vs ds) : WalkD W p (Itl W.K a) F ds := walkD_at walk_list (fun H e => SqL.of (e _ _ h)) r
theorem walkD_tup {a : Addr} {vs : List V} {ds : List D} (h : SqT W.K F a vs) (r : Reps W p F vs ds) : WalkD W p (Itt W.K a) F ds := walkD_at walk_tup (fun H e => sq_t e h) r
def rngD (lo : Int) (n : Nat) : List D := (List.range n).map fun i => .int (lo + (i : Nat))
theorem rngD_len (lo : Int) (n : Nat) : (rngD lo n).length = n := by simp [rngD]
theorem rngD_at {lo : Int} {n i : Nat} {d : D} (h : (rngD lo n)[i]? = some d) : d = .int (lo + (i : Nat)) := by
  unfold rngD at h
  rw [List.getElem?_map] at h
  by_cases hi : i < n
  · rw [List.getElem?_range hi] at h
    exact (Option.some.inj h).symm
  · rw [List.getElem?_eq_none (by simpa using hi)] at h; cases h
theorem walkD_range {lo : Int} {n : Nat} : WalkD W p (Itr lo n) F (rngD lo n) := by
  refine ⟨_, _, by rw [rngD_len]; exact walk_range, fun _ _ => trivial, fun i H x H' F2 u d hd e g hy => ?_⟩
  obtain ⟨rfl, rfl⟩ := hy
  exact ⟨F2, Stp.refl, g, by rw [rngD_at hd]; exact .int _⟩
/-- pairs of the items of two walks -/
theorem walkD_pair {J : It} {n : Nat} {G : Hp → Prop} {xs ys : Nat → Option V} {ds : List D} (hn : ds.length = n) (w : Walk J n G (YPair xs ys)) (hG : ∀ H, Same F H → G H)
    (r : ∀ i x y d, xs i = some x → ys i = some y → ds[i]? = some d → ∃ a b, d = .tup [a, b] ∧ Rep W p F x a ∧ Rep W p F y b) : WalkD W p J F ds := by
  refine ⟨G, _, by rw [hn]; exact w, hG, fun i H x H' F2 u d hd e g hy => ?_⟩
  obtain ⟨T, x1, y1, rfl, hT, rfl, hx, hy⟩ := hy
  obtain ⟨a, b, rfl, ra, rb⟩ := r i x1 y1 d hx hy hd
  have e2 := e.trans (Stp.new (o := .tup [x1, y1]) g hT).ef
  exact ⟨_, Stp.new g hT, g.new hT, Rep.mkT upd_same (Reps.cons (ra.mono e2) (Reps.cons (rb.mono e2) Reps.nil))⟩
end
def mIseq (m : ME) : MA := fun ρ => M.bind (m ρ) fun d => lft (match d with
  | .lst ds => some ds
  | _ => none)
def mItup (m : ME) : MA := fun ρ => M.bind (m ρ) fun d => lft (match d with
  | .tup ds => some ds
  | _ => none)
def rng1 : List D → Option (List D) := fun ds => match ds with
  | [.int j] => if -100000 ≤ j ∧ j ≤ 100000 then some (rngD 0 j.toNat) else none
  | _ => none
def rng2 : List D → Option (List D) := fun ds => match ds with
  | [.int i, .int j] => if (-100000 ≤ i ∧ i ≤ 100000) ∧ -100000 ≤ j ∧ j ≤ 100000 then some (rngD i (j - i).toNat) else none
  | _ => none
def mIof (f : List D → Option (List D)) (ms : MA) : MA := fun ρ => M.bind (ms ρ) fun ds => lft (f ds)
def zipD : List D → List D → List D := fun xs ys => (xs.zip ys).map fun q => .tup [q.1, q.2]
def enumD (xs : List D) : List D := xs.mapIdx fun i d => .tup [.int (i : Nat), d]
def enum1 : List D → Option (List D) := fun ds => match ds with
  | [.lst xs] => some (enumD xs)
  | _ => none
theorem zipD_at {xs ys : List D} {i : Nat} {d : D} (h : (zipD xs ys)[i]? = some d) : ∃ x y, xs[i]? = some x ∧ ys[i]? = some y ∧ d = .tup [x, y] := by
  unfold zipD at h
  rw [List.getElem?_map] at h
  cases e : (xs.zip ys)[i]? with
  | none => rw [e] at h; cases h
  | some q =>
    rw [e] at h
    obtain ⟨h1, h2⟩ := List.getElem?_zip_eq_some.mp e
    exact ⟨q.1, q.2, h1, h2, (Option.some.inj h).symm⟩
theorem enumD_at {xs : List D} {i : Nat} {d : D} (h : (enumD xs)[i]? = some d) : ∃ x, xs[i]? = some x ∧ d = .tup [.int (i : Nat), x] := by
  unfold enumD at h
  rw [List.getElem?_mapIdx] at h
  cases e : xs[i]? with
  | none => rw [e] at h; cases h
  | some q =>
    rw [e] at h
    exact ⟨q, rfl, (Option.some.inj h).symm⟩
theorem enumD_len (xs : List D) : (enumD xs).length = xs.length := by simp [enumD]
theorem zipD_len (xs ys : List D) : (zipD xs ys).length = min xs.length ys.length := by simp [zipD]
section
variable {X : Cx} {c : Cf} {tg e a b : Expr} {m : ME} {ms : MA} {pos q : Pos}
theorem dIlist (h : DE X c e m) (hK : X.K = c.W.K := by rfl) : DI X c tg e (mIseq m) :=
  (pi_list h).imp fun σ H R ⟨F, u, ρ, S, h⟩ => ⟨F, u, ρ, S, (After.split h).imp fun d u1 F1 H1 _ s1 g1 h1 v rv => by
    obtain ⟨ds, e1, h2⟩ := lft_some h1
    cases d with
    | lst es =>
      cases e1
      obtain ⟨a, vs, rfl, ha, rs⟩ := rv.lst_
      exact ⟨a, rfl, ⟨vs, SqL.of (g1.ex _ _ ha)⟩, by rw [hK]; exact After.now g1 h2 _ (walkD_list ha rs)⟩
    | _ => cases e1⟩
theorem dItup (h : DE X c e m) (hK : X.K = c.W.K := by rfl) : DI X c tg e (mItup m) :=
  (pi_tup h).imp fun σ H R ⟨F, u, ρ, S, h⟩ => ⟨F, u, ρ, S, (After.split h).imp fun d u1 F1 H1 _ s1 g1 h1 v rv => by
    obtain ⟨ds, e1, h2⟩ := lft_some h1
    cases d with
    | tup es =>
      cases e1
      obtain ⟨a, vs, rfl, ha, rs⟩ := rv.tup_
      exact ⟨a, rfl, ⟨vs, by rw [hK]; exact sq_t g1.ex ha⟩, by rw [hK]; exact After.now g1 h2 _ (walkD_tup ha rs)⟩
    | _ => cases e1⟩
theorem dIrng1 (hg : Gl X "range") (hm : X.mg "range" = none) (ha : DA X c [a] ms) (hs : starEach [a] X.env = [(false, eval a X.env)] := by rfl) : DI X c tg (.Call (.Name "range" q) [a] [] pos) (mIof rng1 ms) :=
  (pi_range1 hg hm ha hs).imp fun σ H R ⟨F, u, ρ, S, h⟩ => ⟨F, u, ρ, S, (After.split h).imp fun ds u1 F1 H1 _ s1 g1 h1 vs rv => by
    obtain ⟨es, e1, h2⟩ := lft_some h1
    unfold rng1 at e1
    split at e1
    · rename_i j _h
      split at e1
      · rename_i hj
        cases e1
        obtain ⟨v, vr, rfl, r1, r2⟩ := rv.uncons
        rw [r2.none, r1.int_]
        exact ⟨j, rfl, by omega, by omega, After.now g1 h2 _ walkD_range⟩
      · cases e1
    · cases e1⟩
theorem dIrng2 (hg : Gl X "range") (hm : X.mg "range" = none) (ha : DA X c [a, b] ms) (hs : starEach [a, b] X.env = [(false, eval a X.env), (false, eval b X.env)] := by rfl) (hs2 : starEach [b] X.env = [(false, eval b X.env)] := by rfl) :
    DI X c tg (.Call (.Name "range" q) [a, b] [] pos) (mIof rng2 ms) :=
  (pi_range2 hg hm ha hs hs2).imp fun σ H R ⟨F, u, ρ, S, h⟩ => ⟨F, u, ρ, S, (After.split h).imp fun ds u1 F1 H1 _ s1 g1 h1 vs rv => by
    obtain ⟨es, e1, h2⟩ := lft_some h1
    unfold rng2 at e1
    split at e1
    · rename_i i j _h
      split at e1
      · rename_i hj
        cases e1
        obtain ⟨v, vr, rfl, r1, r2⟩ := rv.uncons
        obtain ⟨w, wr, rfl, r3, r4⟩ := r2.uncons
        rw [r4.none, r1.int_, r3.int_]
        exact ⟨i, j, rfl, ⟨by omega, by omega, by omega, by omega⟩, After.now g1 h2 _ walkD_range⟩
      · cases e1
    · cases e1⟩
theorem dIenum {elts : List Expr} {kk : Nat} {tpos : Pos} (hg : Gl X "enumerate") (hm : X.mg "enumerate" = none) (ha : DA X c [a] ms) (hs : starEach [a] X.env = [(false, eval a X.env)] := by rfl) (hK : X.K = c.W.K := by rfl) :
    DI X c (.Tuple elts kk tpos) (.Call (.Name "enumerate" q) [a] [] pos) (mIof enum1 ms) :=
  (pi_enum hg hm ha hs).imp fun σ H R ⟨F, u, ρ, S, h⟩ => ⟨F, u, ρ, S, (After.split h).imp fun ds u1 F1 H1 _ s1 g1 h1 vs rv => by
    obtain ⟨es, e1, h2⟩ := lft_some h1
    unfold enum1 at e1
    split at e1
    · rename_i xs _h
      cases e1
      obtain ⟨v, vr, rfl, r1, r2⟩ := rv.uncons
      rw [r2.none]
      obtain ⟨p1, v1, rfl, f1, q1⟩ := r1.lst_
      refine ⟨p1, v1, rfl, SqL.of (g1.ex _ _ f1), After.now g1 h2 _ ?_⟩
      rw [hK]
      refine walkD_pair (n := v1.length) (by rw [enumD_len, q1.1]) walk_enum (fun H e => SqL.of (e _ _ f1)) fun i x y d hx hy hd => ?_
      obtain ⟨y', e2, rfl⟩ := enumD_at hd
      cases hx
      exact ⟨_, y', rfl, .int _, q1.2 i y y' hy e2⟩
    · cases e1⟩
end

/-! ### comprehensions -/
def wipeE (ρ : Env) : List Nat → Env
  | [] => ρ
  | v :: vs => (wipeE ρ vs).set v .un
theorem wipe_get {σ : L2.St} {j : Nat} : ∀ {vs : List Nat}, j ∉ vs → (wipe σ vs)[j]? = σ[j]?
  | [], _ => rfl
  | v :: vs, h => by
    show ((wipe σ vs).set v none)[j]? = _
    rw [List.getElem?_set_ne (fun z => h (by simp [z])), wipe_get (fun z => h (List.mem_cons_of_mem _ z))]
theorem wipeE_len (ρ : Env) : ∀ vs : List Nat, (wipeE ρ vs).length = ρ.length
  | [] => rfl
  | v :: vs => by show ((wipeE ρ vs).set v .un).length = _; rw [List.length_set, wipeE_len ρ vs]
theorem wipeE_get {ρ : Env} {j : Nat} {s : Sd} : ∀ {vs : List Nat}, (wipeE ρ vs)[j]? = some s → s = .un ∨ (j ∉ vs ∧ ρ[j]? = some s)
  | [], h => .inr ⟨by simp, h⟩
  | v :: vs, h => by
    have h' : ((wipeE ρ vs).set v .un)[j]? = some s := h
    rcases set_get h' with ⟨_, e, _⟩ | ⟨ne, h2⟩
    · exact .inl e
    · rcases wipeE_get h2 with e | ⟨a, b⟩
      · exact .inl e
      · exact .inr ⟨fun z => (List.mem_cons.mp z).elim (fun q => ne q.symm) a, b⟩
theorem Sta.wipe {c : Cf} {u : PuS} {F H : Hp} {σ : L2.St} {ρ : Env} (S : Sta c u F H σ ρ) (vs : List Nat) : Sta c u F H (wipe σ vs) (wipeE ρ vs) := by
  refine ⟨S.ent, S.gd, by rw [wipe_length, wipeE_len]; exact S.env.len, fun i s e => ?_, fun i j s t h e1 e2 o1 o2 => ?_⟩
  · rcases wipeE_get e with rfl | ⟨hn, e⟩
    · trivial
    · rw [wipe_get hn]; exact S.env.at_ i s e
  · rcases wipeE_get e1 with rfl | ⟨n1, e1⟩
    · cases o1
    · rcases wipeE_get e2 with rfl | ⟨n2, e2⟩
      · cases o2
      · rw [wipe_get n1, wipe_get n2]; exact S.env.ne i j s t h e1 e2 o1 o2
theorem wipe_in {σ : L2.St} {j : Nat} : ∀ {vs : List Nat}, j ∈ vs → (wipe σ vs)[j]? = if j < σ.length then some none else none
  | [], h => by cases h
  | v :: vs, h => by
    show ((wipe σ vs).set v none)[j]? = _
    by_cases e : v = j
    · subst e
      rw [List.getElem?_set]
      simp [wipe_length]
    · rw [List.getElem?_set_ne e]
      exact wipe_in ((List.mem_cons.mp h).resolve_left fun z => e z.symm)
theorem wipe_agr {σ σ' : L2.St} {is vs : List Nat} (h : ∀ i ∈ is, i ∈ vs) (a : Agr is (wipe σ vs) σ') : wipe σ' vs = wipe σ vs := by
  apply List.ext_getElem?
  intro j
  have hl : σ'.length = σ.length := by rw [a.1, wipe_length]
  by_cases hj : j ∈ vs
  · rw [wipe_in hj, wipe_in hj, hl]
  · rw [wipe_get hj, a.2 j (fun z => hj (h j z))]
theorem bind_some {α β : Type} {m : M α} {f : α → M β} {u : PuS} {r : β × PuS} (h : M.bind m f u = some r) : ∃ a u1, m u = some (a, u1) ∧ f a u1 = some r := by
  unfold M.bind at h
  cases e : m u with
  | none => rw [e] at h; cases h
  | some x =>
    obtain ⟨a, u1⟩ := x
    rw [e] at h
    exact ⟨a, u1, rfl, h⟩
def lcD (g : MG) (mt : MT) (me : ME) (ρ : Env) : List D → M (List D)
  | [] => M.pure []
  | d :: ds => M.bind (lft (g d ρ)) fun ρ1 => M.bind (mt ρ1) fun b =>
    if b = true then M.bind (me ρ1) fun y => M.bind (lcD g mt me ρ ds) fun ys => M.pure (y :: ys) else lcD g mt me ρ ds
def mLcO (vs : List Nat) (mi : MA) (g : MG) (mt : MT) (me : ME) : MA := fun ρ => M.bind (mi ρ) fun ds => if ds.length ≤ 100000 then lcD g mt me (wipeE ρ vs) ds else lft none
/-- a fresh list, frozen -/
def mFz (m : MA) : ME := fun ρ => M.bind (m ρ) fun ds => M.pure (.lst ds)
theorem dFz {X : Cx} {c : Cf} {e : Expr} {m : MA} (h : DL X c e m) : DE X c e (mFz m) := h.imp fun σ H Q ⟨F, u, ρ, S, h⟩ => by
  refine ⟨F, u, ρ, S, ?_⟩
  have h' : After c.p F H (M.bind (m ρ) (fun ds => M.pure (.lst ds)) u) fun d _ F' H' => ∀ v, Rep c.W c.p F' v d → Q v H' := h
  unfold M.bind at h'
  cases e1 : m ρ u with
  | none => rw [e1] at h'; exact h'
  | some x =>
    obtain ⟨ds, u1⟩ := x
    rw [e1] at h'
    intro F1 H1 s1 g1 q ws hF hn hq r
    have h2 : After c.p F H (some (D.lst ds, u1)) (fun d _ F' H' => ∀ v, Rep c.W c.p F' v d → Q v H') := h'
    have hsm : Same F1 (upd F1 q (.lst ws)) := fun a o e => by rw [upd_ne (fun z => by rw [z, hF] at e; cases e)]; exact e
    have hpq : c.p ≠ q := fun z => S.gd.ne (z ▸ hn)
    refine h2 (upd F1 q (.lst ws)) H1 ⟨s1.ef.trans hsm, s1.eh, s1.et, fun a o e => ?_⟩ ⟨fun a o e => ?_, g1.pu, fun l e => by rw [upd_ne hpq]; exact g1.off l e, nt_upd g1.nt (by intro _ z; cases z), g1.tb, g1.hp⟩ (.ref q) (Rep.mkL upd_same (r.mono hsm))
    · by_cases ha : a = q
      · subst ha; exact .inr hn
      · rw [upd_ne ha] at e; exact s1.nw a o e
    · by_cases ha : a = q
      · subst ha; rw [upd_same] at e; cases e; exact hq
      · rw [upd_ne ha] at e; exact g1.ex a o e
def mYes : MT := fun _ => M.pure true
section
variable {c : Cf} {is vs : List Nat} {mi : MA} {g : MG} {mt : MT} {me : ME}
/-- the reading of a comprehension, from its mirror: the new list is handed over, not frozen -/
theorem rdLc (his : ∀ i ∈ is, i ∈ vs) (σ : L2.St) (H : Hp) (Q : VK) (F : Hp) (u : PuS) (ρ : Env) (S : Sta c u F H σ ρ)
    (h : After c.p F H (mLcO vs mi g mt me ρ u) fun ds _ F' H' => ∀ q ws, F' q = none → H q = none → H' q = some (.lst ws) → Reps c.W c.p F' ws ds → Q (.ref q) H') : tLc (rdI c mi) (rdG c is g) (rdT c mt) (rdE c me) vs σ H Q := by
  refine ⟨F, u, ρ, S, (After.split h).imp fun ds u1 F1 H1 _ s1 g1 h1 J hJ Dl hD => ?_⟩
  have S1 := S.step s1 g1
  by_cases hlen : ds.length ≤ 100000
  case neg => rw [if_neg hlen] at h1; exact False.elim h1
  rw [if_pos hlen] at h1
  obtain ⟨G, Y, w, hG, hY⟩ := hJ
  -- what is wanted at the end
  cases hr : lcD g mt me (wipeE ρ vs) ds u1 with
  | none => rw [hr] at h1; exact False.elim h1
  | some out =>
    obtain ⟨out, uf⟩ := out
    rw [hr] at h1
    refine lc_it w (fun i H' => ∃ F' u' done acc rest, Stp c.p F1 H1 F' H' ∧ Gd c.p u' F' H' ∧ F' Dl = none ∧ H' Dl = some (.lst acc) ∧ Reps c.W c.p F' acc done ∧ done.length ≤ i ∧
      lcD g mt me (wipeE ρ vs) (ds.drop i) u' = some (rest, uf) ∧ done ++ rest = out) ?_ ?_ ?_ ?_
    · exact ⟨F1, u1, [], [], out, Stp.own hD, g1.own hD, g1.fresh hD, upd_same, Reps.nil, Nat.le_refl _, by simpa using hr, rfl⟩
    · rintro i H' _ ⟨F', u', done, acc, rest, s', g', _⟩
      exact hG H' (s'.ef.trans g'.ex)
    · rintro i x H2 H3 hi ⟨F', u', done, acc, rest, s', g', hf, ha, ra, hl, hd, ho⟩ hy
      have hdi : ds[i]? = some ds[i] := List.getElem?_eq_getElem hi
      obtain ⟨F3, s3, g3, r3⟩ := hY i H2 x H3 F' u' _ hdi s'.ef g' hy
      rw [List.drop_eq_getElem_cons hi] at hd
      unfold lcD at hd
      have S3 : Sta c u' F3 H3 (wipe σ vs) (wipeE ρ vs) := ((S1.step s' g').step s3 g3).wipe vs
      refine ⟨F3, u', wipeE ρ vs, ds[i], S3, r3, ?_⟩
      cases eg : g ds[i] (wipeE ρ vs) with
      | none => rw [eg] at hd; cases hd
      | some ρ1 =>
        rw [eg] at hd
        intro σ2 S2 a2
        refine ⟨wipe_agr his a2, F3, u', ρ1, S2, ?_⟩
        have hd2 : M.bind (mt ρ1) (fun b => if b = true then M.bind (me ρ1) fun y => M.bind (lcD g mt me (wipeE ρ vs) (ds.drop (i + 1))) fun ys => M.pure (y :: ys) else lcD g mt me (wipeE ρ vs) (ds.drop (i + 1))) u' = some (rest, uf) := hd
        unfold M.bind at hd2
        have s13 := s'.trans g'.ne s3
        cases et : mt ρ1 u' with
        | none => rw [et] at hd2; cases hd2
        | some bt =>
          obtain ⟨bt, u2⟩ := bt
          rw [et] at hd2
          intro F4 H4 s4 g4
          have s14 := s13.trans g3.ne s4
          have hf4 : F4 Dl = none := s4.off (s3.off hf (by rw [ha]; simp)) (by rw [s3.eh Dl _ (fun z => g1.ne (z ▸ hD)) ha (.inr (by intro _ z; cases z))]; simp)
          have ha4 : H4 Dl = some (.lst acc) := s4.eh Dl _ (fun z => g1.ne (z ▸ hD)) (s3.eh Dl _ (fun z => g1.ne (z ▸ hD)) ha (.inr (by intro _ z; cases z))) (.inr (by intro _ z; cases z))
          have hpd : Dl ≠ c.p := fun z => g1.ne (z ▸ hD)
          cases bt with
          | false =>
            show ∃ F' u' done acc rest, _
            exact ⟨F4, u2, done, acc, rest, s14, g4, hf4, ha4, ra.mono (s3.ef.trans s4.ef), by omega, hd2, ho⟩
          | true =>
            show rdE c me σ2 H4 _
            refine ⟨F4, u2, ρ1, S2.step s4 g4, ?_⟩
            have hd3 : M.bind (me ρ1) (fun y => M.bind (lcD g mt me (wipeE ρ vs) (ds.drop (i + 1))) fun ys => M.pure (y :: ys)) u2 = some (rest, uf) := hd2
            unfold M.bind at hd3
            cases ee : me ρ1 u2 with
            | none => rw [ee] at hd3; cases hd3
            | some y =>
              obtain ⟨y, u3⟩ := y
              rw [ee] at hd3
              intro F5 H5 s5 g5 v rv
              have ha5 := s5.eh Dl _ hpd ha4 (.inr (by intro _ z; cases z))
              have hf5 : F5 Dl = none := s5.off hf4 (by rw [ha4]; simp)
              refine ⟨acc, ha5, sz5l (by have := ra.1; omega), ?_⟩
              obtain ⟨ys, u4, el, e5⟩ := bind_some (m := lcD g mt me (wipeE ρ vs) (ds.drop (i + 1))) (f := fun ys => M.pure (y :: ys)) (u := u3) (r := (rest, uf)) hd3
              have e5 : some (y :: ys, u4) = some (rest, uf) := e5
              injection e5 with e5
              injection e5 with e6 e7
              subst e6 e7
              have s15 := s14.trans g4.ne s5
              refine ⟨F5, u3, done ++ [y], acc ++ [v], ys, ⟨s15.ef, fun a o hap e n => ?_, fun a ps ha e => by
                obtain ⟨qs, e1⟩ := s15.et a ps ha e
                exact ⟨qs, by rw [upd_ne (ne_of_none e hD)]; exact e1⟩, s15.nw⟩, ⟨fun a o e => ?_, ?_, g5.off, g5.nt, tabs_over ha5 g5.tb, g5.hp⟩, hf5, upd_same, ?_, by simp; omega, el, by simpa using ho⟩
              · rw [upd_ne (ne_of_none e hD)]; exact s15.eh a o hap e n
              · rw [upd_ne (fun z => by rw [z, hf5] at e; cases e)]; exact g5.ex a o e
              · rw [upd_ne (Ne.symm hpd)]; exact g5.pu
              · exact (ra.mono ((s3.ef.trans s4.ef).trans s5.ef)).append (Reps.cons rv Reps.nil)
    · rintro H' ⟨F', u', done, acc, rest, s', g', hf, ha, ra, hl, hd, ho⟩
      rw [List.drop_eq_nil_of_le (Nat.le_refl _)] at hd
      have hd' : some (([] : List D), u') = some (rest, uf) := hd
      injection hd' with hd'
      injection hd' with e1 e2
      subst e1 e2
      rw [List.append_nil] at ho
      subst ho
      exact h1 F' H' s' g' Dl acc hf (s1.back g1.ne hD) ha ra
end
section
variable {X : Cx} {c : Cf} {elt tg iter : Expr} {ifs : List Expr} {scope : Scope} {own : List (Str × Nat)} {pos : Pos} {is : List Nat} {mi : MA} {g : MG} {mt : MT} {me : ME}
theorem dYes : PTs X [] (rdT c mYes) := pts_nil.imp fun σ H Q ⟨F, u, ρ, S, h⟩ => After.now S.gd h
theorem dLcO (hc : X.calm = true) (hN : X.N.Nodup) (hi : DI X c tg iter mi) (ok : BlkOk X.N X.env.scope scope own) (hg : ∀ (s : Shared) (H : Hp) (C : Addr) (cl : List (Str × Addr)) (fp : List Addr), DG (X.blk s H scope (compEnvC scope cl C X.env) fp) c tg is g)
    (ht : ∀ (s : Shared) (H : Hp) (C : Addr) (cl : List (Str × Addr)) (fp : List Addr), PTs (X.blk s H scope (compEnvC scope cl C X.env) fp) ifs (rdT c mt)) (he : ∀ (s : Shared) (H : Hp) (C : Addr) (cl : List (Str × Addr)) (fp : List Addr), DE (X.blk s H scope (compEnvC scope cl C X.env) fp) c elt me)
    (his : ∀ i ∈ is, i ∈ own.map (·.2) := by decide) (hs : ∀ x, foldedSetIterable iter X.env x = pure x := by intro _; rfl) : DL X c (.ListComp elt [⟨tg, iter, ifs, 0⟩] scope pos) (mLcO (own.map (·.2)) mi g mt me) :=
  (pe_lc hc hN hi ok hg ht he hs).imp fun σ H Q ⟨F, u, ρ, S, h⟩ => rdLc his σ H Q F u ρ S h
end
end Mi

set_option Elab.async false
set_option linter.all false
set_option maxRecDepth 100000
set_option maxHeartbeats 2000000
/-! Mi4: owned lists, calls, classes, a def's promise. -/
namespace Mi
open PySem PySem.Spec PyProof.Rows L2
variable [TB : Tabl]

/-! ### owned lists -/
def vOw (ρ : Env) (i : Nat) : Option (List D) := match ρ[i]? with
  | some (.ow ds) => some ds
  | _ => none
def mApp (i : Nat) (m : ME) : MS := fun ρ => M.bind (m ρ) fun d => M.bind (lft (vOw ρ i)) fun ds => M.bind (lft (if ds.length < 100000 then some () else none)) fun _ => M.pure (.nx (ρ.set i (.ow (ds ++ [d]))))
def mIxO (i : Nat) (mi : ME) : ME := fun ρ => M.bind (mi ρ) fun k => M.bind (lft (vOw ρ i)) fun ds => lft (match k with
  | .int j => atI ds j
  | _ => none)
def frz (i : Nat) (ρ : Env) : Env := match vOw ρ i with
  | some ds => ρ.set i (.sh (.lst ds))
  | none => ρ
def mFrz (i : Nat) (m : MS) : MS := fun ρ => m (frz i ρ)
section
variable {X : Cx} {c : Cf} {pos : Pos} {e ie : Expr} {m mi : ME} {i : Nat} {x : Str}
theorem vOw_at {ρ : Env} {ds : List D} (h : vOw ρ i = some ds) : ρ[i]? = some (.ow ds) := by
  unfold vOw at h
  split at h
  · rename_i z; cases h; exact z
  · cases h
theorem Sta.ow {u : PuS} {F H : Hp} {σ : L2.St} {ρ : Env} {ds : List D} (S : Sta c u F H σ ρ) (h : vOw ρ i = some ds) :
    ∃ q vs, σ[i]? = some (some (.ref q)) ∧ H q = some (.lst vs) ∧ F q = none ∧ q ≠ c.p ∧ c.H0 q = none ∧ Reps c.W c.p F vs ds := S.env.at_ i _ (vOw_at h)
theorem lft_some' {α β : Type} {o : Option α} {f : α → M β} {u : PuS} {p : Addr} {F H : Hp} {Φ : β → PuS → Hp → Hp → Prop} (h : After p F H (M.bind (lft o) f u) Φ) : ∃ a, o = some a ∧ After p F H (f a u) Φ := by
  cases o with
  | none => exact False.elim h
  | some a => exact ⟨a, rfl, h⟩
theorem dApp (i : Nat) {x : Str} {p0 apos cpos : Pos} (he : DE X c e m) (hN : X.N[i]? = some x := by rfl) (hv : Vis X.env.scope x := by first | exact Or.inl rfl | exact Or.inr (Or.inl rfl) | exact Or.inr (Or.inr rfl)) (hd : (x == ("__debug__" : Str)) = false := by decide)
    (hcd : (x == ("__classdict__" : Str)) = false := by decide) (hbase : attributeBase (.Name x p0) "append" X.env (eval (.Name x p0) X.env) = eval (.Name x p0) X.env := by rfl)
    (hfew : ((backTo cpos (starEach [e] X.env)).all (fun x => !x.1) && (backToKw cpos (keywordEach [] X.env)).all (fun x => x.1.isSome)
      && decide (([e] : List Expr).length + ([] : List Keyword).length + (if ([] : List Keyword).isEmpty then 0 else 1) < 30)) = true := by rfl)
    (hline : (apos.endLine == cpos.line) = true := by rfl) (hst : starEach [e] X.env = (false, eval e X.env) :: starEach [] X.env := by rfl) (hplain : (backTo cpos (starEach [] X.env)).any (·.1) = false := by rfl)
    (hs : swapsWith (.Call (.Attribute (.Name x p0) "append" apos) [e] [] cpos) none pos.line X.env = pure false := by rfl) :
    DS X c (.Expr (.Call (.Attribute (.Name x p0) "append" apos) [e] [] cpos) pos) (mApp i m) :=
  (ps_expr (pe_bm PySem.F.plainAttrs_list PySem.F.slot_list_append PySem.F.type_list_append mt_append (pe_var (i := i) hN hv hd hcd) (pa_cons he pa_nil hst) hbase hfew hline hst hplain) hs).imp fun Dn σ H ⟨F, u, ρ, S, h⟩ => by
    unfold mApp at h
    have key : ∀ ds, vOw ρ i = some ds → tDrop (tBM X.K "list" rAppend (tVar i) (tCons (rdE c m) tNil)) Dn σ H := fun ds hds => by
      obtain ⟨q, vs, e1, hq, _⟩ := S.ow hds
      refine ⟨.ref q, e1, .inl ⟨rfl, vs, SqL.of hq⟩, F, u, ρ, S, (flowO.after S h).imp fun d u1 F1 H1 _ s1 g1 h1 v rv => ?_⟩
      obtain ⟨ds', e2, h2⟩ := flowO.lft h1.1 h1.2
      rw [hds] at e2
      cases e2
      obtain ⟨_, e3, h3⟩ := flowO.lft h1.1 h2
      obtain ⟨q', vs', e1', hq', _, _, _, r'⟩ := h1.1.ow hds
      rw [e1] at e1'
      cases e1'
      split at e3
      · rename_i hl
        refine ⟨q, vs', v, rfl, rfl, hq', sz5l (by rw [r'.1]; omega), h3 σ F1 _ (Same.refl _) ?_⟩
        exact h1.1.put (vOw_at hds) e1 (r'.append (Reps.cons rv Reps.nil))
      · cases e3
    cases ho : vOw ρ i with
    | some ds => exact key ds ho
    | none =>
      exfalso
      cases e1 : m ρ u with
      | none =>
        unfold M.bind at h
        rw [e1] at h
        exact h
      | some y =>
        unfold M.bind at h
        rw [e1, ho] at h
        exact h
theorem dIxO (i : Nat) {x : Str} {p0 : Pos} (hk : DE X c ie mi) (hN : X.N[i]? = some x := by rfl) (hv : Vis X.env.scope x := by first | exact Or.inl rfl | exact Or.inr (Or.inl rfl) | exact Or.inr (Or.inr rfl)) (hd : (x == ("__debug__" : Str)) = false := by decide)
    (hcd : (x == ("__classdict__" : Str)) = false := by decide) (hs : PlainIx ie := by exact fun _ _ => rfl) : DE X c (.Subscript (.Name x p0) ie pos) (mIxO i mi) :=
  (pe_ix ix_list (pe_var (i := i) hN hv hd hcd) hk hs).imp fun σ H Q ⟨F, u, ρ, S, h⟩ => by
    have key : ∀ ds, vOw ρ i = some ds → ∃ w, σ[i]? = some (some w) ∧ rdE c mi σ H fun y H2 => rIxL X.K w y H2 Q := fun ds hds => by
      obtain ⟨q, vs, e1, _⟩ := S.ow hds
      refine ⟨.ref q, e1, F, u, ρ, S, (After.split h).imp fun k u2 F2 H2 _ s2 g2 h2 w rw => ?_⟩
      obtain ⟨ds', e2, h3⟩ := lft_some' h2
      rw [hds] at e2
      cases e2
      obtain ⟨d, e3, h4⟩ := lft_some h3
      obtain ⟨q', vs', e1', hq', _, _, _, r'⟩ := (S.step s2 g2).ow hds
      rw [e1] at e1'
      cases e1'
      cases k with
      | int j =>
        have e4 : atI ds j = some d := e3
        unfold atI at e4
        cases hj : ixN ds.length j with
        | none => rw [hj] at e4; cases e4
        | some n =>
          rw [hj] at e4
          obtain ⟨v, ev, rv⟩ := r'.get e4
          refine ⟨q, vs', j, v, rfl, rw.int_, SqL.of hq', by unfold atI; rw [r'.1, hj]; exact ev, After.now g2 h4 v rv⟩
      | _ => cases e3
    cases ho : vOw ρ i with
    | some ds => exact key ds ho
    | none =>
      exfalso
      unfold mIxO M.bind at h
      cases e1 : mi ρ u with
      | none => rw [e1] at h; exact h
      | some y => rw [e1, ho] at h; exact h
theorem Sta.frz {u : PuS} {F H : Hp} {σ : L2.St} {ρ : Env} (S : Sta c u F H σ ρ) (i : Nat) : ∃ F', Same F F' ∧ Sta c u F' H σ (frz i ρ) := by
  unfold Mi.frz
  cases ho : vOw ρ i with
  | none => exact ⟨F, Same.refl F, S⟩
  | some ds =>
    obtain ⟨q, vs, e1, hq, hf, hp, h0, r⟩ := S.ow ho
    have hsm : Same F (upd F q (.lst vs)) := fun a o e => by rw [upd_ne (fun z => by rw [z, hf] at e; cases e)]; exact e
    have qs : ∀ {j : Nat} {t : Sd} {a : Addr}, i ≠ j → ρ[j]? = some t → t.own = true → σ[j]? = some (some (.ref a)) → a ≠ q := fun {j t a} ne e2 o z h => by
      subst h
      exact S.env.ne i j _ t ne (vOw_at ho) e2 rfl o (e1.trans z.symm)
    refine ⟨upd F q (.lst vs), hsm, ⟨S.ent.ef.trans hsm, S.ent.eh, S.ent.et, fun a o e => ?_⟩, ⟨fun a o e => ?_, S.gd.pu, fun l e => by rw [upd_ne (Ne.symm hp)]; exact S.gd.off l e, nt_upd S.gd.nt (by intro _ z; cases z), S.gd.tb, S.gd.hp⟩, by simpa using S.env.len, fun j t e => ?_, fun j k t t' h ea eb o1 o2 => ?_⟩
    · by_cases ha : a = q
      · subst ha; exact .inr h0
      · rw [upd_ne ha] at e; exact S.ent.nw a o e
    · by_cases ha : a = q
      · subst ha; rw [upd_same] at e; cases e; exact hq
      · rw [upd_ne ha] at e; exact S.gd.ex a o e
    · rcases set_get e with ⟨rfl, rfl, _⟩ | ⟨ne, e⟩
      · exact ⟨.ref q, e1, Rep.mkL upd_same (r.mono hsm)⟩
      · have k := S.env.at_ j t e
        cases t with
        | un => trivial
        | sh d => obtain ⟨v, z, r'⟩ := k; exact ⟨v, z, r'.mono hsm⟩
        | ow es => obtain ⟨a, xs, z, ha, hfa, w1, w2, r'⟩ := k; exact ⟨a, xs, z, ha, by rw [upd_ne (qs ne e rfl z)]; exact hfa, w1, w2, r'.mono hsm⟩
        | oi kk ks es => obtain ⟨dx, xs, z, ha, hfa, w1, w2, w3, r'⟩ := k; exact ⟨dx, xs, z, ha, by rw [upd_ne (qs ne e rfl z)]; exact hfa, w1, w2, w3, r'.mono hsm⟩
        | od ks es => obtain ⟨a, ob, xs, ws, z, ha, hfa, w1, w2, w3, r'⟩ := k; exact ⟨a, ob, xs, ws, z, ha, by rw [upd_ne (qs ne e rfl z)]; exact hfa, w1, w2, w3, r'.mono hsm⟩
    · rcases set_get ea with ⟨rfl, rfl, _⟩ | ⟨n1, ea⟩
      · cases o1
      · rcases set_get eb with ⟨rfl, rfl, _⟩ | ⟨n2, eb⟩
        · cases o2
        · exact S.env.ne j k t t' h ea eb o1 o2
theorem dFrzS (i : Nat) {st : Stmt} {ms : MS} (h : DS X c st ms) : DS X c st (mFrz i ms) := h.imp fun Dn σ H ⟨F, u, ρ, S, h⟩ => by
  obtain ⟨F', sm, S'⟩ := S.frz i
  exact ⟨F', u, _, S', flowO.mono sm h⟩
end

/-! ### a def's promise -/
def startE (n : Nat) (ds : List D) : Env := ds.map Sd.sh ++ List.replicate (n - ds.length) Sd.un
def mFn (n : Nat) (mb : MS) : List D → M D := fun ds u => match mb (startE n ds) u with
  | some (.rt d, u') => some (d, u')
  | some (.nx _, u') => some (.non, u')
  | _ => none
theorem env_start {c : Cf} {F H : Hp} {N : List Str} {vs : List V} {ds : List D} (r : Reps c.W c.p F vs ds) : EnvOk c F H (L2.start N vs) (startE N.length ds) := by
  have hl := r.1
  have nown : ∀ {i : Nat} {s : Sd}, (startE N.length ds)[i]? = some s → s.own = false := fun {i s} e => by
    unfold startE at e
    by_cases hi : i < (ds.map Sd.sh).length
    · rw [List.getElem?_append_left hi, List.getElem?_map] at e
      cases q : ds[i]? with
      | none => rw [q] at e; cases e
      | some d => rw [q] at e; cases e; rfl
    · rw [List.getElem?_append_right (by omega), List.getElem?_replicate] at e
      split at e
      · cases e; rfl
      · cases e
  refine ⟨?_, fun i s e => ?_, fun i j s t _ e1 _ o1 _ => by rw [nown e1] at o1; cases o1⟩
  · unfold L2.start startE
    simp [hl]
  · unfold startE at e
    by_cases hi : i < (ds.map Sd.sh).length
    · rw [List.getElem?_append_left hi, List.getElem?_map] at e
      cases q : ds[i]? with
      | none => rw [q] at e; cases e
      | some d =>
        rw [q] at e
        cases e
        obtain ⟨v, ev, rv⟩ := r.get q
        refine ⟨v, ?_, rv⟩
        unfold L2.start
        rw [List.getElem?_append_left (by simpa [hl] using hi), List.getElem?_map, ev]
        rfl
    · rw [List.getElem?_append_right (by omega), List.getElem?_replicate] at e
      split at e
      · cases e; trivial
      · cases e
section
variable {P : Program} {w : World} {K : PySem.W.Frag} {mg : Str → Option Value} {base : Heap} {x qual : Str} {params : Arguments} {body : List Stmt} {scope : Scope} {dvs : List V} {kws : List (Str × V)} {f : Addr} {fd : FuncData} {W : Wo} {N ps : List Str} {k : Nat} {mb : MS}
/-- a def by its body's mirror -/
theorem fn_mir (F : FunD K x qual params body scope dvs kws f fd) (S : FnScope N ps scope)
    (hb : ∀ (cdv : Value) (A : Around) (outer : List PySem.Env) (s : Shared) (H : Hp) (E : XK) (p : Addr) (F0 : Hp), Room k (A.deeper (envOfC qual scope s.heap.objs.size f cdv)) → DB (cxOf CX0 P w K mg base N qual scope f cdv A outer s H E).nox ⟨W, p, F0, H, 0, noX⟩ body mb) :
    FnOk P w K mg base CX0 (k + 1) f fd ps (spM W ps.length (mFn N.length mb)) := by
  refine F.ok S (fun vs H Q E h => h.1) (fun cdv A outer s H vs Q E hr h => ?_)
  obtain ⟨hl, p, F0, u, ds, g, r, h⟩ := h
  refine ⟨_, PSs.nox (hb cdv A outer s H E p F0 hr), F0, u, startE N.length ds, ⟨Stp.refl, g, env_start r⟩, ?_⟩
  unfold mFn at h
  cases e : mb (startE N.length ds) u with
  | none => rw [e] at h; exact h
  | some y =>
    obtain ⟨fl, u1⟩ := y
    rw [e] at h
    cases fl with
    | rt d =>
      intro v F' H' s' g' rv
      have h2 : After p F0 H (some (d, u1)) (fun d _ F' H' => ∀ v, Rep W p F' v d → Q v H') := h
      exact h2 F' H' s' g' v rv
    | rl ds' => exact False.elim h
    | nx ρ' =>
      intro σ' F' H' _ S'
      have h2 : After p F0 H (some (D.non, u1)) (fun d _ F' H' => ∀ v, Rep W p F' v d → Q v H') := h
      exact h2 F' H' S'.ent S'.gd .non .non
    | bk ρ' => exact False.elim h
    | ct ρ' => exact False.elim h
    | ex ρ' k' ks' ds' => exact False.elim h
end

/-! ### calls -/
def mCall (n : Nat) (mf : List D → M D) (ms : MA) : ME := fun ρ => M.bind (ms ρ) fun ds => if ds.length = n then mf ds else lft none
section
variable {X : Cx} {c : Cf} {CX : CXT} {k n : Nat} {f : Addr} {fd : FuncData} {ps : List Str} {x m : Str} {p pos apos : Pos} {e o : Expr} {es : List Expr} {ms : MA} {mo : ME} {mf : List D → M D}
theorem call_ok {p : Addr} {F H : Hp} {u : PuS} {vs : List V} {ds : List D} {W : Wo} {Q : VK} {E : XK} (g : Gd p u F H) (r : Reps W p F vs ds) (h : After p F H ((if ds.length = n then mf ds else lft none) u) fun d _ F' H' => ∀ v, Rep W p F' v d → Q v H') : spM W n mf vs H Q E := by
  by_cases hl : ds.length = n
  · rw [if_pos hl] at h
    exact ⟨r.1.trans hl, p, F, u, ds, g, r, h⟩
  · rw [if_neg hl] at h; exact False.elim h
theorem dCall (G : FnOk X.prog X.w X.K X.mg X.base CX0 k f fd ps (spM c.W n mf)) (hr : Room k X.A) (hg : Gl X x) (hm : X.mg x = some (.ref f)) (hk : PySem.W.keepIn X.K (.ref f) = true) (hb : Binds X.K fd ps [])
    (ha : DA X c (e :: es) ms) (hdb : (x == ("__debug__" : Str)) = false := by decide) (he : starEach (e :: es) X.env = (false, eval e X.env) :: starEach es X.env := by rfl) (hpl : (backTo pos (starEach es X.env)).any (·.1) = false := by rfl) :
    DE X c (.Call (.Name x p) (e :: es) [] pos) (mCall n mf ms) :=
  (pe_call G hr hg hm hk hb .nil pass0 ha hdb he hpl).imp fun σ H Q ⟨F, u, ρ, S, h⟩ => ⟨F, u, ρ, S, (After.split h).imp fun ds u1 F1 H1 _ s1 g1 h1 vs rvs => by
    show spM c.W n mf (vs ++ []) H1 Q E0
    rw [List.append_nil]
    exact call_ok g1 rvs h1⟩
/-! ### fields, properties, methods -/
/-- the field number i of an object of the class k with the fields ks -/
def fldD (k : Str) (ks : List Str) (i : Nat) : D → Option D := fun d => match d with
  | .obj c ks' ds => if c = k ∧ ks' = ks then ds[i]? else none
  | _ => none
theorem zip_lookup {ks : List Str} {vs : List V} {i : Nat} {f : Str} {v : V} (nd : ks.Nodup) (hk : ks[i]? = some f) (hv : vs[i]? = some v) : (ks.zip vs).lookup f = some v := by
  induction ks generalizing vs i with
  | nil => cases hk
  | cons a ks ih =>
    cases vs with
    | nil => cases hv
    | cons b vs =>
      cases i with
      | zero =>
        simp at hk hv
        subst hk hv
        simp [List.lookup]
      | succ i =>
        simp at hk hv
        have hne : (f == a) = false := by
          rw [beq_eq_false_iff_ne]
          rintro rfl
          exact (List.nodup_cons.mp nd).1 (List.mem_of_getElem? hk)
        show (match f == a with | true => some b | false => (ks.zip vs).lookup f) = some v
        rw [hne]
        exact ih (List.nodup_cons.mp nd).2 hk hv
theorem dFld {ck f : Str} {ks : List Str} (i : Nat) (hi : ks[i]? = some f) (nd : ks.Nodup) (hc : Cls X.K (c.W.cl ck)) (hn : NoAttr X.K (c.W.cl ck) f) (he : DE X c e mo) (hb : attributeBase e f X.env (eval e X.env) = eval e X.env := by rfl) : DE X c (.Attribute e f pos) (mUn (fldD ck ks i) mo) :=
  (pe_fld he hb).imp fun σ H Q ⟨F, u, ρ, S, h⟩ => ⟨F, u, ρ, S, (After.split h).imp fun d u1 F1 H1 _ s1 g1 h1 v rv => by
    obtain ⟨y, e1, h2⟩ := lft_some h1
    unfold fldD at e1
    split at e1
    · rename_i c' ks' ds _h
      split at e1
      · rename_i hh
        obtain ⟨rfl, rfl⟩ := hh
        obtain ⟨a, dx, vs, rfl, ha, lk, r⟩ := rv.obj_
        obtain ⟨w, ew, rw⟩ := r.get e1
        exact ⟨a, _, dx, _, w, rfl, g1.ex _ _ ha, hc, hn, zip_lookup nd hi ew, After.now g1 h2 w rw⟩
      · cases e1
    · cases e1⟩
def mSelf (k : Str) (mf : List D → M D) (mo : ME) : ME := fun ρ => M.bind (mo ρ) fun d => match d with
  | .obj c ks ds => if c = k then mf [.obj c ks ds] else lft none
  | _ => lft none
theorem dProp {ck f : Str} {pr g : Addr} (he : DE X c e mo) (hc : Cls X.K (c.W.cl ck)) (hp : PropOf X.K (c.W.cl ck) f pr g) (G : FnOk X.prog X.w X.K X.mg X.base CX0 k g fd ps (spM c.W 1 mf)) (hr : Room (k + 1) X.A) (hb : Binds X.K fd ps [])
    (hab : attributeBase e f X.env (eval e X.env) = eval e X.env := by rfl) : DE X c (.Attribute e f pos) (mSelf ck mf mo) :=
  (pe_prop he hc hp G hr hb .nil pass0 hab).imp fun σ H Q ⟨F, u, ρ, S, h⟩ => ⟨F, u, ρ, S, (After.split h).imp fun d u1 F1 H1 _ s1 g1 h1 v rv => by
    split at h1
    · rename_i c' ks' ds _h
      split at h1
      · rename_i hh
        subst hh
        obtain ⟨a, dx, vs, rfl, ha, lk, r⟩ := id rv.obj_
        exact ⟨a, dx, _, rfl, g1.ex _ _ ha, rfl, c.p, F1, u1, [_], g1, Reps.cons rv Reps.nil, h1⟩
      · exact False.elim h1
    · exact False.elim h1⟩
end
end Mi

set_option Elab.async false
set_option linter.all false
set_option maxRecDepth 100000
set_option maxHeartbeats 2000000
/-! Mi5: mirrors of operators and built-ins. -/
namespace Mi
open PySem PySem.Spec PyProof.Rows L2
variable [TB : Tabl]

section
variable {W : Wo} {p : Addr} {F H : Hp} {u : PuS}
theorem OpM.ret {Q : VK} {d : D} {o : Option D} {v : V} (g : Gd p u F H) (h : After p F H (lft o u) fun d _ F' H' => ∀ v, Rep W p F' v d → Q v H') (e : o = some d) (r : Rep W p F v d) : Q v H := by
  subst e
  exact After.now g h v r
theorem OpM.new {Q : VK} {d : D} {o : Option D} {q : Addr} {ob : HO} (g : Gd p u F H) (h : After p F H (lft o u) fun d _ F' H' => ∀ v, Rep W p F' v d → Q v H') (e : o = some d) (hq : H q = none) (r : Same F (upd F q ob) → Rep W p (upd F q ob) (.ref q) d) (no : ∀ ps, ob ≠ .tbl ps := by intro _ z; cases z) : Q (.ref q) (upd H q ob) := by
  subst e
  exact h _ _ (Stp.new g hq) (g.new hq no) _ (r (Stp.new g hq).ef)
end

/-! ### ints -/
def int2 (f : Int → Int → Option D) : D → D → Option D
  | .int a, .int b => f a b
  | _, _ => none
theorem int2_some {f : Int → Int → Option D} {a b d : D} (h : int2 f a b = some d) : ∃ i j, a = .int i ∧ b = .int j ∧ f i j = some d := by
  unfold int2 at h
  split at h
  · exact ⟨_, _, rfl, rfl, h⟩
  · cases h
/-- an operator on ints with a condition C, mirrored by the decidable condition c -/
theorem opm_I {W : Wo} {C : Int → Int → Prop} {g : Int → Int → V} {c : Int → Int → Bool} {f : Int → Int → D} (hc : ∀ i j, c i j = true → C i j) (hg : ∀ p F i j, Rep W p F (g i j) (f i j)) : OpM W (rI C g) (int2 fun i j => if c i j = true then some (f i j) else none) := by
  intro p F H u x y a b Q gd rx ry h
  obtain ⟨d, e, _⟩ := lft_some h
  obtain ⟨i, j, rfl, rfl, e2⟩ := int2_some e
  split at e2
  · rename_i hcc
    cases e2
    exact ⟨i, j, rx.int_, ry.int_, hc i j hcc, OpM.ret gd h e (hg p F i j)⟩
  · cases e2
theorem opm_I0 {W : Wo} {g : Int → Int → V} {f : Int → Int → D} (hg : ∀ p F i j, Rep W p F (g i j) (f i j)) : OpM W (rI0 g) (int2 fun i j => some (f i j)) := by
  intro p F H u x y a b Q gd rx ry h
  obtain ⟨d, e, _⟩ := lft_some h
  obtain ⟨i, j, rfl, rfl, e2⟩ := int2_some e
  cases e2
  exact ⟨i, j, rx.int_, ry.int_, OpM.ret gd h e (hg p F i j)⟩
def subD : D → D → Option D := int2 fun i j => some (.int (i - j))
def ltD : D → D → Option D := int2 fun i j => some (.bl (decide (i < j)))
def leD : D → D → Option D := int2 fun i j => some (.bl (decide (i ≤ j)))
def gtD : D → D → Option D := int2 fun i j => some (.bl (decide (j < i)))
def geD : D → D → Option D := int2 fun i j => some (.bl (decide (j ≤ i)))
def fdivC (_ j : Int) : Bool := decide (0 < j ∧ j.natAbs.log2 < 9000)
def fdivD : D → D → Option D := int2 fun i j => if fdivC i j = true then some (.int (i / j)) else none
def modD : D → D → Option D := int2 fun i j => if decide (0 < j) = true then some (.int (i % j)) else none
def powC (i j : Int) : Bool := decide (0 ≤ j ∧ j ≤ 1000000 ∧ i.natAbs < 18446744073709551616)
def powD : D → D → Option D := int2 fun i j => if powC i j = true then some (.int (i ^ j.toNat)) else none
def CMulA (i j : Int) : Prop := CMul i j ∨ CMulW i j
def mulC (i j : Int) : Bool := decide ((-(2 ^ 64) < i ∧ i < 2 ^ 64) ∨ (-(2 ^ 64) < j ∧ j < 2 ^ 64)) || decide (i.natAbs.log2 + j.natAbs.log2 < 1000000)
theorem mulC_ok {i j : Int} (h : mulC i j = true) : CMulA i j := by
  unfold mulC at h
  rcases Bool.or_eq_true_iff.mp h with h | h
  · exact .inl (of_decide_eq_true (p := (-(2 ^ 64) < i ∧ i < 2 ^ 64) ∨ (-(2 ^ 64) < j ∧ j < 2 ^ 64)) h)
  · exact .inr (of_decide_eq_true (p := i.natAbs.log2 + j.natAbs.log2 < 1000000) h)
theorem CMulA.ok {i j : Int} (h : CMulA i j) : IntMulOk i j := h.elim CMul.ok CMulW.ok
theorem op_mulB {X : Cx} : OpR X (binaryOp .Mult) (rI CMulA fun i j => .int (i * j)) := opI fun _ _ _ _ _ _ _ hc q => mul_int q hc.ok
theorem m_sub {W : Wo} : OpM W (rI0 fun i j => .int (i - j)) subD := opm_I0 fun _ _ _ _ => .int _
theorem m_lt {W : Wo} : OpM W (rI0 fun i j => .bl (decide (i < j))) ltD := opm_I0 fun _ _ _ _ => .bl _
theorem m_le {W : Wo} : OpM W (rI0 fun i j => .bl (decide (i ≤ j))) leD := opm_I0 fun _ _ _ _ => .bl _
theorem m_gt {W : Wo} : OpM W (rI0 fun i j => .bl (decide (j < i))) gtD := opm_I0 fun _ _ _ _ => .bl _
theorem m_ge {W : Wo} : OpM W (rI0 fun i j => .bl (decide (j ≤ i))) geD := opm_I0 fun _ _ _ _ => .bl _
theorem m_fdiv {W : Wo} : OpM W (rI CDivW fun i j => .int (i / j)) fdivD := opm_I (fun i j h => of_decide_eq_true (p := 0 < j ∧ j.natAbs.log2 < 9000) h) fun _ _ _ _ => .int _
theorem m_mod {W : Wo} : OpM W (rI (fun _ j => 0 < j) fun i j => .int (i % j)) modD := opm_I (fun i j h => of_decide_eq_true h) fun _ _ _ _ => .int _
theorem m_pow {W : Wo} : OpM W (rI CPow fun i j => .int (i ^ j.toNat)) powD := opm_I (fun i j h => by
  have := of_decide_eq_true h
  exact ⟨this.1, this.2.1, by have e : (2 : Nat) ^ 64 = 18446744073709551616 := by decide
                              rw [e]; exact this.2.2⟩) fun _ _ _ _ => .int _
def negD : D → Option D
  | .int i => some (.int (-i))
  | _ => none
theorem m_neg {W : Wo} : UnM W (rU fun i => .int (-i)) negD := by
  intro p F H u x a Q gd rx h
  obtain ⟨d, e, _⟩ := lft_some h
  cases a with
  | int i => cases e; exact ⟨i, rx.int_, OpM.ret gd h rfl (.int _)⟩
  | _ => cases e

/-! ### + and * -/
def addD : D → D → Option D
  | .int a, .int b => some (.int (a + b))
  | .str a, .str b => if a.length + b.length ≤ 10000000 then some (.str (a ++ b)) else none
  | .lst a, .lst b => if a.length + b.length ≤ 100000 then some (.lst (a ++ b)) else none
  | .tup a, .tup b => if a.length + b.length ≤ 100000 then some (.tup (a ++ b)) else none
  | _, _ => none
def rAddA (K : PySem.W.Frag) : R2 := fun x y H Q => rI0 (fun i j => .int (i + j)) x y H Q ∨ (∃ i j, x = .str i ∧ y = .str j ∧ i.length + j.length ≤ sizeLine ∧ Q (.str (i ++ j)) H) ∨ rCat x y H Q ∨ rCatA K x y H Q
theorem op_addA {X : Cx} : OpR X (binaryOp .Add) (rAddA X.K) := op_add.or (op_add_str.or (op_cat.or op_catA))
theorem m_add {W : Wo} : OpM W (rAddA W.K) addD := by
  intro p F H u x y a b Q gd rx ry h
  obtain ⟨d, e, _⟩ := lft_some h
  unfold addD at e
  split at e
  · cases e
    exact .inl ⟨_, _, rx.int_, ry.int_, OpM.ret gd h rfl (.int _)⟩
  · rename_i i j
    split at e
    · rename_i hl
      cases e
      exact .inr (.inl ⟨i, j, rx.str_, ry.str_, Nat.le_trans hl (by decide), OpM.ret gd h (if_pos hl) (.str _)⟩)
    · cases e
  · rename_i xs ys
    split at e
    · rename_i hl
      cases e
      obtain ⟨a, vs, rfl, ha, ra⟩ := rx.lst_
      obtain ⟨b, ws, rfl, hb, rb⟩ := ry.lst_
      exact .inr (.inr (.inl ⟨a, b, vs, ws, rfl, rfl, gd.ex _ _ ha, gd.ex _ _ hb, sz5 (by rw [ra.1, rb.1]; exact hl), fun q hq => OpM.new gd h (if_pos hl) hq fun sm => Rep.mkL upd_same ((ra.mono sm).append (rb.mono sm))⟩))
    · cases e
  · rename_i xs ys
    split at e
    · rename_i hl
      cases e
      obtain ⟨a, vs, rfl, ha, ra⟩ := id rx.tup_
      obtain ⟨b, ws, rfl, hb, rb⟩ := id ry.tup_
      refine .inr (.inr (.inr ⟨a, b, vs, ws, rfl, rfl, sq_t gd.ex ha, sq_t gd.ex hb, sz5 (by rw [ra.1, rb.1]; exact hl), fun z => ?_, fun z z2 => ?_, fun z z2 q hq => OpM.new gd h (if_pos hl) hq fun sm => Rep.mkT upd_same ((ra.mono sm).append (rb.mono sm))⟩))
      · have e0 : xs = [] := List.eq_nil_of_length_eq_zero (by rw [← ra.1, z]; rfl)
        exact OpM.ret gd h (if_pos hl) (by rw [e0]; exact ry)
      · have e0 : ys = [] := List.eq_nil_of_length_eq_zero (by rw [← rb.1, z2]; rfl)
        exact OpM.ret gd h (if_pos hl) (by rw [e0, List.append_nil]; exact rx)
    · cases e
  · cases e
theorem Reps.rep {W : Wo} {p : Addr} {F : Hp} {vs : List V} {ds : List D} (r : Reps W p F vs ds) : ∀ n : Nat, Reps W p F (List.replicate n vs).flatten (List.replicate n ds).flatten
  | 0 => Reps.nil
  | n + 1 => by
    rw [List.replicate_succ, List.replicate_succ, List.flatten_cons, List.flatten_cons]
    exact r.append (Reps.rep r n)
def mulD : D → D → Option D
  | .int a, .int b => if mulC a b = true then some (.int (a * b)) else none
  | .lst a, .int k => if k ≤ 100000 ∧ -100000 ≤ k ∧ a.length * k.toNat ≤ 100000 then some (.lst (List.replicate k.toNat a).flatten) else none
  | _, _ => none
def rMulA : R2 := fun x y H Q => rI CMulA (fun i j => .int (i * j)) x y H Q ∨ rRep x y H Q
theorem op_mulA {X : Cx} : OpR X (binaryOp .Mult) rMulA := op_mulB.or op_rep
theorem m_mul {W : Wo} : OpM W rMulA mulD := by
  intro p F H u x y a b Q gd rx ry h
  obtain ⟨d, e, _⟩ := lft_some h
  unfold mulD at e
  split at e
  · split at e
    · rename_i hc
      cases e
      exact .inl ⟨_, _, rx.int_, ry.int_, mulC_ok hc, OpM.ret gd h (if_pos hc) (.int _)⟩
    · cases e
  · rename_i xs k
    split at e
    · rename_i hl
      cases e
      obtain ⟨a, vs, rfl, ha, ra⟩ := rx.lst_
      refine .inr ⟨a, k, vs, rfl, ry.int_, gd.ex _ _ ha, by omega, by omega, sz5 (by rw [ra.1]; exact hl.2.2), fun q hq => OpM.new gd h (if_pos hl) hq fun sm => Rep.mkL upd_same ((ra.mono sm).rep _)⟩
    · cases e
  · cases e

/-! ### == and != of plain data -/
mutual
def toPD : D → Option PyData
  | .non => some .none
  | .bl b => some (.bool b)
  | .int i => some (.int i)
  | .str x => some (.str x)
  | .tup ds => (toPDs ds).map .tuple
  | .lst ds => (toPDs ds).map .list
  | _ => none
def toPDs : List D → Option (List PyData)
  | [] => some []
  | d :: ds => match toPD d, toPDs ds with
    | some a, some as => some (a :: as)
    | _, _ => none
end
mutual
theorem dp_of {W : Wo} {p : Addr} {F H : Hp} (sm : Same F H) : ∀ (d : D) (v : V) (a : PyData), Rep W p F v d → toPD d = some a → Dp W.K H v a
  | .non, v, a, r, e => by cases e; cases r; exact .non
  | .bl b, v, a, r, e => by cases e; cases r; exact .bl b
  | .int i, v, a, r, e => by cases e; cases r; exact .int i
  | .str x, v, a, r, e => by cases e; cases r; exact .str x
  | .tup ds, v, a, r, e => by
    obtain ⟨q, vs, rfl, h, rs⟩ := r.tup_
    unfold toPD at e
    cases e1 : toPDs ds with
    | none => rw [e1] at e; cases e
    | some as => rw [e1] at e; cases e; exact .tup (sq_t sm h) (dps_of sm ds vs as rs e1)
  | .lst ds, v, a, r, e => by
    obtain ⟨q, vs, rfl, h, rs⟩ := r.lst_
    unfold toPD at e
    cases e1 : toPDs ds with
    | none => rw [e1] at e; cases e
    | some as => rw [e1] at e; cases e; exact .lst (SqL.of (sm _ _ h)) (dps_of sm ds vs as rs e1)
  | .obj _ _ _, v, a, r, e => by cases e
  | .pur, v, a, r, e => by cases e
  | .ty _, v, a, r, e => by cases e
  | .cls _, v, a, r, e => by cases e
theorem dps_of {W : Wo} {p : Addr} {F H : Hp} (sm : Same F H) : ∀ (ds : List D) (vs : List V) (as : List PyData), Reps W p F vs ds → toPDs ds = some as → DpAll W.K H vs as
  | [], vs, as, r, e => by cases e; rw [r.none]; exact .nil
  | d :: ds, vs, as, r, e => by
    obtain ⟨v, vr, rfl, r1, r2⟩ := r.uncons
    unfold toPDs at e
    cases e1 : toPD d with
    | none => rw [e1] at e; cases e
    | some a =>
      cases e2 : toPDs ds with
      | none => rw [e1, e2] at e; cases e
      | some as' =>
        rw [e1, e2] at e
        cases e
        exact .cons (dp_of sm d v a r1 e1) (dps_of sm ds vr as' r2 e2)
end
def eqD : D → D → Option Bool := fun x y => match toPD x, toPD y with
  | some a, some b => if SeqAt.shaped a = true ∧ SeqAt.shaped b = true then some (PyData.eqv a b) else none
  | _, _ => none
def eqMD : D → D → Option D := fun x y => (eqD x y).map .bl
def neMD : D → D → Option D := fun x y => (eqD x y).map fun b => .bl (!b)
theorem eqD_some {W : Wo} {p : Addr} {F H : Hp} {x y : V} {a b : D} {r : Bool} (sm : Same F H) (rx : Rep W p F x a) (ry : Rep W p F y b) (e : eqD a b = some r) : ∃ d d', Dp W.K H x d ∧ Dp W.K H y d' ∧ SeqAt.shaped d = true ∧ SeqAt.shaped d' = true ∧ PyData.eqv d d' = r := by
  unfold eqD at e
  split at e
  · rename_i d d' e1 e2
    split at e
    · rename_i hs
      cases e
      exact ⟨d, d', dp_of sm a x d rx e1, dp_of sm b y d' ry e2, hs.1, hs.2, rfl⟩
    · cases e
  · cases e
theorem m_eq {W : Wo} : OpM W (rEqD W.K) eqMD := by
  intro p F H u x y a b Q gd rx ry h
  obtain ⟨d, e, _⟩ := lft_some h
  unfold eqMD at e
  cases e1 : eqD a b with
  | none => rw [e1] at e; cases e
  | some r =>
    obtain ⟨d1, d2, h1, h2, h3, h4, h5⟩ := eqD_some gd.ex rx ry e1
    refine ⟨d1, d2, h1, h2, h3, h4, ?_⟩
    rw [h5]
    exact OpM.ret gd h (by unfold eqMD; rw [e1]; rfl) (.bl r)
theorem m_ne {W : Wo} : OpM W (rNeD W.K) neMD := by
  intro p F H u x y a b Q gd rx ry h
  obtain ⟨d, e, _⟩ := lft_some h
  unfold neMD at e
  cases e1 : eqD a b with
  | none => rw [e1] at e; cases e
  | some r =>
    obtain ⟨d1, d2, h1, h2, h3, h4, h5⟩ := eqD_some gd.ex rx ry e1
    refine ⟨d1, d2, h1, h2, h3, h4, ?_⟩
    rw [h5]
    exact OpM.ret gd h (by unfold neMD; rw [e1]; rfl) (.bl !r)

/-! ### is, items, slices -/
def isNonD : D → Bool
  | .non => true
  | _ => false
def isntD : D → D → Option D := fun x y => match y with
  | .non => some (.bl (!isNonD x))
  | .bl b => match x with
    | .bl a => some (.bl (!decide (a = b)))
    | _ => none
  | _ => none
theorem Rep.isNon {W : Wo} {p : Addr} {F : Hp} {v : V} {d : D} (r : Rep W p F v d) : decide (v = .non) = isNonD d := by
  cases r <;> rfl
def rIsntA : R2 := fun x y H Q => (y = .non ∧ Q (.bl (!decide (x = .non))) H) ∨ rNotB x y H Q
theorem op_isntA {X : Cx} : OpR X (compareOp .IsNot) rIsntA := op_notN.or op_notBl
theorem m_isnt {W : Wo} : OpM W rIsntA isntD := by
  intro p F H u x y a b Q gd rx ry h
  obtain ⟨d, e, _⟩ := lft_some h
  unfold isntD at e
  split at e
  · cases e
    exact .inl ⟨ry.non_, by rw [rx.isNon]; exact OpM.ret gd h rfl (.bl _)⟩
  · split at e
    · rename_i k l
      cases e
      exact .inr ⟨_, _, rx.bl_, ry.bl_, OpM.ret gd h rfl (.bl _)⟩
    · cases e
  · cases e
def ixD : D → D → Option D
  | .lst ds, .int i => atI ds i
  | .tup ds, .int i => atI ds i
  | .scr ns, .int i => (atI ns i).map .int
  | .str x, .int i => if x.length ≤ 10000000 then (atI x.cps.toList i).map fun c => .str ⟨#[c]⟩ else none
  | _, _ => none
theorem atI_map {α β : Type} (f : α → β) (l : List α) (i : Int) : L2.atI (l.map f) i = (L2.atI l i).map f := by
  unfold L2.atI
  rw [List.length_map]
  cases ixN l.length i with
  | none => rfl
  | some n => show (l.map f)[n]? = (l[n]?).map f; rw [List.getElem?_map]
theorem Reps.atI {W : Wo} {p : Addr} {F : Hp} {vs : List V} {ds : List D} {i : Int} {d : D} (r : Reps W p F vs ds) (h : atI ds i = some d) : ∃ v, L2.atI vs i = some v ∧ Rep W p F v d := by
  unfold L2.atI at h ⊢
  rw [r.1]
  cases hj : ixN ds.length i with
  | none => rw [hj] at h; cases h
  | some n =>
    rw [hj] at h
    obtain ⟨v, ev, rv⟩ := r.get h
    exact ⟨v, ev, rv⟩
theorem m_ix {W : Wo} : OpM W (rIx W.K) ixD := by
  intro p F H u x y a b Q gd rx ry h
  obtain ⟨d, e, _⟩ := lft_some h
  unfold ixD at e
  split at e
  · obtain ⟨q, vs, rfl, hq, r⟩ := rx.lst_
    obtain ⟨v, ev, rv⟩ := r.atI e
    exact .inl ⟨q, vs, _, v, rfl, ry.int_, SqL.of (gd.ex _ _ hq), ev, OpM.ret gd h e rv⟩
  · obtain ⟨q, vs, rfl, hq, r⟩ := rx.tup_
    obtain ⟨v, ev, rv⟩ := r.atI e
    exact .inr (.inl ⟨q, vs, _, v, rfl, ry.int_, sq_t gd.ex hq, ev, OpM.ret gd h e rv⟩)
  · rename_i ns i
    obtain ⟨q, rfl, hq⟩ := rx.scr_
    cases e1 : L2.atI ns i with
    | none => rw [e1] at e; cases e
    | some n =>
      rw [e1] at e
      cases e
      exact .inl ⟨q, _, _, .int n, rfl, ry.int_, sq_l gd.ex hq, by rw [atI_map, e1]; rfl, OpM.ret gd h (show (L2.atI ns i).map D.int = some (.int n) by rw [e1]; rfl) (.int n)⟩
  · rename_i z i
    split at e
    · rename_i hl
      cases e1 : L2.atI z.cps.toList i with
      | none => rw [e1] at e; cases e
      | some k =>
        rw [e1] at e
        cases e
        exact .inr (.inr ⟨z, i, k, rx.str_, ry.int_, Nat.le_trans hl (by decide), e1, OpM.ret gd h (show (if z.length ≤ 10000000 then (L2.atI z.cps.toList i).map fun c => D.str ⟨#[c]⟩ else none) = some (.str ⟨#[k]⟩) by rw [if_pos hl, e1]; rfl) (.str _)⟩)
    · cases e
  · cases e
end Mi

set_option Elab.async false
set_option linter.all false
set_option maxRecDepth 100000
set_option maxHeartbeats 2000000
/-! Mi6: mirrors of built-ins, slices, in, isinstance. -/
namespace Mi
open PySem PySem.Spec PyProof.Rows L2
variable [TB : Tabl]

/-! ### flat data -/
/-! ### slices -/
abbrev MO := Env → M (Option Int)
def rdO (c : Cf) (m : MO) : TO := fun σ H Q => ∃ F u ρ, Sta c u F H σ ρ ∧ After c.p F H (m ρ u) fun o _ _ H' => Q o H'
def mOn : MO := fun _ => M.pure none
def mOs (m : ME) : MO := fun ρ => M.bind (m ρ) fun d => match d with
  | .int i => M.pure (some i)
  | _ => lft none
def cutD (xs : List D) (lo hi : Option Int) : List D := (xs.drop (HT.sIx xs.length 0 lo)).take (HT.sIx xs.length xs.length hi - HT.sIx xs.length 0 lo)
def slD (d : D) (lo hi : Option Int) : Option D := match d with
  | .lst ds => some (.lst (cutD ds lo hi))
  | .tup ds => some (.tup (cutD ds lo hi))
  | .scr ns => some (.lst (cutD (ns.map .int) lo hi))
  | .str x => if x.length ≤ 10000000 then some (.str (cutS x lo hi)) else none
  | _ => none
def mSl (m : ME) (ml mh : MO) : ME := fun ρ => M.bind (m ρ) fun d => M.bind (ml ρ) fun lo => M.bind (mh ρ) fun hi => lft (slD d lo hi)
theorem Reps.drop {W : Wo} {p : Addr} {F : Hp} {vs : List V} {ds : List D} (r : Reps W p F vs ds) (n : Nat) : Reps W p F (vs.drop n) (ds.drop n) :=
  ⟨by simp [r.1], fun i v d h1 h2 => r.2 (n + i) v d (by rw [List.getElem?_drop] at h1; exact h1) (by rw [List.getElem?_drop] at h2; exact h2)⟩
theorem Reps.take {W : Wo} {p : Addr} {F : Hp} {vs : List V} {ds : List D} (r : Reps W p F vs ds) (n : Nat) : Reps W p F (vs.take n) (ds.take n) := by
  refine ⟨by simp [r.1], fun i v d h1 h2 => ?_⟩
  by_cases hi : i < n
  · rw [List.getElem?_take_of_lt hi] at h1 h2
    exact r.2 i v d h1 h2
  · rw [List.getElem?_eq_none (by simp; omega)] at h1
    cases h1
theorem Reps.cut {W : Wo} {p : Addr} {F : Hp} {vs : List V} {ds : List D} (r : Reps W p F vs ds) (lo hi : Option Int) : Reps W p F (cutV vs lo hi) (cutD ds lo hi) := by
  unfold cutV cutD
  rw [r.1]
  exact (r.drop _).take _
theorem Reps.reverse {W : Wo} {p : Addr} {F : Hp} {vs : List V} {ds : List D} (r : Reps W p F vs ds) : Reps W p F vs.reverse ds.reverse := by
  refine ⟨by simp [r.1], fun i v d h1 h2 => ?_⟩
  have hi : i < vs.length := by
    have := (List.getElem?_eq_some_iff.mp h1).1
    simpa using this
  rw [List.getElem?_reverse hi] at h1
  rw [List.getElem?_reverse (by rw [← r.1]; exact hi), ← r.1] at h2
  exact r.2 _ v d h1 h2
theorem reps_ints {W : Wo} {p : Addr} {F : Hp} (ns : List Int) : Reps W p F (ns.map V.int) (ns.map D.int) := by
  induction ns with
  | nil => exact Reps.nil
  | cons n ns ih => exact Reps.cons (.int n) ih
def rSlAll (K : PySem.W.Frag) : V → Option Int → Option Int → Hp → VK → Prop := fun x lo hi H Q => rSlL K x lo hi H Q ∨ rSlA K x lo hi H Q ∨ rSlS x lo hi H Q
theorem cutD_whole {xs : List D} {lo hi : Option Int} (h : HT.sIx xs.length 0 lo = 0 ∧ HT.sIx xs.length xs.length hi = xs.length) : cutD xs lo hi = xs := by
  unfold cutD
  rw [h.1, h.2]
  simp
section
variable {X : Cx} {c : Cf} {e : Expr} {lo hi : Option Expr} {m : ME} {ml mh : MO} {pos p2 : Pos}
theorem dOn : PO X none (rdO c mOn) := by
  have h := po_none (X := X)
  exact ⟨fun pins s σ H Q I ⟨F, u, ρ, S, q⟩ => h.run pins s σ H Q I (After.now S.gd q)⟩
theorem dOs (he : DE X c e m) : PO X (some e) (rdO c (mOs m)) := by
  have h := po_some he
  refine ⟨fun pins s σ H Q I ⟨F, u, ρ, S, q⟩ => h.run pins s σ H Q I ⟨F, u, ρ, S, (After.split q).imp fun d u1 F1 H1 _ s1 g1 h1 v rv => ?_⟩⟩
  cases d with
  | int i =>
    have h2 : After c.p F1 H1 (some (some i, u1)) (fun o _ _ H' => Q o H') := h1
    exact ⟨i, rv.int_, After.now g1 h2⟩
  | _ => exact False.elim h1
theorem sl_all : SlR X (rSlAll X.K) := sl_list.or (sl_tupA.or sl_str)
theorem dSl (he : DE X c e m) (hl : PO X lo (rdO c ml)) (hh : PO X hi (rdO c mh)) (hK : X.K = c.W.K := by rfl) : DE X c (.Subscript e (.Slice lo hi none p2) pos) (mSl m ml mh) :=
  (pe_slice sl_all he hl hh).imp fun σ H Q ⟨F, u, ρ, S, h⟩ => ⟨F, u, ρ, S, (After.split h).imp fun d u1 F1 H1 _ s1 g1 h1 v rv => ⟨F1, u1, ρ, S.step s1 g1, (After.split h1).imp fun l u2 F2 H2 _ s2 g2 h2 => ⟨F2, u2, ρ, (S.step s1 g1).step s2 g2, (After.split h2).imp fun r u3 F3 H3 _ s3 g3 h3 => by
    have rv := rv.mono (s2.ef.trans s3.ef)
    obtain ⟨z, e1, _⟩ := lft_some h3
    rw [hK]
    unfold slD at e1
    split at e1
    · cases e1
      obtain ⟨a, vs, rfl, ha, ra⟩ := rv.lst_
      exact .inl ⟨a, vs, rfl, SqL.of (g3.ex _ _ ha), fun q hq => OpM.new g3 h3 rfl hq fun sm => Rep.mkL upd_same ((ra.mono sm).cut l r)⟩
    · cases e1
      obtain ⟨a, vs, rfl, ha, ra⟩ := id rv.tup_
      refine .inr (.inl ⟨a, vs, rfl, sq_t g3.ex ha, fun hw => ?_, fun _ q hq => OpM.new g3 h3 rfl hq fun sm => Rep.mkT upd_same ((ra.mono sm).cut l r)⟩)
      rw [ra.1] at hw
      exact OpM.ret g3 h3 rfl (by rw [cutD_whole hw]; exact rv)
    · rename_i ns _h _h2
      cases e1
      obtain ⟨a, rfl, ha⟩ := rv.scr_
      exact .inl ⟨a, _, rfl, sq_l g3.ex ha, fun q hq => OpM.new g3 h3 rfl hq fun sm => Rep.mkL upd_same ((reps_ints ns).cut l r)⟩
    · rename_i x _h _h2
      split at e1
      · rename_i hl
        cases e1
        exact .inr (.inr ⟨x, rv.str_, Nat.le_trans hl (by decide), OpM.ret g3 h3 (if_pos hl) (.str _)⟩)
      · cases e1
    · cases e1⟩⟩⟩
def revD : D → Option D
  | .lst ds => some (.lst ds.reverse)
  | _ => none
theorem dRevL {k : Nat} {p1 p3 : Pos} (he : DE X c e m) (hK : X.K = c.W.K := by rfl) : DE X c (.Subscript e (.Slice none none (some (.UnaryOp .USub (.Constant (.int 1) k p1) p2)) p3) pos) (mUn revD m) :=
  (pe_revL he).imp fun σ H Q ⟨F, u, ρ, S, h⟩ => ⟨F, u, ρ, S, (After.split h).imp fun d u1 F1 H1 _ s1 g1 h1 v rv => by
    obtain ⟨z, e1, _⟩ := lft_some h1
    cases d with
    | lst ds =>
      cases e1
      obtain ⟨a, vs, rfl, ha, ra⟩ := rv.lst_
      exact ⟨a, vs, rfl, SqL.of (g1.ex _ _ ha), fun q hq => OpM.new g1 h1 rfl hq fun sm => Rep.mkL upd_same (ra.mono sm).reverse⟩
    | _ => cases e1⟩
end

/-! ### built-ins -/
def lenD : List D → Option D := fun ds => match ds with
  | [.lst xs] => some (.int xs.length)
  | [.tup xs] => some (.int xs.length)
  | [.scr ns] => some (.int ns.length)
  | [.str x] => if x.length ≤ 10000000 then some (.int x.length) else none
  | _ => none
def rLenA (K : PySem.W.Frag) : List V → Hp → VK → Prop := fun xs H Q => (∃ p ys, xs = [.ref p] ∧ (SqL K H p ys ∨ SqT K H p ys) ∧ Q (.int ys.length) H) ∨ ∃ z, xs = [.str z] ∧ z.length ≤ sizeLine ∧ Q (.int z.length) H
theorem call_lenA {X : Cx} : CallR X (.builtin "len") (rLenA X.K) := call_len_seq.or call_len_str
theorem Reps.one {W : Wo} {p : Addr} {F : Hp} {vs : List V} {d : D} (r : Reps W p F vs [d]) : ∃ v, vs = [v] ∧ Rep W p F v d := by
  obtain ⟨v, vr, rfl, h, r2⟩ := r.uncons
  rw [r2.none]
  exact ⟨v, rfl, h⟩
theorem Reps.two {W : Wo} {p : Addr} {F : Hp} {vs : List V} {a b : D} (r : Reps W p F vs [a, b]) : ∃ v w, vs = [v, w] ∧ Rep W p F v a ∧ Rep W p F w b := by
  obtain ⟨v, vr, rfl, h, r2⟩ := r.uncons
  obtain ⟨w, rfl, h2⟩ := r2.one
  exact ⟨v, w, rfl, h, h2⟩
theorem m_len {W : Wo} : CallM W (rLenA W.K) lenD := by
  intro p F H u xs as Q gd r h
  obtain ⟨d, e, _⟩ := lft_some h
  unfold lenD at e
  split at e
  · cases e
    obtain ⟨v, rfl, rv⟩ := r.one
    obtain ⟨q, vs, rfl, hq, rs⟩ := rv.lst_
    exact .inl ⟨q, vs, rfl, .inl (SqL.of (gd.ex _ _ hq)), OpM.ret gd h rfl (by rw [rs.1]; exact .int _)⟩
  · cases e
    obtain ⟨v, rfl, rv⟩ := r.one
    obtain ⟨q, vs, rfl, hq, rs⟩ := rv.tup_
    exact .inl ⟨q, vs, rfl, .inr (sq_t gd.ex hq), OpM.ret gd h rfl (by rw [rs.1]; exact .int _)⟩
  · rename_i ns
    cases e
    obtain ⟨v, rfl, rv⟩ := r.one
    obtain ⟨q, rfl, hq⟩ := rv.scr_
    exact .inl ⟨q, _, rfl, .inl (sq_l gd.ex hq), OpM.ret gd h rfl (by rw [List.length_map]; exact .int _)⟩
  · rename_i x
    split at e
    · rename_i hl
      cases e
      obtain ⟨v, rfl, rv⟩ := r.one
      exact .inr ⟨x, by rw [rv.str_], Nat.le_trans hl (by decide), OpM.ret gd h (if_pos hl) (.int _)⟩
    · cases e
  · cases e
/-- ints out of data -/
def intsD : List D → Option (List Int)
  | [] => some []
  | .int i :: ds => (intsD ds).map (i :: ·)
  | _ => none
theorem intsD_rep {W : Wo} {p : Addr} {F : Hp} : ∀ {vs : List V} {ds : List D} {ns : List Int}, Reps W p F vs ds → intsD ds = some ns → vs = ns.map V.int
  | vs, [], ns, r, h => by cases h; exact r.none
  | vs, d :: ds, ns, r, h => by
    obtain ⟨v, vr, rfl, r1, r2⟩ := r.uncons
    cases d with
    | int i =>
      have h' : (intsD ds).map (i :: ·) = some ns := h
      cases e : intsD ds with
      | none => rw [e] at h'; cases h'
      | some ms =>
        rw [e] at h'
        cases h'
        rw [r1.int_, intsD_rep r2 e]
        rfl
    | _ => cases h
theorem intsD_map (ns : List Int) : intsD (ns.map D.int) = some ns := by
  induction ns with
  | nil => rfl
  | cons n ns ih => show (intsD (ns.map D.int)).map (n :: ·) = _; rw [ih]; rfl
/-- the greatest, the least of a list -/
def maxL : List Int → Int
  | [] => 0
  | [a] => a
  | a :: b :: r => max a (maxL (b :: r))
def minL : List Int → Int
  | [] => 0
  | [a] => a
  | a :: b :: r => min a (minL (b :: r))
theorem maxL_mem : ∀ {ns : List Int}, ns ≠ [] → maxL ns ∈ ns ∧ ∀ y ∈ ns, y ≤ maxL ns
  | [], h => absurd rfl h
  | [a], _ => by simp [maxL]
  | a :: b :: r, _ => by
    obtain ⟨h1, h2⟩ := maxL_mem (ns := b :: r) (by simp)
    refine ⟨?_, fun y hy => ?_⟩
    · show max a (maxL (b :: r)) ∈ a :: b :: r
      by_cases hm : a ≤ maxL (b :: r)
      · rw [Int.max_eq_right hm]; exact List.mem_cons_of_mem _ h1
      · rw [Int.max_eq_left (by omega)]; exact List.mem_cons_self ..
    · show y ≤ max a (maxL (b :: r))
      rcases List.mem_cons.mp hy with rfl | hy
      · exact Int.le_max_left ..
      · exact Int.le_trans (h2 y hy) (Int.le_max_right ..)
theorem minL_mem : ∀ {ns : List Int}, ns ≠ [] → minL ns ∈ ns ∧ ∀ y ∈ ns, minL ns ≤ y
  | [], h => absurd rfl h
  | [a], _ => by simp [minL]
  | a :: b :: r, _ => by
    obtain ⟨h1, h2⟩ := minL_mem (ns := b :: r) (by simp)
    refine ⟨?_, fun y hy => ?_⟩
    · show min a (minL (b :: r)) ∈ a :: b :: r
      by_cases hm : minL (b :: r) ≤ a
      · rw [Int.min_eq_right hm]; exact List.mem_cons_of_mem _ h1
      · rw [Int.min_eq_left (by omega)]; exact List.mem_cons_self ..
    · show min a (minL (b :: r)) ≤ y
      rcases List.mem_cons.mp hy with rfl | hy
      · exact Int.min_le_left ..
      · exact Int.le_trans (Int.min_le_right ..) (h2 y hy)
theorem maxL_is {ns : List Int} {m : Int} (h1 : m ∈ ns) (h2 : ∀ y ∈ ns, y ≤ m) : maxL ns = m := by
  have hne : ns ≠ [] := fun e => by rw [e] at h1; cases h1
  obtain ⟨h3, h4⟩ := maxL_mem hne
  have := h2 _ h3
  have := h4 _ h1
  omega
theorem minL_is {ns : List Int} {m : Int} (h1 : m ∈ ns) (h2 : ∀ y ∈ ns, m ≤ y) : minL ns = m := by
  have hne : ns ≠ [] := fun e => by rw [e] at h1; cases h1
  obtain ⟨h3, h4⟩ := minL_mem hne
  have := h2 _ h3
  have := h4 _ h1
  omega
def maxD : List D → Option D := fun ds => match ds with
  | [.lst xs] => match intsD xs with
    | some (n :: ns) => some (.int (maxL (n :: ns)))
    | _ => none
  | [.int a, .int b] => some (.int (if b > a then b else a))
  | _ => none
def minD : List D → Option D := fun ds => match ds with
  | [.lst xs] => match intsD xs with
    | some (n :: ns) => some (.int (minL (n :: ns)))
    | _ => none
  | [.int a, .int b] => some (.int (if b < a then b else a))
  | _ => none
def rMaxA (K : PySem.W.Frag) : List V → Hp → VK → Prop := fun vs H Q => rMax K vs H Q ∨ ∃ i j, vs = [.int i, .int j] ∧ Q (.int (if j > i then j else i)) H
def rMinA (K : PySem.W.Frag) : List V → Hp → VK → Prop := fun vs H Q => rMin K vs H Q ∨ ∃ i j, vs = [.int i, .int j] ∧ Q (.int (if j < i then j else i)) H
theorem cr_maxA {X : Cx} (hc : X.calm = true) : CallR X (.builtin "max") (rMaxA X.K) := (cr_max hc).or (call_max2 hc)
theorem cr_minA {X : Cx} (hc : X.calm = true) : CallR X (.builtin "min") (rMinA X.K) := (cr_min hc).or (call_min2 hc)
theorem m_max {W : Wo} : CallM W (rMaxA W.K) maxD := by
  intro p F H u xs as Q gd r h
  obtain ⟨d, e, _⟩ := lft_some h
  have e0 := e
  unfold maxD at e
  split at e
  · rename_i ds
    split at e
    · rename_i n ns e1
      cases e
      obtain ⟨v, rfl, rv⟩ := r.one
      obtain ⟨q, vs, rfl, hq, rs⟩ := rv.lst_
      refine .inl ⟨q, n :: ns, rfl, SqL.of (by rw [← intsD_rep rs e1]; exact gd.ex _ _ hq), by simp, fun m hm hle => ?_⟩
      rw [← maxL_is hm hle]
      exact OpM.ret gd h e0 (.int _)
    · cases e
  · rename_i i j
    cases e
    obtain ⟨v, w, rfl, rv, rw⟩ := r.two
    exact .inr ⟨i, j, by rw [rv.int_, rw.int_], OpM.ret gd h e0 (.int _)⟩
  · cases e
theorem m_min {W : Wo} : CallM W (rMinA W.K) minD := by
  intro p F H u xs as Q gd r h
  obtain ⟨d, e, _⟩ := lft_some h
  have e0 := e
  unfold minD at e
  split at e
  · rename_i ds
    split at e
    · rename_i n ns e1
      cases e
      obtain ⟨v, rfl, rv⟩ := r.one
      obtain ⟨q, vs, rfl, hq, rs⟩ := rv.lst_
      refine .inl ⟨q, n :: ns, rfl, SqL.of (by rw [← intsD_rep rs e1]; exact gd.ex _ _ hq), by simp, fun m hm hle => ?_⟩
      rw [← minL_is hm hle]
      exact OpM.ret gd h e0 (.int _)
    · cases e
  · rename_i i j
    cases e
    obtain ⟨v, w, rfl, rv, rw⟩ := r.two
    exact .inr ⟨i, j, by rw [rv.int_, rw.int_], OpM.ret gd h e0 (.int _)⟩
  · cases e
def blsD : List D → Option (List Bool)
  | [] => some []
  | .bl i :: ds => (blsD ds).map (i :: ·)
  | _ => none
theorem blsD_rep {W : Wo} {p : Addr} {F : Hp} : ∀ {vs : List V} {ds : List D} {ns : List Bool}, Reps W p F vs ds → blsD ds = some ns → vs = ns.map V.bl
  | vs, [], ns, r, h => by cases h; exact r.none
  | vs, d :: ds, ns, r, h => by
    obtain ⟨v, vr, rfl, r1, r2⟩ := r.uncons
    cases d with
    | bl i =>
      have h' : (blsD ds).map (i :: ·) = some ns := h
      cases e : blsD ds with
      | none => rw [e] at h'; cases h'
      | some ms =>
        rw [e] at h'
        cases h'
        rw [r1.bl_, blsD_rep r2 e]
        rfl
    | _ => cases h
theorem blsD_map (ns : List Bool) : blsD (ns.map D.bl) = some ns := by
  induction ns with
  | nil => rfl
  | cons n ns ih => show (blsD (ns.map D.bl)).map (n :: ·) = _; rw [ih]; rfl
def allD : List D → Option D := fun ds => match ds with
  | [.lst xs] => (blsD xs).map fun bs => .bl (bs.all id)
  | _ => none
theorem m_all {W : Wo} : CallM W (rAll W.K) allD := by
  intro p F H u xs as Q gd r h
  obtain ⟨d, e, _⟩ := lft_some h
  have e0 := e
  unfold allD at e
  split at e
  · rename_i ds
    cases e1 : blsD ds with
    | none => rw [e1] at e; cases e
    | some bs =>
      rw [e1] at e
      cases e
      obtain ⟨v, rfl, rv⟩ := r.one
      obtain ⟨q, vs, rfl, hq, rs⟩ := rv.lst_
      exact ⟨q, bs, rfl, SqL.of (by rw [← blsD_rep rs e1]; exact gd.ex _ _ hq), OpM.ret gd h e0 (.bl _)⟩
  · cases e
/-- int(n) of an int -/
def int1D : List D → Option D := fun ds => match ds with
  | [.int i] => some (.int i)
  | _ => none
theorem m_int1 {W : Wo} : CallM W (fun xs H Q => (∃ i, xs = [.int i] ∧ Q (.int i) H) ∨ ∃ k, xs = [.bl k] ∧ Q (.int (if k then 1 else 0)) H) int1D := by
  intro p F H u xs as Q gd r h
  obtain ⟨d, e, _⟩ := lft_some h
  have e0 := e
  unfold int1D at e
  split at e
  · rename_i i
    cases e
    obtain ⟨v, rfl, rv⟩ := r.one
    exact .inl ⟨i, by rw [rv.int_], OpM.ret gd h e0 (.int _)⟩
  · cases e
def strID : List D → Option D := fun ds => match ds with
  | [.int i] => if i.natAbs.log2 < 1920 then some (.str (toString i)) else none
  | _ => none
theorem m_strI {W : Wo} : CallM W (fun xs H Q => ∃ i, xs = [.int i] ∧ i.natAbs.log2 < 1920 ∧ Q (.str (toString i)) H) strID := by
  intro p F H u xs as Q gd r h
  obtain ⟨d, e, _⟩ := lft_some h
  have e0 := e
  unfold strID at e
  split at e
  · rename_i i
    split at e
    · rename_i hl
      cases e
      obtain ⟨v, rfl, rv⟩ := r.one
      exact ⟨i, by rw [rv.int_], hl, OpM.ret gd h e0 (.str _)⟩
    · cases e
  · cases e
def tupD : List D → Option D := fun ds => match ds with
  | [.lst xs] => some (.tup xs)
  | [.tup xs] => some (.tup xs)
  | _ => none
theorem m_tup {W : Wo} : CallM W (fun xs H Q => ∃ p ys, xs = [.ref p] ∧ ((SqL W.K H p ys ∧ ∀ l, H l = none → Q (.ref l) (upd H l (.tup ys))) ∨ (SqT W.K H p ys ∧ Q (.ref p) H))) tupD := by
  intro p F H u xs as Q gd r h
  obtain ⟨d, e, _⟩ := lft_some h
  have e0 := e
  unfold tupD at e
  split at e
  · cases e
    obtain ⟨v, rfl, rv⟩ := r.one
    obtain ⟨q, vs, rfl, hq, rs⟩ := rv.lst_
    exact ⟨q, vs, rfl, .inl ⟨SqL.of (gd.ex _ _ hq), fun l hl => OpM.new gd h e0 hl fun sm => Rep.mkT upd_same (rs.mono sm)⟩⟩
  · cases e
    obtain ⟨v, rfl, rv⟩ := r.one
    obtain ⟨q, vs, rfl, hq, rs⟩ := id rv.tup_
    exact ⟨q, vs, rfl, .inr ⟨sq_t gd.ex hq, OpM.ret gd h e0 rv⟩⟩
  · cases e
def dmC (i j : Int) : Bool := decide (0 < j) && !Builtin.divisionGoesByPylong i j
def dmD : List D → Option D := fun ds => match ds with
  | [.int i, .int j] => if dmC i j = true then some (.tup [.int (i / j), .int (i % j)]) else none
  | _ => none
theorem m_dm {W : Wo} : CallM W (fun xs H Q => ∃ i j, xs = [.int i, .int j] ∧ CDivP i j ∧ ∀ p, H p = none → Q (.ref p) (upd H p (.tup [.int (i / j), .int (i % j)]))) dmD := by
  intro p F H u xs as Q gd r h
  obtain ⟨d, e, _⟩ := lft_some h
  have e0 := e
  unfold dmD at e
  split at e
  · rename_i i j
    split at e
    · rename_i hc
      cases e
      obtain ⟨v, w, rfl, rv, rw⟩ := r.two
      have hcc := Bool.and_eq_true_iff.mp (show (decide (0 < j) && !Builtin.divisionGoesByPylong i j) = true from hc)
      exact ⟨i, j, by rw [rv.int_, rw.int_], ⟨of_decide_eq_true hcc.1, by have := hcc.2; simpa using this⟩, fun l hl => OpM.new gd h e0 hl fun sm => Rep.mkT upd_same (Reps.cons (.int _) (Reps.cons (.int _) Reps.nil))⟩
    · cases e
  · cases e

/-! ### isinstance -/
def tyN : D → Option String
  | .non => some "NoneType"
  | .bl _ => some "bool"
  | .int _ => some "int"
  | .str _ => some "str"
  | .tup _ => some "tuple"
  | .lst _ => some "list"
  | .dct _ _ => some "dict"
  | _ => none
/-- what isinstance asks of the classes -/
structure IsiOk (W : Wo) : Prop where
  ty : ∀ c ∈ W.cs, ∀ (H : Hp) (a dx : Addr) (fs : List (Str × V)), H a = some (.ins (W.cl c) dx fs) → TyOf W.K H (.ref a) (.ref (W.cl c))
  own : ∀ c ∈ W.cs, ∀ k ∈ W.cs, PySem.W.kitOne W.K (.ref (W.cl c)) (.ref (W.cl k)) = some (subC c k)
  bi : ∀ a ∈ ["NoneType", "bool", "int", "str", "tuple", "list", "dict"], ∀ k ∈ W.cs, PySem.W.kitOne W.K (.type a) (.ref (W.cl k)) = some false
  ob : ∀ c ∈ W.cs, ∀ n ∈ ["int", "bool", "str", "tuple", "list"], PySem.W.kitOne W.K (.ref (W.cl c)) (.type n) = some false
def isiB (x y : D) : Option Bool := match y with
  | .ty n => match tyN x with
    | some a => if decide (n ∈ ["int", "bool", "str", "tuple", "list"]) = true then kitB a n else none
    | none => match x with
      | .obj _ _ _ => if n ∈ ["int", "bool", "str", "tuple", "list"] then some false else none
      | _ => none
  | .cls k => match tyN x with
    | some _ => some false
    | none => match x with
      | .obj c _ _ => some (subC c k)
      | _ => none
  | _ => none
def isiD : List D → Option D := fun ds => match ds with
  | [x, y] => (isiB x y).map .bl
  | _ => none
theorem tyN_mem {x : D} {a : String} (h : tyN x = some a) : a ∈ ["NoneType", "bool", "int", "str", "tuple", "list", "dict"] := by
  cases x <;> first | (cases h; decide) | cases h
theorem tyN_ty {W : Wo} {p : Addr} {F H : Hp} {v : V} {x : D} {a : String} (sm : Same F H) (r : Rep W p F v x) (h : tyN x = some a) : TyX W.K H v (.type a) := by
  cases r with
  | non => cases h; exact .base .non
  | bl b => cases h; exact .base (.bl b)
  | int i => cases h; exact .base (.int i)
  | str i => cases h; exact .base (.str i)
  | tup ht _ _ =>
    cases h
    rcases ht with (ht | ⟨o, ht⟩) | ⟨o, its, n, hk, hc, _⟩
    · exact .base (.tup (sm _ _ ht))
    · exact .fTuple (sm _ _ ht)
    · exact .kTuple hk hc
  | lst ht _ _ => cases h; exact .base (.lst (sm _ _ ht))
  | dct ht _ _ => cases h; exact .base (.dK (sm _ _ ht))
  | _ => cases h
theorem m_isi {W : Wo} (I : IsiOk W) : CallM W (rIsi W.K) isiD := by
  intro p F H u xs as Q gd r h
  obtain ⟨d, e, _⟩ := lft_some h
  have e0 := e
  unfold isiD at e
  split at e
  case h_2 => cases e
  rename_i x y
  obtain ⟨v, w, rfl, rv, rw⟩ := r.two
  cases e1 : isiB x y with
  | none => rw [e1] at e; cases e
  | some b =>
    rw [e1] at e
    cases e
    have fin : Q (.bl b) H := OpM.ret gd h e0 (.bl b)
    unfold isiB at e1
    split at e1
    · rename_i n
      have hw := rw.ty_
      subst hw
      split at e1
      · rename_i a ha
        split at e1
        · exact ⟨v, .ty n, .type a, .type n, b, rfl, .ty n, tyN_ty gd.ex rv ha, kit_ty e1, fin⟩
        · cases e1
      · split at e1
        · rename_i c ks ds _
          split at e1
          · rename_i hh
            cases e1
            have hcc := rv.objc
            obtain ⟨a, dx, vs, rfl, ha, _⟩ := rv.obj_
            exact ⟨_, .ty n, _, .type n, false, rfl, .ty n, .base (I.ty c hcc H a dx _ (gd.ex _ _ ha)), I.ob c hcc n hh, fin⟩
          · cases e1
        · cases e1
    · rename_i k
      obtain ⟨hw, hk⟩ := rw.cls_
      subst hw
      split at e1
      · rename_i a ha
        cases e1
        exact ⟨v, .ref (W.cl k), .type a, .ref (W.cl k), false, rfl, .own _, tyN_ty gd.ex rv ha, I.bi a (tyN_mem ha) k hk, fin⟩
      · split at e1
        · rename_i c ks ds _
          cases e1
          have hcc := rv.objc
          obtain ⟨a, dx, vs, rfl, ha, _⟩ := rv.obj_
          exact ⟨_, .ref (W.cl k), _, .ref (W.cl k), _, rfl, .own _, .base (I.ty c hcc H a dx _ (gd.ex _ _ ha)), I.own c hcc k hk, fin⟩
        · cases e1
    · cases e1
end Mi

set_option Elab.async false
set_option linter.all false
set_option maxRecDepth 100000
set_option maxHeartbeats 4000000
/-! Mi7: objects made, == and != by an own __eq__, len by an own __len__, static methods, enumerate and zip of tuples. -/
namespace PySem.W
open PySem PySem.Calls PyProof.Rows Builtin
section
variable {prog : Program} {w : World} {A : Around} {E : Value → Shared → Prop} {s : Shared} {K : Frag} {x C L f : Addr} {h₀ : Heap} {m : Str → Option Value} {ox : Obj} {od : Option Obj} {b tb : Value}
theorem mi_bind_ne (self : Value) : bindSpecial (.builtin "object.__ne__") self = pure (.builtin "object.__ne__", [self]) :=
  (Slot.of (T := "object") (name := "__ne__") (owner := "object") (n := "__ne__") (by rw [typeLookup_type, builtinLookup_eq_fast]; kernel_rfl) (by decide +kernel) (by decide +kernel) (by decide +kernel)
    (.inl (by decide +kernel)) (by rw [isSubtype_type]; kernel_rfl)).bind self
theorem mi_plain_ne : plainId "object.__ne__" = true := by decide +kernel
/-- x != b where x's class has an own __eq__ and no __ne__ -/
theorem mi_ne_K {Q : Value → Shared → Prop} (hu : A.units + 1 < cLine) (F : Fr h₀ L s.heap m) (X₀ : K.In h₀) (I : InstAt s.heap x ox C od) (hb : Looks (model prog w) s.heap (typeOf b) tb) (hn : notFirst K C tb = true)
    (hs : findIn K (.ref C) "__ne__" = some (some (.builtin "object.__ne__"))) (he : findIn K (.ref C) "__eq__" = some (some (.ref f))) (hf : isFn K (.ref f) = true) (hm : mroIn K C (.type "object") = some true)
    (h : wpAny (model prog w) A.in1 (call (.ref f) [.ref x, b]) (fun v s' => ∃ c, v = .bool c ∧ Q (.bool (!c)) s') E s) : wpAny (model prog w) A (richCompare .NotEq (.ref x) b) Q E s := by
  have X := X₀.keeps F.keep
  have inst : Looks (model prog w) s.heap (isInstance (.ref x) (.type "object")) true := I.type.andThen (looks_mroIn X hm)
  have one : wpAny (model prog w) A (tryCompare (.ref x) "__ne__" b) (fun r s' => ∃ v, r = some v ∧ Q v s') E s := by
    unfold tryCompare
    refine wpAny_bind ?_
    simp only [callSpecialIfBound?, bindSpecialIfBound?]
    refine wpAny_holding (wpAny_bind (wpAny_bind (wpAny_bind (I.type.here ((looks_findIn X hs).here ?_)))))
    simp only [mi_bind_ne]
    refine wpAny_bind (wpAny_askSetting (wpAny_ite ?_))
    have fin : wpAny (model prog w) A (call (.builtin "object.__ne__") ([.ref x] ++ [b]) >>= fun v => pure (some v)) (fun r s' => wpAny (model prog w) A (match r with
        | some .notImplemented | none => pure none
        | some v => pure (some v)) (fun r s' => ∃ v, r = some v ∧ Q v s') E s') E s := by
      refine wpAny_bind (wpAny_call (codeAny_call_builtin mi_plain_ne PySem.F.cmpEntry_ne (check_slot PySem.F.cmpKind_ne PySem.F.cmpSplit_ne inst (PySem.F.cmpArgs_ne _ _) ?_)))
      unfold Builtin.«object.__ne__»
      refine wpAny_bind (m := slotArgs "__ne__" 1 _) (wpAny_pure ?_)
      refine wpAny_bind (wpAny_cRoomFor hu ?_)
      refine wpAny_bind (m := callSpecialIfBound? (.ref x) (Str.ofString "__eq__") [b]) (ifBound_K X I he hf (wpAny_mono h (fun v s' hv => ?_) fun _ _ e => e))
      obtain ⟨c, rfl, hq⟩ := hv
      refine wpAny_bind (wpAny_truthy_bool ?_)
      exact wpAny_pure (wpAny_pure (wpAny_pure ⟨_, rfl, hq⟩))
    split
    · exact wpAny_bind (wpAny_pure (wpAny_pure (by exact fin)))
    · exact wpAny_tryCatch (wpAny_bind (wpAny_pure (wpAny_pure (by exact fin))))
  unfold richCompare
  simp only [oneThing_ref]
  refine wpAny_holding (wpAny_bind (wpAny_cRoomFor (by omega) ?_))
  refine wpAny_bind (I.type.here (wpAny_bind (hb.here ?_)))
  split
  · rename_i q
    have e : subIn K tb (.ref C) = some false := by
      rcases Bool.or_eq_true_iff.mp hn with e | e
      · rw [beq_iff_eq.mp e] at q; simp at q
      · exact beq_iff_eq.mp e
    refine wpAny_bind ((looks_subIn X e).here ?_)
    simp only [Bool.false_eq_true, if_false]
    refine wpAny_bind (wpAny_mono one (fun r s' z => ?_) fun _ _ e => e)
    obtain ⟨v, rfl, hq⟩ := z
    exact wpAny_pure hq
  · refine wpAny_bind (wpAny_pure ?_)
    simp only [Bool.false_eq_true, if_false]
    refine wpAny_bind (wpAny_mono one (fun r s' z => ?_) fun _ _ e => e)
    obtain ⟨v, rfl, hq⟩ := z
    exact wpAny_pure hq
end
end PySem.W

set_option Elab.async false
set_option linter.all false
set_option maxRecDepth 100000
set_option maxHeartbeats 4000000
/-! Mi8: objects made, == and != by an own __eq__, len by an own __len__, static methods. -/
namespace Mi
open PySem PySem.Spec PyProof.Rows L2
variable [TB : Tabl]

/-! ### a def called from within a built-in -/
section
variable {X : Cx} {k : Nat} {f : Addr} {fd : FuncData} {ps : List Str} {sp : Sp}
theorem call_at {A : Around} {pins : List (Addr × Obj)} {σ : L2.St} {H : Hp} {s : Shared} {us : List Value} {vs : List V} {Q : VK} {E' : Value → Shared → Prop} (G : FnOk X.prog X.w X.K X.mg X.base CX0 k f fd ps sp) (hr : Room k A) (hfr : A.frames = X.A.frames) (hb : Binds X.K fd ps [])
    (I : Inv X pins σ H s) (r : Vals vs us) (h : sp vs H Q E0) : wpAny (model X.prog X.w) A (call (.ref f) us) (EP X pins σ Q) E' s := by
  have hl := G.len _ _ _ _ h
  have e0 : Env0 X.prog X.w X.K X.mg X.base A X.stack s H := by
    have e := I.env0
    exact ⟨by rw [hfr]; exact e.frames, e.mod, e.bs, e.bsz, e.funs, e.frf, e.hok, e.bare⟩
  refine wpAny_call (codeAny_mono (G.run A X.stack s H ⟨us, []⟩ us vs Q E0 hr e0 (by
    have := hb s us I.kIn (by simpa [← r.length] using hl)
    simpa using this) r h) fun r s' hq => ?_)
  cases r with
  | error e => exact False.elim hq
  | ok fl =>
    cases fl with
    | ret u => exact I.after hq
    | next => exact False.elim hq
    | brk => exact False.elim hq
    | cont => exact False.elim hq
end

/-! ### == and != of two objects of one class -/
/-- what is asked of the class for == -/
structure EqC (K : PySem.W.Frag) (C f : Addr) : Prop where
  eq : PySem.W.findIn K (.ref C) "__eq__" = some (some (.ref f))
  fn : PySem.W.isFn K (.ref f) = true
  ne : PySem.W.findIn K (.ref C) "__ne__" = some (some (.builtin "object.__ne__"))
  mro : PySem.W.mroIn K C (.type "object") = some true
def mEqO (k : Str) (mf : List D → M D) (ma mb : ME) : ME := fun ρ => M.bind (ma ρ) fun x => M.bind (mb ρ) fun y => match x, y with
  | .obj c ks ds, .obj c' ks' ds' => if c = k ∧ c' = k then M.bind (mf [.obj c ks ds, .obj c' ks' ds']) fun r => match r with
    | .bl b => M.pure (.bl b)
    | _ => lft none
    else lft none
  | _, _ => lft none
def mNeO (k : Str) (mf : List D → M D) (ma mb : ME) : ME := fun ρ => M.bind (ma ρ) fun x => M.bind (mb ρ) fun y => match x, y with
  | .obj c ks ds, .obj c' ks' ds' => if c = k ∧ c' = k then M.bind (mf [.obj c ks ds, .obj c' ks' ds']) fun r => match r with
    | .bl b => M.pure (.bl (!b))
    | _ => lft none
    else lft none
  | _, _ => lft none
/-- both operands are instances of the class at C, then its own == -/
def rOwn (C : Addr) (g : Bool → Bool) (sp : Sp) : R2 := fun x y H Q => ∃ a b dx dy fs gs, x = .ref a ∧ y = .ref b ∧ H a = some (.ins C dx fs) ∧ H b = some (.ins C dy gs) ∧ sp [.ref a, .ref b] H (fun v H' => ∃ c, v = .bl c ∧ Q (.bl (g c)) H') E0
section
variable {X : Cx} {k : Nat} {f C : Addr} {fd : FuncData} {ps : List Str} {sp : Sp}
theorem op_eqOwn (G : FnOk X.prog X.w X.K X.mg X.base CX0 k f fd ps sp) (hr : Room k X.A) (hb : Binds X.K fd ps []) (hc : EqC X.K C f) : OpR X (compareOp .Eq) (rOwn C id sp) := by
  intro pins s σ H x y v u Q I rx ry h
  obtain ⟨a, b, dx, dy, fs, gs, rfl, rfl, ha, hb', q⟩ := h
  cases rx
  cases ry
  obtain ⟨mA, J, _⟩ := ins_get I.hok ha
  obtain ⟨mB, J', _⟩ := ins_get I.hok hb'
  obtain ⟨od, J, _⟩ := J.look
  obtain ⟨od', J', _⟩ := J'.look
  obtain ⟨m, hF⟩ := I.fr
  show wpAny (model X.prog X.w) X.A (richCompare .Eq (.ref a) (.ref b)) (EP X pins σ Q) X.xe s
  refine PySem.W.cmp_K (op := .Eq) (tb := .ref C) hr.units0 hF I.ok.mod.kin J J'.type (by simp [PySem.W.notFirst]) hc.eq hc.fn ?_
  refine wpAny_mono (call_at (vs := [.ref a, .ref b]) G hr rfl hb I (.cons rfl (.cons rfl .nil)) q) (fun v s' z => ?_) fun _ _ z => z
  obtain ⟨w, H', I', rw, c, ew, qq⟩ := z
  subst ew
  cases rw
  exact ⟨.bl c, H', I', rfl, qq⟩
theorem op_neOwn (G : FnOk X.prog X.w X.K X.mg X.base CX0 k f fd ps sp) (hr : Room (k + 1) X.A) (hb : Binds X.K fd ps []) (hc : EqC X.K C f) : OpR X (compareOp .NotEq) (rOwn C (fun b => !b) sp) := by
  intro pins s σ H x y v u Q I rx ry h
  obtain ⟨a, b, dx, dy, fs, gs, rfl, rfl, ha, hb', q⟩ := h
  cases rx
  cases ry
  obtain ⟨mA, J, _⟩ := ins_get I.hok ha
  obtain ⟨mB, J', _⟩ := ins_get I.hok hb'
  obtain ⟨od, J, _⟩ := J.look
  obtain ⟨od', J', _⟩ := J'.look
  obtain ⟨m, hF⟩ := I.fr
  show wpAny (model X.prog X.w) X.A (richCompare .NotEq (.ref a) (.ref b)) (EP X pins σ Q) X.xe s
  refine PySem.W.mi_ne_K (tb := .ref C) (by have := hr.units; omega) hF I.ok.mod.kin J J'.type (by simp [PySem.W.notFirst]) hc.ne hc.eq hc.fn hc.mro ?_
  refine wpAny_mono (call_at (vs := [.ref a, .ref b]) G hr.in1 rfl hb I (.cons rfl (.cons rfl .nil)) q) (fun v s' z => ?_) fun _ _ z => z
  obtain ⟨w, H', I', rw, c, ew, qq⟩ := z
  subst ew
  cases rw
  exact ⟨c, rfl, .bl (!c), H', I', rfl, qq⟩
end
section
variable {X : Cx} {c : Cf} {k : Nat} {f : Addr} {fd : FuncData} {ps : List Str} {mf : List D → M D} {ck : Str} {a b : Expr} {ma mb : ME} {pos : Pos}
theorem dEqO (G : FnOk X.prog X.w X.K X.mg X.base CX0 k f fd ps (spM c.W 2 mf)) (hr : Room k X.A) (hb : Binds X.K fd ps []) (hc : EqC X.K (c.W.cl ck) f) (ha : DE X c a ma) (hb' : DE X c b mb) : DE X c (.Compare a [.Eq] [b] pos) (mEqO ck mf ma mb) :=
  (pe_cmpR (op_eqOwn G hr hb hc) ha hb' (nomark _)).imp fun σ H Q ⟨F, u, ρ, S, h⟩ =>
    ⟨F, u, ρ, S, (After.split h).imp fun x u1 F1 H1 _ s1 g1 h1 v rv => ⟨F1, u1, ρ, S.step s1 g1, (After.split h1).imp fun y u2 F2 H2 _ s2 g2 h2 w rw => by
      have rv := rv.mono s2.ef
      split at h2
      · split at h2
        · rename_i hh
          obtain ⟨rfl, e2⟩ := hh
          subst e2
          obtain ⟨p1, dx, vs, rfl, h3, _⟩ := id rv.obj_
          obtain ⟨p2, dy, ws, rfl, h4, _⟩ := id rw.obj_
          refine ⟨p1, p2, dx, dy, _, _, rfl, rfl, g2.ex _ _ h3, g2.ex _ _ h4, rfl, c.p, F2, u2, [_, _], g2, Reps.cons rv (Reps.cons rw Reps.nil), (After.split h2).imp fun d u3 F3 H3 _ s3 g3 h5 z rz => ?_⟩
          split at h5
          · rename_i bb _h
            have h6 : After c.p F3 H3 (some (D.bl bb, u3)) (fun d _ F' H' => ∀ v, Rep c.W c.p F' v d → Q v H') := h5
            exact ⟨bb, rz.bl_, After.now g3 h6 _ (.bl bb)⟩
          · exact False.elim h5
        · exact False.elim h2
      · exact False.elim h2⟩⟩
/-! ### len of an object -/
def mLenOb (k : Str) (mf : List D → M D) (mo : ME) : ME := fun ρ => M.bind (mo ρ) fun d => match d with
  | .obj c ks ds => if c = k then M.bind (mf [.obj c ks ds]) fun r => match r with
    | .int n => if 0 ≤ n ∧ n ≤ 100000 then M.pure (.int n) else lft none
    | _ => lft none
    else lft none
  | _ => lft none
def rLenOb (C : Addr) (sp : Sp) : List V → Hp → VK → Prop := fun xs H Q => ∃ a dx fs, xs = [.ref a] ∧ H a = some (.ins C dx fs) ∧ sp [.ref a] H (fun v H' => ∃ n : Int, v = .int n ∧ 0 ≤ n ∧ n ≤ 100000 ∧ Q (.int n) H') E0
theorem call_lenOb {sp : Sp} {C : Addr} (G : FnOk X.prog X.w X.K X.mg X.base CX0 k f fd ps sp) (hr : Room (k + 1) X.A) (hb : Binds X.K fd ps []) (hs : PySem.W.findIn X.K (.ref C) "__len__" = some (some (.ref f))) (hf : PySem.W.isFn X.K (.ref f) = true) : CallR X (.builtin "len") (rLenOb C sp) := by
  intro pins s σ H vs us Q I r h
  obtain ⟨a, dx, fs, rfl, ha, q⟩ := h
  obtain ⟨u1, rfl, ru⟩ := Vals.one r
  cases ru
  obtain ⟨mA, J, _⟩ := ins_get I.hok ha
  obtain ⟨od, J, _⟩ := J.look
  obtain ⟨m, hF⟩ := I.fr
  refine PySem.W.len_K hF I.ok.mod.kin J hs hf ?_
  refine wpAny_mono (call_at (vs := [.ref a]) G hr.in1 rfl hb I (.cons rfl .nil) q) (fun v s' z => ?_) fun _ _ z => z
  obtain ⟨w, H', I', rw, n, ew, h0, h1, qq⟩ := z
  subst ew
  obtain ⟨t, rfl⟩ := rw
  exact ⟨⟨h0, by omega⟩, .int n, H', I'.tok _, ⟨_, rfl⟩, qq⟩
theorem dLenOb {x : Str} {p0 : Pos} (G : FnOk X.prog X.w X.K X.mg X.base CX0 k f fd ps (spM c.W 1 mf)) (hr : Room (k + 1) X.A) (hb : Binds X.K fd ps []) (hs : PySem.W.findIn X.K (.ref (c.W.cl ck)) "__len__" = some (some (.ref f))) (hf : PySem.W.isFn X.K (.ref f) = true)
    (hg : Gl X "len") (hm : X.mg "len" = none) (ha : DE X c a ma) (he : starEach [a] X.env = (false, eval a X.env) :: starEach [] X.env := by rfl) : DE X c (.Call (.Name "len" p0) [a] [] pos) (mLenOb ck mf ma) :=
  (pe_callB (call_lenOb G hr hb hs hf) hg hm PySem.boot_len (pa_cons ha pa_nil he) (by decide) (by decide) he rfl).imp fun σ H Q ⟨F, u, ρ, S, h⟩ =>
    ⟨F, u, ρ, S, (After.split h).imp fun x u1 F1 H1 _ s1 g1 h1 v rv => by
      split at h1
      · split at h1
        · rename_i hh
          subst hh
          obtain ⟨p1, dx, vs, rfl, h3, _⟩ := id rv.obj_
          refine ⟨p1, dx, _, rfl, g1.ex _ _ h3, rfl, c.p, F1, u1, [_], g1, Reps.cons rv Reps.nil, (After.split h1).imp fun d u3 F3 H3 _ s3 g3 h5 z rz => ?_⟩
          split at h5
          · rename_i n _h
            split at h5
            · rename_i hn
              have h6 : After c.p F3 H3 (some (D.int n, u3)) (fun d _ F' H' => ∀ v, Rep c.W c.p F' v d → Q v H') := h5
              exact ⟨n, rz.int_, hn.1, hn.2, After.now g3 h6 _ (.int n)⟩
            · exact False.elim h5
          · exact False.elim h5
        · exact False.elim h1
      · exact False.elim h1⟩
end

/-! ### static methods called off the class -/
section
variable {X : Cx} {c : Cf} {k n : Nat} {C q g : Addr} {mc : Value} {sp : Sp} {fd : FuncData} {ps ks : List Str} {o e : Expr} {es : List Expr} {kws : List Keyword} {m : Str} {pos apos : Pos} {ta : TE} {t tk : TA} {pl : Sem Bool}
end

/-! ### objects made -/
def spI (W : Wo) (ck : Str) (n : Nat) (mf : List D → M (List Str × List D)) : Sp := fun vs H Q _ => vs.length = n + 1 ∧ ∃ p F u H1 x dx ws ds, vs = .ref x :: ws ∧ H1 x = none ∧ H1 dx = none ∧ dx ≠ x ∧
  H = upd (upd H1 dx (.own x)) x (.ins (W.cl ck) dx []) ∧ Gd p u F H1 ∧ Reps W p F ws ds ∧ After p F H1 (mf ds u) fun r _ F' H' => ∀ dx' vs', F' x = none → H' x = some (.ins (W.cl ck) dx' (r.1.zip vs')) → r.1.length = vs'.length → Reps W p F' vs' r.2 → Q .non H'
def startI (n : Nat) (ck : Str) (ds : List D) : Env := .oi ck [] [] :: startE (n - 1) ds
def mInit (n : Nat) (ck : Str) (mb : MS) : List D → M (List Str × List D) := fun ds u => match mb (startI n ck ds) u with
  | some (.nx ρ', u') => match (ρ'[0]? : Option Sd) with
    | some (Sd.oi k ks es) => if k = ck then some ((ks, es), u') else none
    | _ => none
  | _ => none
section
variable {P : Program} {w : World} {K : PySem.W.Frag} {mg : Str → Option Value} {base : Heap} {x qual : Str} {params : Arguments} {body : List Stmt} {scope : Scope} {dvs : List V} {kws : List (Str × V)} {f : Addr} {fd : FuncData} {W : Wo} {N ps : List Str} {k n : Nat} {mb : MS} {ck nm : Str}
theorem fn_init (F : FunD K x qual params body scope dvs kws f fd) (S : FnScope (nm :: N) ps scope) (hl : ps.length = n + 1)
    (hb : ∀ (cdv : Value) (A : Around) (outer : List PySem.Env) (s : Shared) (H : Hp) (E : XK) (p : Addr) (F0 H0 : Hp) (sf : Addr), Room k (A.deeper (envOfC qual scope s.heap.objs.size f cdv)) → DB (cxOf CX0 P w K mg base (nm :: N) qual scope f cdv A outer s H E).nox ⟨W, p, F0, H0, sf, noX⟩ body mb) :
    FnOk P w K mg base CX0 (k + 1) f fd ps (spI W ck n (mInit (N.length + 1) ck mb)) := by
  refine F.ok S (fun vs H Q E h => h.1.trans hl.symm) (fun cdv A outer s H vs Q E hr h => ?_)
  obtain ⟨hlen, p, F0, u, H1, x, dx, ws, ds, rfl, hx, hdx, hne, rfl, g, r, h⟩ := h
  have hpx : p ≠ x := fun z => g.ne (z ▸ hx)
  have hpd : p ≠ dx := fun z => g.ne (z ▸ hdx)
  have s1 : Stp p F0 H1 F0 (upd (upd H1 dx (.own x)) x (.ins (W.cl ck) dx [])) := ⟨fun _ _ e => e, fun a o _ e _ => by rw [upd_ne (ne_of_none e hx), upd_ne (ne_of_none e hdx)]; exact e, fun a ps _ e => ⟨ps, by rw [upd_ne (ne_of_none e hx), upd_ne (ne_of_none e hdx)]; exact e⟩, fun _ _ e => .inl e⟩
  have g1 : Gd p u F0 (upd (upd H1 dx (.own x)) x (.ins (W.cl ck) dx [])) := ⟨fun a o e => by rw [upd_ne (ne_of_none (g.ex a o e) hx), upd_ne (ne_of_none (g.ex a o e) hdx)]; exact g.ex a o e, by rw [upd_ne hpx, upd_ne hpd]; exact g.pu, g.off, g.nt, g.tb.ext fun b o e => by rw [upd_ne (ne_of_none e hx), upd_ne (ne_of_none e hdx)]; exact e, g.hp⟩
  have hFx : F0 x = none := g.fresh hx
  refine ⟨_, PSs.nox (hb cdv A outer s _ E p F0 H1 x hr), F0, u, startI (N.length + 1) ck ds, ⟨s1, g1, ?_⟩, ?_⟩
  · have e0 := env_start (c := ⟨W, p, F0, H1, x, noX⟩) (H := upd (upd H1 dx (.own x)) x (.ins (W.cl ck) dx [])) (N := N) r
    have es : L2.start (nm :: N) (.ref x :: ws) = some (.ref x) :: L2.start N ws := by
      unfold L2.start
      rw [List.length_cons, List.length_cons, Nat.add_sub_add_right]
      rfl
    have er : startI (N.length + 1) ck ds = .oi ck [] [] :: startE N.length ds := rfl
    rw [es, er]
    have nown : ∀ {i : Nat} {s : Sd}, (startE N.length ds)[i]? = some s → s.own = false := fun {i s} e => by
      unfold startE at e
      by_cases hi : i < (ds.map Sd.sh).length
      · rw [List.getElem?_append_left hi, List.getElem?_map] at e
        cases q : ds[i]? with
        | none => rw [q] at e; cases e
        | some d => rw [q] at e; cases e; rfl
      · rw [List.getElem?_append_right (by omega), List.getElem?_replicate] at e
        split at e
        · cases e; rfl
        · cases e
    refine ⟨by simp [e0.len], fun i t e => ?_, fun i j t t' hij e1 e2 o1 o2 => ?_⟩
    · cases i with
      | zero =>
        simp at e
        subst e
        exact ⟨dx, [], rfl, upd_same, hFx, Ne.symm hpx, hx, rfl, Reps.nil⟩
      | succ i => exact e0.at_ i t (by simpa using e)
    · cases i with
      | zero =>
        cases j with
        | zero => exact absurd rfl hij
        | succ j => rw [nown (by simpa using e2)] at o2; cases o2
      | succ i => rw [nown (by simpa using e1)] at o1; cases o1
  · unfold mInit at h
    cases e : mb (startI (N.length + 1) ck ds) u with
    | none => rw [e] at h; exact h
    | some y =>
      obtain ⟨fl, u1⟩ := y
      rw [e] at h
      cases fl with
      | nx ρ' =>
        intro σ' F' H' _ S'
        have h' : After p F0 H1 (match (ρ'[0]? : Option Sd) with
          | some (Sd.oi k ks es) => if k = ck then some ((ks, es), u1) else none
          | _ => none) fun r _ F' H' => ∀ dx' vs', F' x = none → H' x = some (.ins (W.cl ck) dx' (r.1.zip vs')) → r.1.length = vs'.length → Reps W p F' vs' r.2 → Q .non H' := h
        split at h'
        · rename_i k' ks es e0
          split at h'
          · rename_i hk
            subst hk
            obtain ⟨dx', vs', _, h2, h3, _, _, h5, h6⟩ := S'.env.at_ 0 _ e0
            exact h' F' H' S'.ent S'.gd dx' vs' h3 h2 h5 h6
          · exact False.elim h'
        · exact False.elim h'
      | _ => exact False.elim h
end
/-- self.f = e -/
def mSelfSet (i : Nat) (ck fn : Str) (m : ME) : MS := fun ρ => M.bind (m ρ) fun d => M.bind (lft (match (ρ[i]? : Option Sd) with
  | some (Sd.oi k ks es) => if k = ck ∧ fn ∉ ks ∧ ks.length < 900 then some (ks, es) else none
  | _ => none)) fun q => M.pure (.nx (ρ.set i (.oi ck (q.1 ++ [fn]) (q.2 ++ [d]))))
theorem putF_zip {fn : Str} {y : V} : ∀ {ks : List Str} {vs : List V}, fn ∉ ks → ks.length = vs.length → putF fn y (ks.zip vs) = (ks ++ [fn]).zip (vs ++ [y])
  | [], vs, _, hl => by
    have : vs = [] := List.eq_nil_of_length_eq_zero (by simpa using hl.symm)
    subst this
    rfl
  | a :: ks, [], _, hl => by simp at hl
  | a :: ks, b :: vs, h, hl => by
    show (if a = fn then _ else (a, b) :: putF fn y (ks.zip vs)) = _
    rw [if_neg (fun z => h (by simp [z])), putF_zip (fun z => h (List.mem_cons_of_mem _ z)) (by simpa using hl)]
    rfl
section
variable {X : Cx} {c : Cf} {pos p0 tp : Pos} {e : Expr} {m : ME} {ck fn x : Str}
theorem dSelfSet (i : Nat) (hc : Cls X.K (c.W.cl ck)) (hn : NoAttr X.K (c.W.cl ck) fn) (he : DE X c e m) (hN : X.N[i]? = some x := by rfl) (hv : Vis X.env.scope x := by first | exact Or.inl rfl | exact Or.inr (Or.inl rfl) | exact Or.inr (Or.inr rfl)) (hd : (x == ("__debug__" : Str)) = false := by decide)
    (hcd : (x == ("__classdict__" : Str)) = false := by decide) (hs : swapsWith e (some (.Attribute (.Name x p0) fn tp)) pos.line X.env = pure false := by rfl) : DS X c (.Assign [.Attribute (.Name x p0) fn tp] e pos) (mSelfSet i ck fn m) :=
  (ps_fld (pe_var (i := i) hN hv hd hcd) he hs).imp fun Dn σ H ⟨F, u, ρ, S, h⟩ => ⟨F, u, ρ, S, (flowO.after S h).imp fun d u1 F1 H1 _ s1 g1 h1 v rv => by
    obtain ⟨⟨ks, es⟩, e1, h2⟩ := flowO.lft h1.1 h1.2
    split at e1
    · rename_i k' ks' es' e0
      split at e1
      · rename_i hh
        obtain ⟨rfl, hf, hl⟩ := hh
        cases e1
        have S1 := h1.1
        obtain ⟨dx, vs, q1, q2, q3, q4, q5, q6, q7⟩ := id (S1.env.at_ i _ e0)
        refine ⟨.ref c.sf, q1, c.sf, _, dx, _, rfl, q2, hc, hn, by rw [List.length_zip]; omega, h2 σ F1 _ (Same.refl _) ?_⟩
        rw [putF_zip hf q6]
        have qs : ∀ {j : Nat} {t : Sd} {a : Addr}, i ≠ j → ρ[j]? = some t → t.own = true → σ[j]? = some (some (.ref a)) → a ≠ c.sf := fun {j t a} ne e2 o z h => by
          subst h
          exact S1.env.ne i j _ t ne e0 e2 rfl o (q1.trans z.symm)
        refine ⟨⟨S1.ent.ef, fun a o ha e n => ?_, fun a ps ha e => by
          obtain ⟨qs, e1⟩ := S1.ent.et a ps ha e
          exact ⟨qs, by rw [upd_ne (fun z => by rw [z, q5] at e; cases e)]; exact e1⟩, S1.ent.nw⟩, ⟨fun a o e => ?_, by rw [upd_ne (Ne.symm q4)]; exact S1.gd.pu, S1.gd.off, S1.gd.nt, tabs_overI q2 S1.gd.tb, S1.gd.hp⟩, by simpa using S1.env.len, fun j t e2 => ?_, fun j k t t' h e1 e2 o1 o2 => ?_⟩
        · rw [upd_ne (fun z => by rw [z, q5] at e; cases e)]; exact S1.ent.eh a o ha e n
        · rw [upd_ne (fun z => by rw [z, q3] at e; cases e)]; exact S1.gd.ex a o e
        · rcases set_get e2 with ⟨rfl, rfl, _⟩ | ⟨ne, e2⟩
          · exact ⟨dx, vs ++ [v], q1, upd_same, q3, q4, q5, by simp [q6], q7.append (Reps.cons rv Reps.nil)⟩
          · have k := S1.env.at_ j t e2
            cases t with
            | un => trivial
            | sh d => exact k
            | ow ds' => obtain ⟨a, xs, z, ha, rest⟩ := k; exact ⟨a, xs, z, by rw [upd_ne (qs ne e2 rfl z)]; exact ha, rest⟩
            | oi kk ks' ds' => obtain ⟨dx', xs, z, ha, rest⟩ := k; exact absurd rfl (qs ne e2 rfl z)
            | od ks' ds' => obtain ⟨a, ob, xs, ws, z, ha, rest⟩ := k; exact ⟨a, ob, xs, ws, z, by rw [upd_ne (qs ne e2 rfl z)]; exact ha, rest⟩
        · have back : ∀ {m : Nat} {y : Sd}, (ρ.set i (Sd.oi k' (ks ++ [fn]) (es ++ [d])))[m]? = some y → y.own = true → ∃ y', ρ[m]? = some y' ∧ y'.own = true := fun {m y} z o => by
            rcases set_get z with ⟨rfl, rfl, _⟩ | ⟨_, z⟩
            · exact ⟨_, e0, rfl⟩
            · exact ⟨y, z, o⟩
          obtain ⟨y1, z1, p1⟩ := back e1 o1
          obtain ⟨y2, z2, p2⟩ := back e2 o2
          exact S1.env.ne j k y1 y2 h z1 z2 p1 p2
      · cases e1
    · cases e1⟩
end
/-- C(e, ..) -/
def mMake (ck : Str) (n : Nat) (mf : List D → M (List Str × List D)) (ms : MA) : ME := fun ρ => M.bind (ms ρ) fun ds => if ds.length = n then M.bind (mf ds) fun r => M.pure (.obj ck r.1 r.2) else lft none
section
variable {X : Cx} {c : Cf} {k n : Nat} {f : Addr} {fd : FuncData} {ps : List Str} {x ck : Str} {p pos : Pos} {e : Expr} {es : List Expr} {ms : MA} {mf : List D → M (List Str × List D)}
theorem make_ok {p : Addr} {F1 H1 : Hp} {u1 : PuS} {vs : List V} {ds : List D} {W : Wo} {Q : VK} (hc : ck ∈ W.cs) (g1 : Gd p u1 F1 H1) (rvs : Reps W p F1 vs ds) (h1 : After p F1 H1 ((if ds.length = n then M.bind (mf ds) fun r => M.pure (D.obj ck r.1 r.2) else lft none) u1) fun d _ F' H' => ∀ v, Rep W p F' v d → Q v H')
    (a dx : Addr) (ha : H1 a = none) (hdx : H1 dx = none) (hne : dx ≠ a) : spI W ck n mf (.ref a :: vs) (upd (upd H1 dx (.own a)) a (.ins (W.cl ck) dx [])) (fun v H2 => v = .non ∧ Q (.ref a) H2) E0 := by
  split at h1
  · rename_i hl
    refine ⟨by simp [rvs.1, hl], p, F1, u1, H1, a, dx, vs, ds, rfl, ha, hdx, hne, rfl, g1, rvs, ?_⟩
    unfold M.bind at h1
    cases e1 : mf ds u1 with
    | none => rw [e1] at h1; exact h1
    | some y =>
      obtain ⟨r, u2⟩ := y
      rw [e1] at h1
      have h2 : After p F1 H1 (some (D.obj ck r.1 r.2, u2)) fun d _ F' H' => ∀ v, Rep W p F' v d → Q v H' := h1
      intro F' H' s' g' dx' vs' hF hH hlk hr
      have hsm : Same F' (upd F' a (.ins (W.cl ck) dx' (r.1.zip vs'))) := fun b o e => by rw [upd_ne (fun z => by rw [z, hF] at e; cases e)]; exact e
      have hpa : p ≠ a := fun z => g1.ne (z ▸ ha)
      refine ⟨rfl, h2 (upd F' a (.ins (W.cl ck) dx' (r.1.zip vs'))) H' ⟨s'.ef.trans hsm, s'.eh, s'.et, fun b o e => ?_⟩ ⟨fun b o e => ?_, g'.pu, fun l e => by rw [upd_ne hpa]; exact g'.off l e, nt_upd g'.nt (by intro _ z; cases z), g'.tb, g'.hp⟩ (.ref a) (.obj hc upd_same hlk hr.1 fun i v d x y => (hr.2 i v d x y).mono hsm)⟩
      · by_cases hb : b = a
        · subst hb; exact .inr ha
        · rw [upd_ne hb] at e; exact s'.nw b o e
      · by_cases hb : b = a
        · subst hb; rw [upd_same] at e; cases e; exact hH
        · rw [upd_ne hb] at e; exact g'.ex b o e
  · exact False.elim h1
theorem dMake (hc : ck ∈ c.W.cs) (Mk' : Mk X.K (c.W.cl ck) f) (G : FnOk X.prog X.w X.K X.mg X.base CX0 k f fd ps (spI c.W ck n mf)) (hr : Room (k + 1) X.A) (hg : Gl X x) (hm : X.mg x = some (.ref (c.W.cl ck))) (hb : Binds X.K fd ps [])
    (ha : DA X c (e :: es) ms) (hdb : (x == ("__debug__" : Str)) = false := by decide) (he : starEach (e :: es) X.env = (false, eval e X.env) :: starEach es X.env := by rfl) (hpl : (backTo pos (starEach es X.env)).any (·.1) = false := by rfl) :
    DE X c (.Call (.Name x p) (e :: es) [] pos) (mMake ck n mf ms) :=
  (pe_make Mk' G hr hg hm hb .nil pass0 ha hdb he hpl).imp fun σ H Q ⟨F, u, ρ, S, h⟩ => ⟨F, u, ρ, S, (After.split h).imp fun ds u1 F1 H1 _ s1 g1 h1 vs rvs => by
    intro a dx ha hdx hne
    show spI c.W ck n mf (.ref a :: (vs ++ [])) _ _ _
    rw [List.append_nil]
    exact make_ok hc g1 rvs h1 a dx ha hdx hne⟩
end
end Mi

set_option Elab.async false
set_option linter.all false
set_option maxRecDepth 100000
set_option maxHeartbeats 4000000
/-! Mi9: enumerate and zip of tuples. -/
namespace PySem
theorem mi_meets_enum1 {v : Value} {o : Obj} {H : Heap → Prop} (B : Begins v o H) :
    Meets (Builtin.«enumerate.__new__» ⟨[.type "enumerate", v], []⟩) (fun _ R s => H s.heap ∧
      R (.ok (.ret (.ref (s.heap.push o).objs.size))) { s with heap := (s.heap.push o).push { cls := .type "enumerate", data := .fields #[.none, .bool false, .ref s.heap.objs.size, rawInt 0, .none, .none] } }) :=
  .of_wp fun prog w A R s h => by
    obtain ⟨hp, g, d, tk, os⟩ := s; obtain ⟨h1, h⟩ := h
    have hsub := sub_enumerate
    have q1 : ∀ {A' : Around} {E : Value → Shared → Prop} {Q : Value → Shared → Prop}, Q (.ref hp.objs.size) ⟨hp.push o, g, d, tk, os⟩ → wpAny (model prog w) A' (pyIter v) Q E ⟨hp, g, d, tk, os⟩ :=
      fun q => B.iter prog w _ _ ⟨hp, g, d, tk, os⟩ _ h1 q
    wp_walk using q1
    refine wpAny_stack_any fun st => wpAny_pure ?_
    split
    · rename_i c _ _ _ _ _
      cases (c == Value.type "enumerate")
      · wp_walk using q1
        exact ⟨_, rfl, h⟩
      · wp_walk using q1
        exact ⟨_, rfl, h⟩
    · wp_walk using q1
      exact ⟨_, rfl, h⟩
theorem mi_enum_begins1 {prog : Program} {w : World} {A : Around} {E : Value → Shared → Prop} {s : Shared} {v : Value} {o : Obj} {H : Heap → Prop} {Q : Value → Shared → Prop} (B : Begins v o H) (h1 : H s.heap)
    (h : ∀ h', IsEnum h' (s.heap.objs.size + 1) s.heap.objs.size 0 .none → h'.get? s.heap.objs.size = some o → h'.objs.size = s.heap.objs.size + 2 →
      (∀ b o, s.heap.get? b = some o → h'.get? b = some o) → Q (.ref (s.heap.objs.size + 1)) { s with heap := h' }) :
    wpAny (model prog w) A (call (.type "enumerate") [v]) Q E s := by
  refine callType_new F.called_enumerate (by decide) (F.typeCall_enumerate_1 _) (F.newCall_enumerate_1 _) (fun obj => F.args_object_init_2 obj _) F.entry_enumerate_new
    (mi_meets_enum1 B) ⟨h1, ?_⟩
  have hz : (s.heap.push o).objs.size = s.heap.objs.size + 1 := Heap.size_push ..
  show _ ∧ _
  rw [hz]
  have he : IsEnum ((s.heap.push o).push { cls := .type "enumerate", data := .fields #[.none, .bool false, .ref s.heap.objs.size, rawInt 0, .none, .none] }) (s.heap.objs.size + 1) s.heap.objs.size 0 .none := by
    have := Heap.get?_push_size (s.heap.push o) (o := { cls := .type "enumerate", data := .fields #[.none, .bool false, .ref s.heap.objs.size, rawInt 0, .none, .none] }) rfl
    rw [hz] at this; exact this
  refine ⟨⟨_, he, rfl⟩, h _ he (Heap.get?_push_of_some _ (Heap.get?_push_size _ B.free)) (by rw [Heap.size_push, hz]) fun b o x => Heap.get?_push_of_some _ (Heap.get?_push_of_some _ x)⟩
end PySem

namespace Mi
open PySem PySem.Spec PyProof.Rows L2
variable [TB : Tabl]
/-- the tuple at a, each item in a new pair -/
def IteT (K : PySem.W.Frag) (a : Addr) : It :=
  ⟨fun i H => ∃ (xs : List V) (x : V), SqT K H a xs ∧ xs[i]? = some x, fun i H v H' => ∃ T x, v = .ref T ∧ H T = none ∧ H' = upd H T (.tup [.int (i : Nat), x]) ∧ ∀ xs, SqT K H a xs → xs[i]? = some x, fun i H => ∃ xs : List V, SqT K H a xs ∧ xs.length ≤ i⟩
theorem turn_enumT {P : Program} {w : World} {K : PySem.W.Frag} {elts : List Expr} {kk : Nat} {tpos : Pos} (a e it : Addr) (hai : a ≠ it) (hae : a ≠ e) :
    Turn P w K (.Tuple elts kk tpos) (IteT K a) [e, it] e (fun i h => (∃ old, IsEnum h e it ((i : Nat) : Int) old) ∧ h.IsTupleIter it a i ∧ e ≠ it) where
  mem := by simp
  obj := fun i h st b hb => by
    obtain ⟨⟨old, he⟩, ⟨o, ho, hc, hd⟩, _⟩ := st
    have e' : b = e ∨ b = it := by simpa using hb
    rcases e' with z | z
    · rw [z]; exact ⟨_, he, fun v q => nomatch q⟩
    · rw [z]; exact ⟨o, ho, fun v q => by rw [hd] at q; cases q⟩
  keep := fun i h h' st k => let ⟨⟨old, he⟩, hi, hne⟩ := st; ⟨⟨old, k e (by simp) _ he⟩, hi.at fun o q => k it (by simp) o q, hne⟩
  item := by
    intro X hP hw hK hc i pins s σ H E I hf st hg
    subst hP hw hK
    obtain ⟨⟨old, he⟩, hit, hne⟩ := st
    obtain ⟨xs, x, hq, hx⟩ := hg
    obtain ⟨its, rv, p, hz⟩ := I.tuple hq
    obtain ⟨u, hu, ru⟩ := rv.get hx
    have hel : e < s.heap.objs.size := Heap.lt_size he
    have hil : it < s.heap.objs.size := by obtain ⟨_, q, _⟩ := hit; exact Heap.lt_size q
    have hlt : i < its.toArray.size := by
      have := (List.getElem?_eq_some_iff.mp hu).1
      simpa using this
    have hnf : e ∉ [it, a] := by simp [hne, Ne.symm hae]
    refine wpAny_pyNext_enum_itemD (Draws.tuple (A := X.A.in1) (I.ok.hd hc) it a hai its.toArray) he ⟨hit, p⟩ hlt hne hnf fun x' h' tk hP ho hst' hT hsz hk => ?_
    have ex : x' = u := by
      have e1 : its[i]? = some x' := by simpa using hP
      rw [hu] at e1
      exact (Option.some.inj e1).symm
    subst ex
    refine ⟨_, rfl, wpAny_letOwnedTupleGo_enum (s := { s with heap := h', toks := tk + 1 }) ho fun h'' he' sb => ?_⟩
    have hT2 : h''.get? s.heap.objs.size = some { cls := .type "tuple", data := .seq #[.int i tk, x'] } := (sb.2 _ (Nat.ne_of_gt hel)).trans hT
    have new : ObjOk X.prog X.w (upd H s.heap.objs.size (.tup [.int (i : Nat), x])) h'' s.heap.objs.size (.tup [.int (i : Nat), x]) :=
      ⟨by show 2 ≤ sizeLine; decide, [.int i tk, x'], .cons ⟨_, rfl⟩ (.cons ru .nil), ⟨_, hT2, rfl, _, rfl⟩⟩
    have I1 : Inv X pins σ (upd H s.heap.objs.size (.tup [.int (i : Nat), x])) { s with heap := h'', toks := tk + 1 } :=
      I.turnedNew (ch := [e, it]) (fun b ob hb q => (sb.2 b (fun z => hb (by simp [z]))).trans (hk b ob (fun z => hb (by simp [z])) (fun z => hb (by simp [z])) q)) hf (Nat.le_refl _) new
    refine ⟨.ref s.heap.objs.size, _, I1, rfl, ⟨_, x, rfl, I.hok.fresh (Nat.le_refl _), rfl, fun ys hy => by rw [I.tuple_inj hy hq]; exact hx⟩, ⟨⟨x', ?_⟩, hst'.1.at fun o q => (sb.2 it (Ne.symm hne)).trans q, hne⟩, fun b hb => ?_⟩
    · have e1 : ((i + 1 : Nat) : Int) = (i : Int) + 1 := by omega
      rw [e1]; exact he'
    · have hb' : b < s.heap.objs.size := by
        have e' : b = e ∨ b = it := by simpa using hb
        rcases e' with z | z
        · rw [z]; exact hel
        · rw [z]; exact hil
      rw [upd_ne (Nat.ne_of_lt hb')]
      exact (hf b hb).1
  done := by
    intro X hP hw hK hc i pins s σ H E I hf st hg
    subst hP hw hK
    obtain ⟨⟨old, he⟩, hit, hne⟩ := st
    obtain ⟨xs, hq, hx⟩ := hg
    obtain ⟨its, rv, p, hz⟩ := I.tuple hq
    obtain ⟨f0, f1, f2, f3, f4, f5⟩ := hf it (by simp)
    have hl := rv.length
    have hT : s.TypeIs (.ref e) "enumerate" := ⟨_, he, rfl⟩
    unfold pyNext
    refine wpAny_bind (wpAny_attempt (wpAny_callSpecial?_slot (name := Str.ofString "__next__") hT F.slot_enumerate_next
      (wpAny_call_entry F.slot_enumerate_next hT F.entry_enumerate_next ?_ (F.args_enumerate_next_1 _))))
    show wpAny _ _ (field (.ref e) 2 >>= _) _ _ _
    refine wpAny_bind (wpAny_field he rfl (x := .ref it) rfl ?_)
    refine wpAny_bind (wpAny_nextOf_tuple_end (I.ok.hd hc) hit p (by simp; omega) fun h' x' he' hx' => ?_)
    obtain ⟨o, ho, hcc⟩ := hx'
    refine wpAny_bind (wpAny_isInstance (T := "StopIteration") (b := true) ⟨o, ho, hcc⟩ isSubtype_stop ?_)
    exact wpAny_pure ⟨rfl, I.turned (t' := s.toks) (fun b o hb q => he' b o hb q) f0 f1 f3 f4 f5⟩
  self := fun A i s Q E st h => let ⟨⟨_, he⟩, _⟩ := st; wpAny_pyIter_enum he h
def iEnumT (K : PySem.W.Frag) (ta : TA) : TI := fun σ H R => ta σ H fun vs H1 => ∃ a xs, vs = [.ref a] ∧ SqT K H1 a xs ∧ R (IteT K a) H1
theorem pi_enumT {X : Cx} {e : Expr} {ta : TA} {p pos tpos : Pos} {elts : List Expr} {kk : Nat} (hg : Gl X "enumerate") (hm : X.mg "enumerate" = none) (ha : PA X [e] ta) (hs : starEach [e] X.env = [(false, eval e X.env)] := by rfl) :
    PI X (.Tuple elts kk tpos) (.Call (.Name "enumerate" p) [e] [] pos) (iEnumT X.K ta) := by
  refine ⟨fun pins s σ H R I h => ?_⟩
  refine Call_ (ld_blt I hg hm boot_enumerate (PyProof.Rows.callWith_type1 (thn (ha.run pos pins s σ H _ I h) fun us s1 ⟨vs, H1, I1, r1, q1⟩ => ?_) hs rfl))
  obtain ⟨a, xs, ex, hq, q⟩ := q1
  subst ex
  cases r1 with
  | cons r rr =>
    cases rr
    cases r
    obtain ⟨its, rv, p', hz⟩ := I1.tuple hq
    have la : a < s1.heap.objs.size := p'.lt
    refine mi_enum_begins1 (begins_tuple a its.toArray) p' fun h' he hit hsz hk => wpAny_pyIter_enum he ?_
    have I2 : Inv X pins σ H1 { s1 with heap := h' } := I1.kept (t' := s1.toks) hk
    refine ⟨s1.heap.objs.size + 1, [s1.heap.objs.size + 1, s1.heap.objs.size], _, _, H1, rfl, I2, turn_enumT a (s1.heap.objs.size + 1) s1.heap.objs.size (Nat.ne_of_lt la) (Nat.ne_of_lt (Nat.lt_succ_of_lt la)), ⟨⟨.none, he⟩, ⟨_, hit, rfl, rfl⟩, Nat.succ_ne_self _⟩, fun b hb => ?_, q⟩
    have e' : b = s1.heap.objs.size + 1 ∨ b = s1.heap.objs.size := by simpa using hb
    have hle : s1.heap.objs.size ≤ b := by
      rcases e' with z | z
      · rw [z]; exact Nat.le_add_right _ _
      · rw [z]; exact Nat.le_refl _
    exact I1.fpOk hle (I1.hok.fresh hle)
theorem walk_enumT {K : PySem.W.Frag} {a : Addr} {xs : List V} : Walk (IteT K a) xs.length (fun H => SqT K H a xs) (YPair (fun i => some (.int (i : Nat))) (fun i => xs[i]?)) := by
  refine ⟨fun i _ hi q => ⟨xs, xs[i], q, by simp [hi]⟩, fun _ q => ⟨xs, q, Nat.le_refl _⟩, fun i H v H' _ q y => ?_⟩
  obtain ⟨T, x, h1, h2, h3, h4⟩ := y
  exact ⟨T, .int (i : Nat), x, h1, h2, h3, rfl, h4 xs q⟩
theorem walk_zipT {K : PySem.W.Frag} {a b : Addr} {xs ys : List V} {n : Nat} (hn : n = min xs.length ys.length) : Walk (RZ.ItzT K a b) n (fun H => SqT K H a xs ∧ SqT K H b ys) (YPair (fun i => xs[i]?) (fun i => ys[i]?)) := by
  subst hn
  refine ⟨fun i _ hi q => ?_, fun _ q => ⟨xs, ys, q.1, q.2, by omega⟩, fun i H v H' _ q y => ?_⟩
  · have h1 : i < xs.length := by omega
    have h2 : i < ys.length := by omega
    exact ⟨xs, ys, xs[i], ys[i], q.1, q.2, by simp [h1], by simp [h2]⟩
  · obtain ⟨T, x, z, h1, h2, h3, h4, h5⟩ := y
    exact ⟨T, x, z, h1, h2, h3, h4 xs q.1, h5 ys q.2⟩
def enumT1 : List D → Option (List D) := fun ds => match ds with
  | [.tup xs] => some (enumD xs)
  | _ => none
def zipA2 : List D → Option (List D) := fun ds => match ds with
  | [.lst xs, .lst ys] => some (zipD xs ys)
  | [.tup xs, .tup ys] => some (zipD xs ys)
  | _ => none
section
variable {X : Cx} {c : Cf} {a b : Expr} {ms : MA} {pos q tpos : Pos} {elts : List Expr} {kk : Nat}
theorem dIenumT (hg : Gl X "enumerate") (hm : X.mg "enumerate" = none) (ha : DA X c [a] ms) (hs : starEach [a] X.env = [(false, eval a X.env)] := by rfl) (hK : X.K = c.W.K := by rfl) :
    DI X c (.Tuple elts kk tpos) (.Call (.Name "enumerate" q) [a] [] pos) (mIof enumT1 ms) :=
  (pi_enumT hg hm ha hs).imp fun σ H R ⟨F, u, ρ, S, h⟩ => ⟨F, u, ρ, S, (After.split h).imp fun ds u1 F1 H1 _ s1 g1 h1 vs rv => by
    obtain ⟨es, e1, h2⟩ := lft_some h1
    unfold enumT1 at e1
    split at e1
    · rename_i xs _h
      cases e1
      obtain ⟨v, vr, rfl, r1, r2⟩ := rv.uncons
      rw [r2.none]
      obtain ⟨p1, v1, rfl, f1, q1⟩ := r1.tup_
      refine ⟨p1, v1, rfl, by rw [hK]; exact sq_t g1.ex f1, After.now g1 h2 _ ?_⟩
      rw [hK]
      refine walkD_pair (n := v1.length) (by rw [enumD_len, q1.1]) walk_enumT (fun H e => sq_t e f1) fun i x y d hx hy hd => ?_
      obtain ⟨y', e2, rfl⟩ := enumD_at hd
      cases hx
      exact ⟨_, y', rfl, .int _, q1.2 i y y' hy e2⟩
    · cases e1⟩
theorem dIzipA (hg : Gl X "zip") (hm : X.mg "zip" = none) (ha : DA X c [a, b] ms) (hs : starEach [a, b] X.env = (false, eval a X.env) :: starEach [b] X.env := by rfl) (hpl : (backTo pos (starEach [b] X.env)).any (·.1) = false := by rfl) (hK : X.K = c.W.K := by rfl) :
    DI X c (.Tuple elts kk tpos) (.Call (.Name "zip" q) [a, b] [] pos) (mIof zipA2 ms) :=
  (RZ.pi_zipA hg hm ha hs hpl).imp fun σ H R ⟨F, u, ρ, S, h⟩ => ⟨F, u, ρ, S, (After.split h).imp fun ds u1 F1 H1 _ s1 g1 h1 vs rv => by
    obtain ⟨es, e1, h2⟩ := lft_some h1
    unfold zipA2 at e1
    split at e1
    · rename_i xs ys _h
      cases e1
      obtain ⟨v, vr, rfl, r1, r2⟩ := rv.uncons
      obtain ⟨w, wr, rfl, r3, r4⟩ := r2.uncons
      rw [r4.none]
      obtain ⟨p1, v1, rfl, f1, q1⟩ := r1.lst_
      obtain ⟨p2, v2, rfl, f2, q2⟩ := r3.lst_
      refine ⟨p1, p2, v1, v2, rfl, .inl ⟨SqL.of (g1.ex _ _ f1), SqL.of (g1.ex _ _ f2), After.now g1 h2 _ ?_⟩⟩
      rw [hK]
      refine walkD_pair (n := min v1.length v2.length) (by rw [zipD_len, q1.1, q2.1]) (walk_zip rfl) (fun H e => ⟨SqL.of (e _ _ f1), SqL.of (e _ _ f2)⟩) fun i x y d hx hy hd => ?_
      obtain ⟨x', y', e1, e2, rfl⟩ := zipD_at hd
      exact ⟨x', y', rfl, q1.2 i x x' hx e1, q2.2 i y y' hy e2⟩
    · rename_i xs ys _h
      cases e1
      obtain ⟨v, vr, rfl, r1, r2⟩ := rv.uncons
      obtain ⟨w, wr, rfl, r3, r4⟩ := r2.uncons
      rw [r4.none]
      obtain ⟨p1, v1, rfl, f1, q1⟩ := r1.tup_
      obtain ⟨p2, v2, rfl, f2, q2⟩ := r3.tup_
      refine ⟨p1, p2, v1, v2, rfl, .inr ⟨by rw [hK]; exact sq_t g1.ex f1, by rw [hK]; exact sq_t g1.ex f2, After.now g1 h2 _ ?_⟩⟩
      rw [hK]
      refine walkD_pair (n := min v1.length v2.length) (by rw [zipD_len, q1.1, q2.1]) (walk_zipT rfl) (fun H e => ⟨sq_t e f1, sq_t e f2⟩) fun i x y d hx hy hd => ?_
      obtain ⟨x', y', e1, e2, rfl⟩ := zipD_at hd
      exact ⟨x', y', rfl, q1.2 i x x' hx e1, q2.2 i y y' hy e2⟩
    · cases e1⟩
end
end Mi

set_option Elab.async false
set_option linter.all false
set_option maxRecDepth 100000
set_option maxHeartbeats 4000000
/-! MiA: parallel assignment with fresh lists, keyword calls, fresh slices. -/
namespace Mi
open PySem PySem.Spec PyProof.Rows L2
variable [TB : Tabl]

/-! ### lists of values, some of them fresh lists -/
abbrev MM := Env → M (List Sd)
structure Mats (W : Wo) (p : Addr) (F H H00 : Hp) (vs : List V) (sds : List Sd) : Prop where
  len : vs.length = sds.length
  at_ : ∀ (i : Nat) (v : V) (sd : Sd), vs[i]? = some v → sds[i]? = some sd → match sd with
    | .sh d => Rep W p F v d
    | .ow ds => ∃ q ws, v = .ref q ∧ H q = some (.lst ws) ∧ F q = none ∧ H00 q = none ∧ Reps W p F ws ds
    | _ => False
  ne : ∀ (i j : Nat) (s t : Sd), i ≠ j → sds[i]? = some s → sds[j]? = some t → s.own = true → t.own = true → vs[i]? ≠ vs[j]?
def rdM (c : Cf) (m : MM) : TA := fun σ H Q => ∃ F u ρ, Sta c u F H σ ρ ∧ After c.p F H (m ρ u) fun sds _ F' H' => ∀ vs, Mats c.W c.p F' H' H vs sds → Q vs H'
abbrev DM (X : Cx) (c : Cf) (es : List Expr) (m : MM) : Prop := PA X es (rdM c m)
def mMnil : MM := fun _ => M.pure []
def mMsh (m : ME) (ms : MM) : MM := fun ρ => M.bind (m ρ) fun d => M.bind (ms ρ) fun ds => M.pure (.sh d :: ds)
def mMow (m : MA) (ms : MM) : MM := fun ρ => M.bind (m ρ) fun d => M.bind (ms ρ) fun ds => M.pure (.ow d :: ds)
section
variable {X : Cx} {c : Cf} {pos : Pos} {e a b : Expr} {es : List Expr} {m : ME} {ml : MA} {ms : MM}
theorem dMnil : DM X c [] mMnil := pa_nil.imp fun σ H Q ⟨F, u, ρ, S, h⟩ => After.now S.gd h [] ⟨rfl, fun i v sd a _ => by simp at a, fun i j s t _ a _ => by simp at a⟩
theorem dMsh (ha : DE X c e m) (hr : DM X c es ms) (hs : starEach (e :: es) X.env = (false, eval e X.env) :: starEach es X.env := by rfl) : DM X c (e :: es) (mMsh m ms) :=
  (pa_cons ha hr hs).imp fun σ H Q ⟨F, u, ρ, S, h⟩ => ⟨F, u, ρ, S, (After.split h).imp fun d u1 F1 H1 _ s1 g1 h1 v rv => ⟨F1, u1, ρ, S.step s1 g1, (After.split h1).imp fun ds u2 F2 H2 _ s2 g2 h2 vs R => by
    refine After.now (p := c.p) (F := F2) (H := H2) (u := u2) g2 h2 (v :: vs) ⟨by simp [R.len], fun i w sd ea eb => ?_, fun i j s t hij ea eb o1 o2 => ?_⟩
    · cases i with
      | zero => simp at ea eb; subst ea; subst eb; exact rv.mono s2.ef
      | succ i =>
        simp at ea eb
        have := R.at_ i w sd ea eb
        cases sd with
        | sh d => exact this
        | ow ds => obtain ⟨q, ws, h1, h2, h3, h4, h5⟩ := this; exact ⟨q, ws, h1, h2, h3, s1.back g1.ne h4, h5⟩
        | _ => exact this
    · cases i with
      | zero => simp at ea; subst ea; cases o1
      | succ i =>
        cases j with
        | zero => simp at eb; subst eb; cases o2
        | succ j => simp at ea eb ⊢; exact R.ne i j s t (fun z => hij (by rw [z])) ea eb o1 o2⟩⟩
theorem dMow (ha : DL X c e ml) (hr : DM X c es ms) (hs : starEach (e :: es) X.env = (false, eval e X.env) :: starEach es X.env := by rfl) : DM X c (e :: es) (mMow ml ms) :=
  (pa_cons ha hr hs).imp fun σ H Q ⟨F, u, ρ, S, h⟩ => ⟨F, u, ρ, S, (After.split h).imp fun d u1 F1 H1 _ s1 g1 h1 q ws hF hn hq rw => ⟨F1, u1, ρ, S.step s1 g1, (After.split h1).imp fun ds u2 F2 H2 _ s2 g2 h2 vs R => by
    have hqp : q ≠ c.p := fun z => S.gd.ne (z ▸ hn)
    have hfar : ∀ (j : Nat) (t : Sd), ds[j]? = some t → t.own = true → vs[j]? ≠ some (.ref q) := fun j t ej o z => by
      have := R.at_ j _ t z ej
      cases t with
      | ow es' =>
        obtain ⟨q', ws', e1, _, _, e4, _⟩ := this
        cases e1
        rw [hq] at e4
        cases e4
      | oi _ _ _ => exact this
      | od _ _ => exact this
      | _ => cases o
    refine After.now (p := c.p) (F := F2) (H := H2) (u := u2) g2 h2 (.ref q :: vs) ⟨by simp [R.len], fun i w sd ea eb => ?_, fun i j s t hij ea eb o1 o2 => ?_⟩
    · cases i with
      | zero => simp at ea eb; subst ea; subst eb; exact ⟨q, ws, rfl, s2.eh q _ hqp hq (.inr (by intro _ z; cases z)), s2.off hF (by rw [hq]; simp), hn, rw.mono s2.ef⟩
      | succ i =>
        simp at ea eb
        have := R.at_ i w sd ea eb
        cases sd with
        | sh d => exact this
        | ow ds => obtain ⟨q, ws, h1, h2, h3, h4, h5⟩ := this; exact ⟨q, ws, h1, h2, h3, s1.back g1.ne h4, h5⟩
        | _ => exact this
    · cases i with
      | zero =>
        cases j with
        | zero => exact absurd rfl hij
        | succ j => simp at eb ⊢; exact fun z => hfar j t eb o2 z.symm
      | succ i =>
        cases j with
        | zero => simp at ea ⊢; exact fun z => hfar i s ea o1 z
        | succ j => simp at ea eb ⊢; exact R.ne i j s t (fun z => hij (by rw [z])) ea eb o1 o2⟩⟩
end
section
variable {c : Cf} {u : PuS} {F H : Hp} {σ : L2.St} {ρ : Env}
theorem Sta.setS {i : Nat} {v : V} {sd : Sd} (S : Sta c u F H σ ρ) (ok : SdOk c F H (some (some v)) sd) (far : sd.own = true → ∀ (j : Nat) (t : Sd), j ≠ i → ρ[j]? = some t → t.own = true → σ[j]? ≠ some (some v)) : Sta c u F H (σ.set i (some v)) (ρ.set i sd) := by
  refine ⟨S.ent, S.gd, by simpa using S.env.len, fun j t e => ?_, fun j k s t hjk e1 e2 o1 o2 => ?_⟩
  · rcases set_get e with ⟨rfl, rfl, hl⟩ | ⟨ne, e⟩
    · rw [List.getElem?_set_self (by rw [S.env.len]; exact hl)]; exact ok
    · rw [List.getElem?_set_ne ne]; exact S.env.at_ j t e
  · rcases set_get e1 with ⟨rfl, rfl, hl⟩ | ⟨n1, e1b⟩
    · rcases set_get e2 with ⟨h, _, _⟩ | ⟨n2, e2⟩
      · exact absurd h hjk
      · rw [List.getElem?_set_self (by rw [S.env.len]; exact hl), List.getElem?_set_ne n2]
        exact fun z => far o1 k t (Ne.symm n2) e2 o2 z.symm
    · rcases set_get e2 with ⟨rfl, rfl, hl⟩ | ⟨n2, e2⟩
      · rw [List.getElem?_set_ne n1, List.getElem?_set_self (by rw [S.env.len]; exact hl)]
        exact far o2 j s (Ne.symm n1) e1b o1
      · rw [List.getElem?_set_ne n1, List.getElem?_set_ne n2]; exact S.env.ne j k s t hjk e1b e2 o1 o2
end
/-- set slots in their order -/
def setAll : List Nat → List Sd → Env → Env
  | i :: is, s :: ss, ρ => setAll is ss (ρ.set i s)
  | _, _, ρ => ρ
def setV : List Nat → List V → L2.St → L2.St
  | i :: is, v :: vs, σ => setV is vs (σ.set i (some v))
  | _, _, σ => σ
theorem Mats.tail {W : Wo} {p : Addr} {F H H00 : Hp} {v : V} {vs : List V} {s : Sd} {ss : List Sd} (R : Mats W p F H H00 (v :: vs) (s :: ss)) : Mats W p F H H00 vs ss :=
  ⟨by have := R.len; simpa using this, fun i w sd ea eb => R.at_ (i + 1) w sd (by simpa using ea) (by simpa using eb), fun i j s t hij ea eb o1 o2 => by
    have := R.ne (i + 1) (j + 1) s t (by omega) (by simpa using ea) (by simpa using eb) o1 o2
    simpa using this⟩
/-- all owned slots known: their objects were there, or are among these -/
theorem Sta.setAll {c : Cf} {u0 u : PuS} {F0 H0 F H : Hp} {σ0 : L2.St} {ρ0 : Env} (S0 : Sta c u0 F0 H0 σ0 ρ0) : ∀ {is : List Nat} {vs : List V} {sds : List Sd} {σ : L2.St} {ρ : Env}, Sta c u F H σ ρ → Mats c.W c.p F H H0 vs sds → is.length = vs.length →
    (∀ (j : Nat) (t : Sd) (k : Nat) (s : Sd), ρ[j]? = some t → t.own = true → sds[k]? = some s → s.own = true → σ[j]? ≠ (vs[k]?).map some) →
    Sta c u F H (setV is vs σ) (Mi.setAll is sds ρ)
  | [], vs, sds, σ, ρ, S, R, hl, far => by
    unfold setV Mi.setAll
    exact S
  | i :: is, [], sds, σ, ρ, S, R, hl, far => by simp at hl
  | i :: is, v :: vs, [], σ, ρ, S, R, hl, far => by have := R.len; simp at this
  | i :: is, v :: vs, s :: ss, σ, ρ, S, R, hl, far => by
    show Sta c u F H (setV is vs (σ.set i (some v))) (Mi.setAll is ss (ρ.set i s))
    have hv := R.at_ 0 v s rfl rfl
    refine Sta.setAll S0 (S.setS (i := i) (v := v) (sd := s) ?_ fun o j t _ e o2 => far j t 0 s e o2 rfl o) R.tail (by simpa using hl) fun j t k s' e o ek ok => ?_
    · cases s with
      | sh d => exact ⟨v, rfl, hv⟩
      | ow ds =>
        obtain ⟨q, ws, rfl, h1, h2, h3, h4⟩ := hv
        exact ⟨q, ws, rfl, h1, h2, fun z => S0.gd.ne (z ▸ h3), S0.ent.back S0.gd.ne h3, h4⟩
      | un => trivial
      | oi _ _ _ => exact False.elim hv
      | od _ _ => exact False.elim hv
    · rcases set_get e with ⟨rfl, rfl, hl'⟩ | ⟨ne, e⟩
      · rw [List.getElem?_set_self (by rw [S.env.len]; exact hl')]
        have := R.ne 0 (k + 1) t s' (by omega) rfl (by simpa using ek) o ok
        intro z
        apply this
        simp at this ⊢
        cases q : vs[k]? with
        | none => rw [q] at z; cases z
        | some w => rw [q] at z; cases z; rfl
      · rw [List.getElem?_set_ne ne]
        have := far j t (k + 1) s' e o (by simpa using ek) ok
        simpa using this
theorem Mats.fresh {c : Cf} {u0 : PuS} {F0 H0 F H : Hp} {σ0 : L2.St} {ρ0 : Env} {vs : List V} {sds : List Sd} (S0 : Sta c u0 F0 H0 σ0 ρ0) (R : Mats c.W c.p F H H0 vs sds) (j : Nat) (t : Sd) (k : Nat) (s : Sd) (e : ρ0[j]? = some t) (o : t.own = true) (ek : sds[k]? = some s) (ok : s.own = true) : σ0[j]? ≠ (vs[k]?).map some := by
  intro z
  obtain ⟨q, hq, hne, _⟩ := (S0.env.at_ j t e).ref o
  rw [hq] at z
  cases ev : vs[k]? with
  | none => rw [ev] at z; cases z
  | some w =>
    rw [ev] at z
    have := R.at_ k w s ev ek
    cases z
    cases s with
    | ow ds =>
      obtain ⟨q', ws, e1, _, _, e4, _⟩ := this
      cases e1
      exact hne e4
    | oi _ _ _ => exact this
    | od _ _ => exact this
    | _ => cases ok
def mPar (is : List Nat) (ms : MM) : MS := fun ρ => M.bind (ms ρ) fun sds => if sds.length = is.length then M.pure (.nx (setAll is sds ρ)) else lft none
section
variable {X : Cx} {c : Cf} {pos : Pos} {a b d : Expr} {ms : MM}
theorem rdPar {is : List Nat} {Dn : Ends} {σ : L2.St} {H : Hp} (h : rdS c (mPar is ms) Dn σ H) : rdM c ms σ H fun vs H1 => vs.length = is.length ∧ Dn.nx (setV is vs σ) H1 := by
  obtain ⟨F, u, ρ, S, h⟩ := h
  refine ⟨F, u, ρ, S, (flowO.after S h).imp fun sds u1 F1 H1 _ s1 g1 h1 vs R => ?_⟩
  have h2 := h1.2
  split at h2
  · rename_i hl
    exact ⟨R.len.trans hl, h2 _ F1 H1 (Same.refl _) (Sta.setAll S h1.1 R (hl.symm.trans R.len.symm) (Mats.fresh S R))⟩
  · exact False.elim h2
theorem dPar {i j : Nat} {x y : Str} {px py pt : Pos} {kt k2 pt2} (hc : X.calm = true) (hN : X.N.Nodup) (hi : X.N[i]? = some x) (hj : X.N[j]? = some y) (hij : i ≠ j)
    (hx : X.env.scope.names.lookup x = some .local) (hy : X.env.scope.names.lookup y = some .local) (ha : DM X c [a, b] ms)
    (hw : swappedStores [.Tuple [.Name x px, .Name y py] kt pt] (.Tuple [a, b] k2 pt2) X.env = pure (some [x, y]) := by rfl)
    (hs : swapsWithSole [.Tuple [.Name x px, .Name y py] kt pt] (.Tuple [a, b] k2 pt2) pos.line X.env = pure false := by rfl) :
    DS X c (.Assign [.Tuple [.Name x px, .Name y py] kt pt] (.Tuple [a, b] k2 pt2) pos) (mPar [i, j] ms) :=
  (ps_par hc hN hi hj hij hx hy ha hw hs).imp fun Dn σ H h => by
    obtain ⟨F, u, ρ, S, h⟩ := rdPar h
    exact ⟨F, u, ρ, S, h.imp fun sds u1 F1 H1 _ s1 g1 h1 vs R => by
      obtain ⟨hl, hq⟩ := h1 vs R
      match vs, hl, hq with
      | [v, w], _, hq => exact ⟨v, w, rfl, hq⟩⟩
end

/-! ### calls with keywords -/
abbrev DK (X : Cx) (c : Cf) (kws : List Keyword) (m : MA) : Prop := PK X kws (rdA c m)
theorem vals_get {vs : List V} {us : List Value} (r : Vals vs us) (i : Nat) : (∃ v u, vs[i]? = some v ∧ us[i]? = some u ∧ RelV v u) ∨ (vs[i]? = none ∧ us[i]? = none) := by
  induction r generalizing i with
  | nil => right; simp
  | cons h r ih =>
    cases i with
    | zero => left; exact ⟨_, _, rfl, rfl, h⟩
    | succ i => simpa using ih i
section
variable {X : Cx} {c : Cf} {k n np : Nat} {f : Addr} {fd : FuncData} {ps ks : List Str} {x : Str} {p pos apos : Pos} {e o : Expr} {es : List Expr} {kws : List Keyword} {ms mk : MA} {mf : List D → M D} {perm : List Nat} {mc : Value} {q g : Addr} {m : Str} {pl : Sem Bool} {nm : Option Str} {kpos : Pos} {me : ME}
theorem dKnil : DK X c [] mNil := ⟨fun pos pins s σ H Q I ⟨F, u, ρ, S, h⟩ => pk_nil.run pos pins s σ H Q I (After.now S.gd h [] Reps.nil)⟩
theorem dKcons {nm} (ha : DE X c e me) (hr : DK X c kws mk) : DK X c (⟨nm, e, kpos⟩ :: kws) (mCons me mk) :=
  ⟨fun pos pins s σ H Q I ⟨F, u, ρ, S, h⟩ => (pk_cons (nm := nm) (kpos := kpos) ha hr).run pos pins s σ H Q I ⟨F, u, ρ, S, (After.split h).imp fun d u1 F1 H1 _ s1 g1 h1 v rv => ⟨F1, u1, ρ, S.step s1 g1, (After.split h1).imp fun ds u2 F2 H2 _ s2 g2 h2 vs rvs => After.now (p := c.p) (F := F2) (H := H2) (u := u2) g2 h2 (v :: vs) (Reps.cons (rv.mono s2.ef) rvs)⟩⟩⟩
end

/-! ### fresh lists out of slices and list(..) -/
section
variable {X : Cx} {c : Cf} {e : Expr} {lo hi : Option Expr} {m : ME} {ml mh : MO} {pos p2 : Pos}
def mCBO (f : List D → Option (List D)) (ms : MA) : MA := fun ρ => M.bind (ms ρ) fun xs => lft (f xs)
end
end Mi

set_option Elab.async false
set_option linter.all false
set_option maxRecDepth 100000
set_option maxHeartbeats 4000000
/-! MiB: the head's facts by names: a Hook of this framework's own. -/
namespace Mi
open PySem PySem.Spec PyProof.Rows L2 He
variable [TB : Tabl]

/-! ### the written part: what the module's names reach -/
def WW (cs : List Str) (K : PySem.W.Frag) : Wo := ⟨K, ga K, cs⟩
/-! ### places of defs -/
abbrev FunP (K : PySem.W.Frag) (d : DefP) : Prop := FunD K d.name d.qual d.params d.body d.scope [] [] (d.at_.ad K) (fdOf K (d.at_.ad K))
theorem DefP.funD {K : PySem.W.Frag} {d : DefP} (e : fnP K (d.at_.ad K) = d.val) (c : d.ok K = true) : FunP K d := by
  obtain ⟨kp, c2⟩ := ba c
  unfold fnP at e
  unfold FunP fdOf
  cases q : K.lookup (d.at_.ad K) with
  | none =>
    rw [q] at c2
    cases c2
  | some o =>
    obtain ⟨oc, od, dt, osl⟩ := o
    rw [q] at c2 e
    cases dt with
    | func fd =>
      obtain ⟨n1, n2, n3, n4, n5, n6, n7, n8, n9, n10, n11, n12, n13, n14, n15⟩ := fd
      have e2 : (some (n1, n2, n3, n4, n5, n6, n7, n15) : FnW) = some (d.name, d.qual, d.params, .stmts d.body, d.scope, mainGlobals, [], builtinsNs) := e
      simp only [Option.some.injEq, Prod.mk.injEq] at e2
      obtain ⟨h1, h2, h3, h4, h5, h6, h7, h8⟩ := e2
      subst h1 h2 h3 h4 h5 h6 h7 h8
      have c3 : (PySem.W.codeIn K n13 d.qual && dflB K n8 []) = true := c2
      obtain ⟨k1, k2⟩ := ba c3
      exact ⟨⟨oc, od, n8, n9, n10, n11, n12, n13, n14, osl, rfl, q, k1, dflB_ok k2, .inl rfl⟩, kp⟩
    | _ => cases c2
/-! ### facts -/
section
variable {K : PySem.W.Frag}
theorem prop_ok {c f : Str} (h : (Ft.prop c f).ok K = true) : PropOf K (ga K c) f (ma K (ga K c) f) ((Pl.prop c f).ad K) := by
  obtain ⟨h1, h⟩ := ba h
  obtain ⟨h2, h⟩ := ba h
  obtain ⟨h3, h4⟩ := ba h
  refine ⟨eqO_ok h1, eqO_ok h2, of_decide_eq_true h3, ?_⟩
  unfold Pl.ad recFn
  split at h4
  · rename_i g rest e
    simp only [e]
    exact ⟨rest, rfl⟩
  · cases h4
theorem eqc_ok {c : Str} (h : (Ft.eqc c).ok K = true) : EqC K (ga K c) ((Pl.meth c "__eq__").ad K) := by
  obtain ⟨h1, h⟩ := ba h
  obtain ⟨h2, h⟩ := ba h
  obtain ⟨h3, h4⟩ := ba h
  exact ⟨eqO_ok h1, h2, eqO_ok h3, of_decide_eq_true h4⟩
theorem len_ok {c : Str} (h : (Ft.len c).ok K = true) : PySem.W.findIn K (.ref (ga K c)) "__len__" = some (some (.ref ((Pl.meth c "__len__").ad K))) ∧ PySem.W.isFn K (.ref ((Pl.meth c "__len__").ad K)) = true := by
  obtain ⟨h1, h2⟩ := ba h
  exact ⟨eqO_ok h1, h2⟩
theorem isi_ok {cs : List Str} (h : (Ft.isi cs).ok K = true) : IsiOk (WW cs K) := by
  obtain ⟨h1, h⟩ := ba h
  obtain ⟨h2, h⟩ := ba h
  obtain ⟨h3, h4⟩ := ba h
  refine ⟨fun c hc H a dx fs e => ?_, fun c hc k hk => ?_, fun a ha k hk => ?_, fun c hc n hn => ?_⟩
  · obtain ⟨k1, k⟩ := ba (List.all_eq_true.mp h1 c hc)
    obtain ⟨k2, k⟩ := ba k
    obtain ⟨k3, k⟩ := ba k
    obtain ⟨k4, k5⟩ := ba k
    obtain ⟨c1, c⟩ := ba k1
    obtain ⟨c2, c⟩ := ba c
    obtain ⟨c3, c4⟩ := ba c
    exact .ins e ⟨c1, c2, c3, eqO_ok c4⟩ (eqO_ok k2) (eqO_ok k3) (of_decide_eq_true k4) (of_decide_eq_true k5)
  · exact of_decide_eq_true (List.all_eq_true.mp (List.all_eq_true.mp h2 c hc) k hk)
  · exact of_decide_eq_true (List.all_eq_true.mp (List.all_eq_true.mp h3 a ha) k hk)
  · exact of_decide_eq_true (List.all_eq_true.mp (List.all_eq_true.mp h4 c hc) n hn)
end
/-! ### the Hook -/
/-- all that the walk leans on -/
structure HF (fa : List Ft) (fn : List DefP) (K : PySem.W.Frag) (mg : Str → Option Value) : Prop where
  says : SaysP fa fn K
  ns : ∃ h : Heap, K.In h ∧ h.Ns mainGlobals mg
section
variable {fa : List Ft} {fn : List DefP} {K : PySem.W.Frag} {mg : Str → Option Value}
theorem HF.fact (c : HF fa fn K mg) (i : Nat) {f : Ft} (h : fa[i]? = some f) : f.ok K = true := by
  have c1 := (ba (show ((fa.all fun f => f.ok K) && fn.all fun d => d.ok K) = true from congrArg (fun z : AlP => z.1) c.says)).1
  exact List.all_eq_true.mp c1 f (List.mem_of_getElem? h)
theorem HF.fun_ (c : HF fa fn K mg) (i : Nat) {d : DefP} (h : fn[i]? = some d) : FunP K d := by
  have c2 := (ba (show ((fa.all fun f => f.ok K) && fn.all fun d => d.ok K) = true from congrArg (fun z : AlP => z.1) c.says)).2
  have e : fn.map (fun d => fnP K (d.at_.ad K)) = fn.map DefP.val := congrArg (fun z : AlP => z.2) c.says
  have e2 : (fn.map fun d => fnP K (d.at_.ad K))[i]? = (fn.map DefP.val)[i]? := by rw [e]
  rw [List.getElem?_map, List.getElem?_map, h] at e2
  exact DefP.funD (Option.some.inj e2) (List.all_eq_true.mp c2 d (List.mem_of_getElem? h))
theorem HF.glo (c : HF fa fn K mg) (i : Nat) {x : Str} (h : fa[i]? = some (.b (.glo x))) : mg x = some (.ref (ga K x)) := by
  obtain ⟨_, X, G⟩ := c.ns
  exact glo_ok X G (c.fact i h)
theorem HF.free (c : HF fa fn K mg) (i : Nat) {x : Str} (h : fa[i]? = some (.b (.free x))) : mg x = none := by
  obtain ⟨_, X, G⟩ := c.ns
  exact free_ok X G (c.fact i h)
theorem HF.int (c : HF fa fn K mg) (i : Nat) {x : Str} {n : Int} (h : fa[i]? = some (.b (.int x n))) : ∃ t, mg x = some (.int n t) := by
  obtain ⟨_, X, G⟩ := c.ns
  exact int_ok X G (c.fact i h)
theorem HF.str (c : HF fa fn K mg) (i : Nat) {x z : Str} (h : fa[i]? = some (.b (.str x z))) : ∃ t, mg x = some (.str z t) := by
  obtain ⟨_, X, G⟩ := c.ns
  exact str_ok X G (c.fact i h)
theorem HF.cls (c : HF fa fn K mg) (i : Nat) {x : Str} (h : fa[i]? = some (.b (.cls x))) : Cls K (ga K x) := cls_ok (c.fact i h)
theorem HF.noat (c : HF fa fn K mg) (i : Nat) {x f : Str} (h : fa[i]? = some (.b (.noat x f))) : NoAttr K (ga K x) f := noat_ok (c.fact i h)
theorem HF.meth (c : HF fa fn K mg) (i : Nat) {x m : Str} (h : fa[i]? = some (.b (.meth x m))) : Meth K (ga K x) m ((Pl.meth x m).ad K) := meth_ok (c.fact i h)
theorem HF.mkr (c : HF fa fn K mg) (i : Nat) {x : Str} (h : fa[i]? = some (.b (.mkr x))) : Mk K (ga K x) ((Pl.meth x "__init__").ad K) := mkr_ok (c.fact i h)
end
/-- a def's promise at its place -/
abbrev FO (cs : List Str) (P : Program) (w : World) (K : PySem.W.Frag) (mg : Str → Option Value) (base : Heap) (k : Nat) (pl : Pl) (ps : List Str) (n : Nat) (mf : List D → M D) : Prop := FnOk P w K mg base CX0 k (pl.ad K) (fdOf K (pl.ad K)) ps (spM (WW cs K) n mf)
end Mi

set_option Elab.async false
set_option linter.all false
set_option maxRecDepth 100000
set_option maxHeartbeats 4000000
/-! MiC: walks over lists or tuples; owned lists borrowed by an expression; names of built-ins. -/
namespace Mi
open PySem PySem.Spec PyProof.Rows L2
variable [TB : Tabl]

/-! ### built-ins by name -/
theorem bb_len : bootBuiltins "len" = some (.builtin "len") := by decide +kernel
theorem bb_max : bootBuiltins "max" = some (.builtin "max") := by decide +kernel
theorem bb_min : bootBuiltins "min" = some (.builtin "min") := by decide +kernel
theorem bb_all : bootBuiltins "all" = some (.builtin "all") := by decide +kernel
theorem bb_divmod : bootBuiltins "divmod" = some (.builtin "divmod") := by decide +kernel
theorem bb_isinstance : bootBuiltins "isinstance" = some (.builtin "isinstance") := by decide +kernel
theorem bb_int : bootBuiltins "int" = some (.type "int") := by decide +kernel
theorem bb_bool : bootBuiltins "bool" = some (.type "bool") := by decide +kernel
theorem bb_str : bootBuiltins "str" = some (.type "str") := by decide +kernel
theorem bb_tuple : bootBuiltins "tuple" = some (.type "tuple") := by decide +kernel

/-! ### walks over lists or tuples -/
theorem _root_.L2.PI.or {X : Cx} {tg e : Expr} {t t' : TI} (h : PI X tg e t) (h' : PI X tg e t') : PI X tg e (fun σ H R => t σ H R ∨ t' σ H R) := ⟨fun pins s σ H R I q => q.elim (h.run pins s σ H R I) (h'.run pins s σ H R I)⟩
/-- what is walked over -/
def itD : D → Option (List D)
  | .lst ds => some ds
  | .tup ds => some ds
  | .str z => some (z.cps.toList.map fun c => .str ⟨#[c]⟩)
  | _ => none
def mIany (m : ME) : MA := fun ρ => M.bind (m ρ) fun d => lft (itD d)
theorem walkD_str {W : Wo} {p : Addr} {F : Hp} {z : Str} : WalkD W p (Its z) F (z.cps.toList.map fun c => .str ⟨#[c]⟩) := by
  refine ⟨_, _, by simpa using walk_str (z := z), fun _ _ => trivial, fun i H x H' F2 u d hd e g hy => ?_⟩
  obtain ⟨rfl, c, hc, rfl⟩ := hy
  refine ⟨F2, Stp.refl, g, ?_⟩
  rw [List.getElem?_map] at hd
  have hc' : z.cps.toList[i]? = some c := by simpa using hc
  rw [hc'] at hd
  cases hd
  exact .str _
def enumA : List D → Option (List D) := fun ds => match ds with
  | [.lst xs] => some (enumD xs)
  | [.tup xs] => some (enumD xs)
  | _ => none
section
variable {X : Cx} {c : Cf} {tg e a b : Expr} {m : ME} {ms : MA} {pos q : Pos}
theorem dIany (h : DE X c e m) (hK : X.K = c.W.K := by rfl) : DI X c tg e (mIany m) :=
  ((dIlist h hK).or ((dItup h hK).or (pi_str h))).imp fun σ H R ⟨F, u, ρ, S, h⟩ => by
    unfold mIany M.bind at h
    cases e1 : m ρ u with
    | none => rw [e1] at h; exact False.elim h
    | some y =>
      obtain ⟨d, u1⟩ := y
      rw [e1] at h
      cases d with
      | lst ds => exact .inl ⟨F, u, ρ, S, by unfold mIseq M.bind; rw [e1]; exact h⟩
      | tup ds => exact .inr (.inl ⟨F, u, ρ, S, by unfold mItup M.bind; rw [e1]; exact h⟩)
      | str z =>
        refine .inr (.inr ⟨F, u, ρ, S, ?_⟩)
        rw [e1]
        exact fun F' H' s' g' v rv => ⟨z, rv.str_, h F' H' s' g' _ walkD_str⟩
      | _ => exact False.elim h
theorem dIenumA {elts : List Expr} {kk : Nat} {tpos : Pos} (hg : Gl X "enumerate") (hm : X.mg "enumerate" = none) (ha : DA X c [a] ms) (hs : starEach [a] X.env = [(false, eval a X.env)] := by rfl) (hK : X.K = c.W.K := by rfl) :
    DI X c (.Tuple elts kk tpos) (.Call (.Name "enumerate" q) [a] [] pos) (mIof enumA ms) :=
  ((dIenum hg hm ha hs hK).or (dIenumT hg hm ha hs hK)).imp fun σ H R ⟨F, u, ρ, S, h⟩ => by
    unfold mIof M.bind at h
    cases e1 : ms ρ u with
    | none => rw [e1] at h; exact False.elim h
    | some y =>
      obtain ⟨ds, u1⟩ := y
      rw [e1] at h
      have key : ∀ f, enumA ds = f ds → rdI c (mIof f ms) σ H R := fun f hf => ⟨F, u, ρ, S, by
        unfold mIof M.bind
        rw [e1]
        show After c.p F H (lft (f ds) u1) _
        rw [← hf]
        exact h⟩
      match ds, h, key with
      | [.lst xs], h, key => exact .inl (key _ rfl)
      | [.tup xs], h, key => exact .inr (key _ rfl)
      | [], h, _ => exact False.elim h
      | [.non], h, _ => exact False.elim h
      | [.bl _], h, _ => exact False.elim h
      | [.int _], h, _ => exact False.elim h
      | [.str _], h, _ => exact False.elim h
      | [.obj _ _ _], h, _ => exact False.elim h
      | [.pur], h, _ => exact False.elim h
      | [.ty _], h, _ => exact False.elim h
      | [.cls _], h, _ => exact False.elim h
      | [.scr _], h, _ => exact False.elim h
      | [.exc _ _ _], h, _ => exact False.elim h
      | [.dct _ _], h, _ => exact False.elim h
      | [.ecl _], h, _ => exact False.elim h
      | [.ndc _ _], h, _ => exact False.elim h
      | x :: y :: r, h, _ => exact (by cases x <;> exact False.elim h)
end

/-! ### borrowing -/
mutual
def noLst : D → Bool
  | .lst _ => false
  | .scr _ => false
  | .tup ds => noLsts ds
  | .obj _ _ ds => noLsts ds
  | .exc _ _ ds => noLsts ds
  | .dct _ ds => noLsts ds
  | .ndc _ _ => false
  | _ => true
def noLsts : List D → Bool
  | [] => true
  | d :: ds => noLst d && noLsts ds
end
theorem noLsts_at : ∀ {ds : List D} {i : Nat} {d : D}, noLsts ds = true → ds[i]? = some d → noLst d = true
  | [], i, d, _, e => by simp at e
  | a :: ds, 0, d, h, e => by
    simp at e
    subst e
    unfold noLsts at h
    exact (Bool.and_eq_true_iff.mp h).1
  | a :: ds, i + 1, d, h, e => by
    unfold noLsts at h
    exact noLsts_at (Bool.and_eq_true_iff.mp h).2 (by simpa using e)
theorem Rep.without {W : Wo} {p q : Addr} {F F' : Hp} {ws : List V} (hq : F q = some (.lst ws)) (sub : ∀ a o, a ≠ q → F a = some o → F' a = some o) {v : V} {d : D} (h : Rep W p F v d) : noLst d = true → Rep W p F' v d := by
  induction h with
  | non => exact fun _ => .non
  | bl b => exact fun _ => .bl b
  | int i => exact fun _ => .int i
  | str x => exact fun _ => .str x
  | ty n => exact fun _ => .ty n
  | cls c hc => exact fun _ => .cls c hc
  | pur => exact fun _ => .pur
  | scr h => intro n; unfold noLst at n; cases n
  | tup h l r ih =>
    intro n
    unfold noLst at n
    refine .tup ?_ l fun i v d e1 e2 => ih i v d e1 e2 (noLsts_at n e2)
    rcases h with (h | ⟨o, h⟩) | h
    · exact .inl (.inl (sub _ _ (fun z => by rw [z, hq] at h; cases h) h))
    · exact .inl (.inr ⟨o, sub _ _ (fun z => by rw [z, hq] at h; cases h) h⟩)
    · exact .inr h
  | lst h l r ih => intro n; unfold noLst at n; cases n
  | obj hc h lk l r ih =>
    intro n
    unfold noLst at n
    exact .obj hc (sub _ _ (fun z => by rw [z, hq] at h; cases h) h) lk l fun i v d e1 e2 => ih i v d e1 e2 (noLsts_at n e2)
  | exc hc h hk hf h2 hx lk l r ih =>
    intro n
    unfold noLst at n
    exact .exc hc (sub _ _ (fun z => by rw [z, hq] at h; cases h) h) hk hf h2 (hx.imp (fun w => ⟨w.1, sub _ _ (fun z => by have := w.2; rw [z, hq] at this; cases this) w.2⟩) id) lk l fun i v d e1 e2 => ih i v d e1 e2 (noLsts_at n e2)
  | ecl c hc => exact fun _ => .ecl c hc
  | ndc h hx lk lv l hk rv rk r ihk ih => exact fun z => by unfold noLst at z; cases z
  | dct h lk l r ih =>
    intro n
    unfold noLst at n
    exact .dct (sub _ _ (fun z => by rw [z, hq] at h; cases h) h) lk l fun i v d e1 e2 => ih i v d e1 e2 (noLsts_at n e2)
def del (F : Hp) (q : Addr) : Hp := fun a => if a = q then none else F a
theorem del_ne {F : Hp} {q a : Addr} (h : a ≠ q) : del F q a = F a := if_neg h
theorem del_of {F : Hp} {q a : Addr} {o : HO} (h : del F q a = some o) : a ≠ q ∧ F a = some o := by
  unfold del at h
  split at h
  · cases h
  · exact ⟨by assumption, h⟩
/-- an owned list lent out: frozen within, taken back behind -/
theorem Sta.lend {c : Cf} {u : PuS} {F H : Hp} {σ : L2.St} {ρ : Env} (S : Sta c u F H σ ρ) (i : Nat) : Mi.frz i ρ = ρ ∨ ∃ q ws F1, Sta c u F1 H σ (Mi.frz i ρ) ∧ F1 q = some (.lst ws) ∧
    ∀ u' F' H', Stp c.p F1 H F' H' → Gd c.p u' F' H' → Stp c.p F H (del F' q) H' ∧ Gd c.p u' (del F' q) H' ∧ F' q = some (.lst ws) := by
  unfold Mi.frz
  cases ho : vOw ρ i with
  | none => exact .inl rfl
  | some ds =>
    right
    obtain ⟨q, vs, e1, hq, hf, hp, h0, r⟩ := S.ow ho
    have hsm : Same F (upd F q (.lst vs)) := fun a o e => by rw [upd_ne (fun z => by rw [z, hf] at e; cases e)]; exact e
    have qs : ∀ {j : Nat} {t : Sd} {a : Addr}, i ≠ j → ρ[j]? = some t → t.own = true → σ[j]? = some (some (.ref a)) → a ≠ q := fun {j t a} ne e2 o z h => by
      subst h
      exact S.env.ne i j _ t ne (vOw_at ho) e2 rfl o (e1.trans z.symm)
    refine ⟨q, vs, upd F q (.lst vs), ⟨⟨S.ent.ef.trans hsm, S.ent.eh, S.ent.et, fun a o e => ?_⟩, ⟨fun a o e => ?_, S.gd.pu, fun l e => by rw [upd_ne (Ne.symm hp)]; exact S.gd.off l e, nt_upd S.gd.nt (by intro _ z; cases z), S.gd.tb, S.gd.hp⟩, by simpa using S.env.len, fun j t e => ?_, fun j k t t' h ea eb o1 o2 => ?_⟩, upd_same, fun u' F' H' s g => ⟨⟨fun a o e => ?_, s.eh, s.et, fun a o e => ?_⟩, ⟨fun a o e => ?_, g.pu, fun l e => ?_, fun a ps z => g.nt a ps (del_of z).2, g.tb, g.hp⟩, s.ef q _ upd_same⟩⟩
    · by_cases ha : a = q
      · subst ha; exact .inr h0
      · rw [upd_ne ha] at e; exact S.ent.nw a o e
    · by_cases ha : a = q
      · subst ha; rw [upd_same] at e; cases e; exact hq
      · rw [upd_ne ha] at e; exact S.gd.ex a o e
    · rcases set_get e with ⟨rfl, rfl, _⟩ | ⟨ne, e⟩
      · exact ⟨.ref q, e1, Rep.mkL upd_same (r.mono hsm)⟩
      · have k := S.env.at_ j t e
        cases t with
        | un => trivial
        | sh d => obtain ⟨v, z, r'⟩ := k; exact ⟨v, z, r'.mono hsm⟩
        | ow es => obtain ⟨a, xs, z, ha, hfa, w1, w2, r'⟩ := k; exact ⟨a, xs, z, ha, by rw [upd_ne (qs ne e rfl z)]; exact hfa, w1, w2, r'.mono hsm⟩
        | oi kk ks es => obtain ⟨dx, xs, z, ha, hfa, w1, w2, w3, r'⟩ := k; exact ⟨dx, xs, z, ha, by rw [upd_ne (qs ne e rfl z)]; exact hfa, w1, w2, w3, r'.mono hsm⟩
        | od ks es => obtain ⟨a, ob, xs, ws, z, ha, hfa, w1, w2, w3, r'⟩ := k; exact ⟨a, ob, xs, ws, z, ha, by rw [upd_ne (qs ne e rfl z)]; exact hfa, w1, w2, w3, r'.mono hsm⟩
    · rcases set_get ea with ⟨rfl, rfl, _⟩ | ⟨n1, ea⟩
      · cases o1
      · rcases set_get eb with ⟨rfl, rfl, _⟩ | ⟨n2, eb⟩
        · cases o2
        · exact S.env.ne j k t t' h ea eb o1 o2
    · have ha : a ≠ q := fun z => by rw [z, hf] at e; cases e
      rw [del_ne ha]
      exact s.ef a o (by rw [upd_ne ha]; exact e)
    · obtain ⟨ha, e⟩ := del_of e
      rcases s.nw a o e with h | h
      · rw [upd_ne ha] at h; exact .inl h
      · exact .inr h
    · obtain ⟨ha, e⟩ := del_of e
      exact g.ex a o e
    · rw [del_ne (Ne.symm hp)]
      exact g.off l e
def mBorL (i : Nat) (m : MA) : MA := fun ρ => M.bind (m (frz i ρ)) fun d => lft (if noLsts d = true then some d else none)
section
variable {X : Cx} {c : Cf} {e : Expr} {m : ME} {mt : MT} {ml : MA} {i : Nat}
end
end Mi

set_option Elab.async false
set_option linter.all false
set_option maxRecDepth 100000
set_option maxHeartbeats 4000000
/-! MiD: == and != of objects as conditions; chained comparisons. -/
namespace Mi
open PySem PySem.Spec PyProof.Rows L2
variable [TB : Tabl]
section
variable {X : Cx} {c : Cf} {k : Nat} {f : Addr} {fd : FuncData} {ps : List Str} {mf : List D → M D} {ck : Str} {a b : Expr} {ma mb : ME} {pos : Pos}
theorem rdNeO : ∀ σ H Q, rdE c (mNeO ck mf ma mb) σ H Q → tOp (rOwn (c.W.cl ck) (fun b => !b) (spM c.W 2 mf)) (rdE c ma) (rdE c mb) σ H Q :=
  fun σ H Q ⟨F, u, ρ, S, h⟩ =>
    ⟨F, u, ρ, S, (After.split h).imp fun x u1 F1 H1 _ s1 g1 h1 v rv => ⟨F1, u1, ρ, S.step s1 g1, (After.split h1).imp fun y u2 F2 H2 _ s2 g2 h2 w rw => by
      have rv := rv.mono s2.ef
      split at h2
      · split at h2
        · rename_i hh
          obtain ⟨rfl, e2⟩ := hh
          subst e2
          obtain ⟨p1, dx, vs, rfl, h3, _⟩ := id rv.obj_
          obtain ⟨p2, dy, ws, rfl, h4, _⟩ := id rw.obj_
          refine ⟨p1, p2, dx, dy, _, _, rfl, rfl, g2.ex _ _ h3, g2.ex _ _ h4, rfl, c.p, F2, u2, [_, _], g2, Reps.cons rv (Reps.cons rw Reps.nil), (After.split h2).imp fun d u3 F3 H3 _ s3 g3 h5 z rz => ?_⟩
          split at h5
          · rename_i bb _h
            have h6 : After c.p F3 H3 (some (D.bl (!bb), u3)) (fun d _ F' H' => ∀ v, Rep c.W c.p F' v d → Q v H') := h5
            exact ⟨bb, rz.bl_, After.now g3 h6 _ (.bl _)⟩
          · exact False.elim h5
        · exact False.elim h2
      · exact False.elim h2⟩⟩
theorem dTneO (G : FnOk X.prog X.w X.K X.mg X.base CX0 k f fd ps (spM c.W 2 mf)) (hr : Room (k + 1) X.A) (hb : Binds X.K fd ps []) (hc : EqC X.K (c.W.cl ck) f) (ha : DE X c a ma) (hb' : DE X c b mb) : DT X c (.Compare a [.NotEq] [b] pos) (mB (mNeO ck mf ma mb)) :=
  (pt_cmpR (op_neOwn G hr hb hc) ha hb' (nomark _)).imp fun σ H Q h => rdNeO σ H _ (rdB σ H Q h)
end
end Mi

set_option Elab.async false
set_option linter.all false
set_option maxRecDepth 100000
set_option maxHeartbeats 4000000
/-! MiE: the purse read and written; defs that return fresh lists; a call with a purse of its own. -/
namespace Mi
open PySem PySem.Spec PyProof.Rows L2
variable [TB : Tabl]

/-! ### the purse -/
def getP (d k : D) : M D := fun u => match d, k, u with
  | .pur, .int j, .real l => (atI l j).map fun n => (.int n, u)
  | _, _, _ => none
def putP (d k v : D) : M Unit := fun u => match d, k, v, u with
  | .pur, .int j, .int a, .real l => (ixN l.length j).map fun n => ((), .real (l.set n a))
  | _, _, _, _ => none
def mIxP (i : Nat) (mi : ME) : ME := fun ρ => M.bind (mi ρ) fun k => M.bind (lft (vSh ρ i)) fun d => getP d k
def mPutP (i : Nat) (m mi : ME) : MS := fun ρ => M.bind (m ρ) fun v => M.bind (mi ρ) fun k => M.bind (lft (vSh ρ i)) fun d => M.bind (putP d k v) fun _ => M.pure (.nx ρ)
def mDmP (i : Nat) (mi : ME) (j : Nat) (m : ME) : MS := fun ρ => M.bind (m ρ) fun v => match v with
  | .tup [.int a, .int b] => M.bind (mi ρ) fun k => M.bind (lft (vSh ρ i)) fun d => M.bind (putP d k (.int a)) fun _ => M.pure (.nx (ρ.set j (.sh (.int b))))
  | _ => lft none
theorem Sta.purse {c : Cf} {l l' : List Int} {F H : Hp} {σ : L2.St} {ρ : Env} (S : Sta c (.real l) F H σ ρ) : Sta c (.real l') F (upd H c.p (.lst (l'.map V.int))) σ ρ := by
  have hp := S.gd.off l rfl
  refine ⟨⟨S.ent.ef, fun a o h e n => by rw [upd_ne h]; exact S.ent.eh a o h e n, fun a ps h e => by
    rw [upd_ne h]; exact S.ent.et a ps h e, S.ent.nw⟩, ⟨fun a o e => ?_, upd_same, fun _ _ => hp, S.gd.nt, tabs_over S.gd.pu S.gd.tb, (by intro _ z; cases z)⟩, S.env.len, fun i s e => ?_, S.env.ne⟩
  · rw [upd_ne (fun z => by rw [z, hp] at e; cases e)]; exact S.gd.ex a o e
  · have k := S.env.at_ i s e
    cases s with
    | un => trivial
    | sh d => exact k
    | ow es => obtain ⟨a, xs, z, ha, hf, w1, w⟩ := k; exact ⟨a, xs, z, by rw [upd_ne w1]; exact ha, hf, w1, w⟩
    | oi kk ks es => obtain ⟨dx, xs, z, ha, hf, w1, w⟩ := k; exact ⟨dx, xs, z, by rw [upd_ne w1]; exact ha, hf, w1, w⟩
    | od ks es => obtain ⟨a, ob, xs, ws, z, ha, hf, w1, w⟩ := k; exact ⟨a, ob, xs, ws, z, by rw [upd_ne w1]; exact ha, hf, w1, w⟩
theorem Gd.purse {p : Addr} {l : List Int} {F H : Hp} (g : Gd p (.real l) F H) : H p = some (.lst (l.map V.int)) := g.pu
section
variable {X : Cx} {c : Cf} {pos : Pos} {e ie : Expr} {m mi : ME} {i : Nat} {x : Str}
theorem Rep.pur_ {W : Wo} {p : Addr} {F : Hp} {v : V} (h : Rep W p F v .pur) : v = .ref p := by cases h; rfl
theorem dIxP (i : Nat) {x : Str} {p0 : Pos} (hk : DE X c ie mi) (hN : X.N[i]? = some x := by rfl) (hv : Vis X.env.scope x := by first | exact Or.inl rfl | exact Or.inr (Or.inl rfl) | exact Or.inr (Or.inr rfl)) (hd : (x == ("__debug__" : Str)) = false := by decide)
    (hcd : (x == ("__classdict__" : Str)) = false := by decide) (hs : PlainIx ie := by exact fun _ _ => rfl) : DE X c (.Subscript (.Name x p0) ie pos) (mIxP i mi) :=
  (pe_ix ix_list (pe_var (i := i) hN hv hd hcd) hk hs).imp fun σ H Q ⟨F, u, ρ, S, h⟩ => by
    unfold mIxP at h
    cases ho : vSh ρ i with
    | none =>
      exfalso
      unfold M.bind at h
      cases e1 : mi ρ u with
      | none => rw [e1] at h; exact h
      | some y => rw [e1, ho] at h; exact h
    | some d =>
      obtain ⟨v, ev, rv⟩ := S.var ho
      refine ⟨v, ev, F, u, ρ, S, (After.split h).imp fun k u2 F2 H2 _ s2 g2 h2 w rw => ?_⟩
      obtain ⟨d', e2, h3⟩ := lft_some' h2
      rw [ho] at e2
      cases e2
      cases d with
      | pur =>
        cases k with
        | int j =>
          cases u2 with
          | real l =>
            have h4 : After c.p F2 H2 ((atI l j).map fun n => (D.int n, PuS.real l)) fun d _ F' H' => ∀ v, Rep c.W c.p F' v d → Q v H' := h3
            cases e4 : atI l j with
            | none => rw [e4] at h4; exact False.elim h4
            | some n =>
              rw [e4] at h4
              have h5 : After c.p F2 H2 (some (D.int n, PuS.real l)) fun d _ F' H' => ∀ v, Rep c.W c.p F' v d → Q v H' := h4
              refine ⟨c.p, _, j, .int n, rv.pur_, rw.int_, SqL.of g2.purse, by rw [atI_map, e4]; rfl, After.now g2 h5 _ (.int n)⟩
          | idle o => exact False.elim h3
        | _ => exact False.elim h3
      | _ => cases k <;> exact False.elim h3
theorem put_ok {F H : Hp} {u : PuS} {σ : L2.St} {ρ ρ' : Env} {d k v : D} {vd vk vv : V} {Dn : Ends} {σ' : L2.St} (S : Sta c u F H σ ρ) (rd : Rep c.W c.p F vd d) (rk : Rep c.W c.p F vk k) (rv : Rep c.W c.p F vv v)
    (h : flowO c F Dn (M.bind (putP d k v) (fun _ => M.pure (.nx ρ')) u)) (hs : ∀ {u' F' H'}, Sta c u' F' H' σ ρ → Sta c u' F' H' σ' ρ') : rSetL vd vk vv H fun H4 => Dn.nx σ' H4 := by
  unfold M.bind at h
  cases d with
  | pur =>
    cases k with
    | int j =>
      cases v with
      | int a =>
        cases u with
        | real l =>
          have e0 : putP D.pur (D.int j) (D.int a) (PuS.real l) = (ixN l.length j).map fun n => ((), PuS.real (l.set n a)) := rfl
          rw [e0] at h
          have h2 := h
          cases e1 : ixN l.length j with
          | none => rw [e1] at h2; exact False.elim h2
          | some n =>
            rw [e1] at h2
            refine ⟨c.p, _, j, n, rd.pur_, rk.int_, S.gd.purse, by rw [List.length_map]; exact e1, ?_⟩
            rw [rv.int_, ← List.map_set]
            exact h2 σ' F _ (Same.refl _) (hs (S.purse (l' := l.set n a)))
        | idle o => exact False.elim h
      | _ => exact False.elim h
    | _ => cases v <;> exact False.elim h
  | _ => cases k <;> cases v <;> exact False.elim h
theorem dPutP (i : Nat) {x : Str} {p0 tp : Pos} (he : DE X c e m) (hk : DE X c ie mi) (hN : X.N[i]? = some x := by rfl) (hv : Vis X.env.scope x := by first | exact Or.inl rfl | exact Or.inr (Or.inl rfl) | exact Or.inr (Or.inr rfl)) (hd : (x == ("__debug__" : Str)) = false := by decide)
    (hcd : (x == ("__classdict__" : Str)) = false := by decide)
    (ha : ∀ v, assign (.Subscript (.Name x p0) ie tp) X.env v = (do
      let ov ← holding [v] (eval (.Name x p0) X.env)
      let iv ← holding [v, ov] (eval ie X.env)
      standAt tp
      holding [v, ov, iv] (setItem ov iv v)
      release [v, ov, iv] []) := by intro _; rfl)
    (hs : swapsWithSole [.Subscript (.Name x p0) ie tp] e pos.line X.env = pure false := by rfl) (hw : swappedStores [.Subscript (.Name x p0) ie tp] e X.env = pure none := by rfl)
    (h1 : (assignEach [.Subscript (.Name x p0) ie tp] X.env).map (·.2) = [assign (.Subscript (.Name x p0) ie tp) X.env] := by rfl) : DS X c (.Assign [.Subscript (.Name x p0) ie tp] e pos) (mPutP i m mi) :=
  (ps_asg he (pg_sub (pe_var (i := i) hN hv hd hcd) hk set_list ha) hs hw h1).imp fun Dn σ H ⟨F, u, ρ, S, h⟩ => ⟨F, u, ρ, S, (flowO.after S h).imp fun d u1 F1 H1 _ s1 g1 h1 v rv => by
    cases ho : vSh ρ i with
    | none =>
      exfalso
      have h2 := h1.2
      unfold M.bind at h2
      cases e1 : mi ρ u1 with
      | none => rw [e1] at h2; exact h2
      | some y => rw [e1, ho] at h2; exact h2
    | some dd =>
      obtain ⟨vd, ev, rvd⟩ := h1.1.var ho
      refine ⟨vd, ev, F1, u1, ρ, h1.1, (flowO.after h1.1 h1.2).imp fun k u2 F2 H2 _ s2 g2 h2 w rw => ?_⟩
      obtain ⟨d', e2, h3⟩ := flowO.lft h2.1 h2.2
      rw [ho] at e2
      cases e2
      exact put_ok h2.1 (rvd.mono s2.ef) rw (rv.mono s2.ef) h3 id⟩
/-- x[k], y = e -/
theorem dDmP (i j : Nat) {x y : Str} {p0 p1 tp tq : Pos} {kt : Nat} (hc : X.calm = true) (he : DE X c e m) (hk : DE X c ie mi) (hNd : X.N.Nodup) (hj : X.N[j]? = some y) (hy : Loc X.env.scope y) (hN : X.N[i]? = some x := by rfl) (hv : Vis X.env.scope x := by first | exact Or.inl rfl | exact Or.inr (Or.inl rfl) | exact Or.inr (Or.inr rfl)) (hd : (x == ("__debug__" : Str)) = false := by decide)
    (hcd : (x == ("__classdict__" : Str)) = false := by decide)
    (ha : ∀ v, assign (.Subscript (.Name x p0) ie tp) X.env v = (do
      let ov ← holding [v] (eval (.Name x p0) X.env)
      let iv ← holding [v, ov] (eval ie X.env)
      standAt tp
      holding [v, ov, iv] (setItem ov iv v)
      release [v, ov, iv] []) := by intro _; rfl)
    (hf : X.fn y = true ∨ X.env.scope.names.lookup y = some .local := by first | exact .inl rfl | exact .inr rfl | assumption)
    (ht : (assignEach [.Subscript (.Name x p0) ie tp, .Name y p1] X.env).length = 2 := by rfl) (hst : (assignEach [.Subscript (.Name x p0) ie tp, .Name y p1] X.env).findIdx? (·.1) = none := by rfl)
    (hq1 : (assignEach [.Subscript (.Name x p0) ie tp, .Name y p1] X.env).map (·.2) = assign (.Subscript (.Name x p0) ie tp) X.env :: (assignEach [.Name y p1] X.env).map (·.2) := by rfl)
    (hq2 : (assignEach [.Name y p1] X.env).map (·.2) = assign (.Name y p1) X.env :: (assignEach [] X.env).map (·.2) := by rfl)
    (hs : swapsWithSole [.Tuple [.Subscript (.Name x p0) ie tp, .Name y p1] kt tq] e pos.line X.env = pure false := by rfl) (hw : swappedStores [.Tuple [.Subscript (.Name x p0) ie tp, .Name y p1] kt tq] e X.env = pure none := by rfl)
    (h1 : (assignEach [.Tuple [.Subscript (.Name x p0) ie tp, .Name y p1] kt tq] X.env).map (·.2) = [assign (.Tuple [.Subscript (.Name x p0) ie tp, .Name y p1] kt tq) X.env] := by rfl) (hK : X.K = c.W.K := by rfl) :
    DS X c (.Assign [.Tuple [.Subscript (.Name x p0) ie tp, .Name y p1] kt tq] e pos) (mDmP i mi j m) :=
  (ps_asg he (pg_tup hc (pgs_cons (pg_sub (pe_var (i := i) hN hv hd hcd) hk set_list ha) (pgs_cons (pg_name (i := j) hNd hj hy hf) pgs_nil hq2) hq1) ht hst) hs hw h1).imp fun Dn σ H ⟨F, u, ρ, S, h⟩ => ⟨F, u, ρ, S, (flowO.after S h).imp fun d u1 F1 H1 _ s1 g1 h1 v rv => by
    have h2 := h1.2
    split at h2
    · rename_i a b _hh
      obtain ⟨q, vs, rfl, hq, rs⟩ := rv.tup_
      obtain ⟨v1, v2, rfl, r1, r2⟩ := rs.two
      refine ⟨q, _, rfl, by rw [hK]; exact sq_t g1.ex hq, rfl, v1, [v2], rfl, ?_⟩
      cases ho : vSh ρ i with
      | none =>
        exfalso
        unfold M.bind at h2
        cases e1 : mi ρ u1 with
        | none => rw [e1] at h2; exact h2
        | some y => rw [e1, ho] at h2; exact h2
      | some dd =>
        obtain ⟨vd, ev, rvd⟩ := h1.1.var ho
        refine ⟨vd, ev, F1, u1, ρ, h1.1, (flowO.after h1.1 h2).imp fun k u2 F2 H2 _ s2 g2 h3 w rw => ?_⟩
        obtain ⟨d', e2, h4⟩ := flowO.lft h3.1 h3.2
        rw [ho] at e2
        cases e2
        have h5 := put_ok (Dn := Dn) (ρ' := ρ.set j (.sh (.int b))) (σ' := σ.set j (some v2)) h3.1 (rvd.mono s2.ef) rw (r1.mono s2.ef) h4 fun {u' F' H'} z => by
          rw [r2.int_]
          exact z.set (.int b)
        obtain ⟨pp, xs, kk, n, q1, q2, q3, q4, q5⟩ := h5
        exact ⟨pp, xs, kk, n, q1, q2, q3, q4, v2, [], rfl, rfl, q5⟩
    · exact False.elim h2⟩
end

/-! ### defs that return a fresh list -/
def spL (W : Wo) (n : Nat) (mf : List D → M (List D)) : Sp := fun vs H Q _ => vs.length = n ∧ ∃ p F u ds, Gd p u F H ∧ Reps W p F vs ds ∧
  After p F H (mf ds u) fun es _ F' H' => ∀ q ws, F' q = none → H q = none → H' q = some (.lst ws) → Reps W p F' ws es → Q (.ref q) H'
def mFnL (n : Nat) (mb : MS) : List D → M (List D) := fun ds u => match mb (startE n ds) u with
  | some (.rl d, u') => some (d, u')
  | _ => none
def mRetL (m : MA) : MS := fun ρ => M.bind (m ρ) fun ds => M.pure (.rl ds)
section
variable {X : Cx} {c : Cf} {pos : Pos} {e : Expr} {ml : MA}
theorem dRetL (he : DL X c e ml) : DS X c (.Return (some e) pos) (mRetL ml) :=
  (ps_ret he).imp fun Dn σ H ⟨F, u, ρ, S, h⟩ => ⟨F, u, ρ, S, (flowO.after S h).imp fun ds u1 F1 H1 _ s1 g1 h1 q vs hF hn hq r =>
    h1.2 q vs F1 H1 h1.1.ent g1 hF (S.ent.back S.gd.ne hn) hq r⟩
end
section
variable {P : Program} {w : World} {K : PySem.W.Frag} {mg : Str → Option Value} {base : Heap} {x qual : Str} {params : Arguments} {body : List Stmt} {scope : Scope} {dvs : List V} {kws : List (Str × V)} {f : Addr} {fd : FuncData} {W : Wo} {N ps : List Str} {k : Nat} {mb : MS}
theorem fn_mirL (F : FunD K x qual params body scope dvs kws f fd) (S : FnScope N ps scope)
    (hb : ∀ (cdv : Value) (A : Around) (outer : List PySem.Env) (s : Shared) (H : Hp) (E : XK) (p : Addr) (F0 : Hp), Room k (A.deeper (envOfC qual scope s.heap.objs.size f cdv)) → DB (cxOf CX0 P w K mg base N qual scope f cdv A outer s H E).nox ⟨W, p, F0, H, 0, noX⟩ body mb) :
    FnOk P w K mg base CX0 (k + 1) f fd ps (spL W ps.length (mFnL N.length mb)) := by
  refine F.ok S (fun vs H Q E h => h.1) (fun cdv A outer s H vs Q E hr h => ?_)
  obtain ⟨hl, p, F0, u, ds, g, r, h⟩ := h
  refine ⟨_, PSs.nox (hb cdv A outer s H E p F0 hr), F0, u, startE N.length ds, ⟨Stp.refl, g, env_start r⟩, ?_⟩
  unfold mFnL at h
  cases e : mb (startE N.length ds) u with
  | none => rw [e] at h; exact h
  | some y =>
    obtain ⟨fl, u1⟩ := y
    rw [e] at h
    cases fl with
    | rl es =>
      intro q ws F' H' s' g' hF hn hq rw
      have h2 : After p F0 H (some (es, u1)) (fun es _ F' H' => ∀ q ws, F' q = none → H q = none → H' q = some (.lst ws) → Reps W p F' ws es → Q (.ref q) H') := h
      exact h2 F' H' s' g' q ws hF hn hq rw
    | nx ρ' => exact False.elim h
    | rt d => exact False.elim h
    | bk ρ' => exact False.elim h
    | ct ρ' => exact False.elim h
    | ex ρ' k' ks' ds' => exact False.elim h
end
def mCallL (n : Nat) (mf : List D → M (List D)) (ms : MA) : MA := fun ρ => M.bind (ms ρ) fun ds => if ds.length = n then mf ds else lft none
section
variable {X : Cx} {c : Cf} {k n : Nat} {f : Addr} {fd : FuncData} {ps : List Str} {x : Str} {p pos : Pos} {e : Expr} {es : List Expr} {ms : MA} {mf : List D → M (List D)}
theorem dCallL (G : FnOk X.prog X.w X.K X.mg X.base CX0 k f fd ps (spL c.W n mf)) (hr : Room k X.A) (hg : Gl X x) (hm : X.mg x = some (.ref f)) (hk : PySem.W.keepIn X.K (.ref f) = true) (hb : Binds X.K fd ps [])
    (ha : DA X c (e :: es) ms) (hdb : (x == ("__debug__" : Str)) = false := by decide) (he : starEach (e :: es) X.env = (false, eval e X.env) :: starEach es X.env := by rfl) (hpl : (backTo pos (starEach es X.env)).any (·.1) = false := by rfl) :
    DL X c (.Call (.Name x p) (e :: es) [] pos) (mCallL n mf ms) :=
  (pe_call G hr hg hm hk hb .nil pass0 ha hdb he hpl).imp fun σ H Q ⟨F, u, ρ, S, h⟩ => ⟨F, u, ρ, S, (After.split h).imp fun ds u1 F1 H1 _ s1 g1 h1 vs rvs => by
    show spL c.W n mf (vs ++ []) H1 Q E0
    rw [List.append_nil]
    split at h1
    · rename_i hl
      exact ⟨rvs.1.trans hl, c.p, F1, u1, ds, g1, rvs, h1.imp fun es u2 F2 H2 _ s2 g2 h2 q ws hF hn hq rw => h2 q ws hF (s1.back g1.ne hn) hq rw⟩
    · exact False.elim h1⟩
/-- f(g(..)), where g makes the purse -/
def mWith (mf : List D → M D) (ml : MA) : ME := fun ρ => M.bind (ml ρ) fun ds => lft (match intsD ds with
  | some l => match mf [.pur] (.real l) with
    | some (.bl b, _) => some (.bl b)
    | _ => none
  | none => none)
end
end Mi

set_option Elab.async false
set_option linter.all false
set_option maxRecDepth 100000
set_option maxHeartbeats 4000000
/-! MiF: the law's end. -/
namespace Mi
open PySem PySem.Spec PyProof.Rows L2 He
variable [TB : Tabl]
theorem lookup_mem' {a : Addr} {o : Obj} : ∀ {l : PySem.W.Frag}, l.lookup a = some o → (a, o) ∈ l
  | [], h => by cases h
  | (b, u) :: r, h => by
    have h2 : (match a == b with | true => some u | false => r.lookup a) = some o := h
    cases q : (a == b) with
    | true =>
      rw [q] at h2
      have e : u = o := Option.some.inj h2
      rw [beq_iff_eq.mp q, e]
      exact List.mem_cons_self
    | false =>
      rw [q] at h2
      exact List.mem_cons_of_mem _ (lookup_mem' h2)
/-- all but the tables -/
def noTb (H : Hp) : Hp := fun b => match H b with
  | some (.tbl _) => none
  | x => x
theorem noTb_of {H : Hp} {a : Addr} {o : HO} (h : H a = some o) (n : ∀ ps, o ≠ .tbl ps) : noTb H a = some o := by
  unfold noTb
  rw [h]
  cases o with
  | tbl ps => exact absurd rfl (n ps)
  | _ => rfl
theorem of_noTb {H : Hp} {a : Addr} {o : HO} (h : noTb H a = some o) : H a = some o ∧ ∀ ps, o ≠ .tbl ps := by
  unfold noTb at h
  cases e : H a with
  | none => rw [e] at h; cases h
  | some u =>
    rw [e] at h
    cases u with
    | tbl ps => cases h
    | _ => cases h; exact ⟨rfl, fun _ z => by cases z⟩
theorem law_sp {cs : List Str} {K : PySem.W.Frag} {mf : List D → M D} {E : XK} (hK : noListsB K = true) (n : Nat) (h : ∀ (ns : List Int) (o : HO), ns.length ≤ n → ∃ u', mf [.scr ns] (.idle o) = some (.bl true, u')) (H : Hp) (a : Addr) (ns : List Int) (hl : ns.length ≤ n) (hS : SqL K H a (ns.map V.int)) (hT : LamX.Tabs TB.T H) :
    spM (WW cs K) 1 mf [.ref a] H (fun v _ => v = .bl true) E := by
  have ex : ∃ o, H a = some o ∧ (∀ ps, o ≠ .tbl ps) ∧ SqL K (noTb H) a (ns.map V.int) := by
    rcases hS with (z | ⟨o, z⟩) | ⟨o, its, m, hk, hc, _⟩
    · exact ⟨_, z, (by intro _ z; cases z), .inl (.inl (noTb_of z (by intro _ z; cases z)))⟩
    · exact ⟨_, z, (by intro _ z; cases z), .inl (.inr ⟨o, noTb_of z (by intro _ z; cases z)⟩)⟩
    · exfalso
      have := List.all_eq_true.mp hK _ (lookup_mem' hk)
      simp [hc] at this
  obtain ⟨o, ho, hn, hS'⟩ := ex
  obtain ⟨u', hu⟩ := h ns o hl
  refine ⟨rfl, a, noTb H, .idle o, [.scr ns], ⟨fun _ _ e => (of_noTb e).1, ho, (fun l e => by cases e), fun b ps z => (of_noTb z).2 ps rfl, hT, hn⟩, Reps.cons (.scr hS') Reps.nil, ?_⟩
  rw [hu]
  exact fun F' H' _ _ v rv => rv.bl_
/-! ### name = [..] on one line, the name a plain local -/
def mBorLs (is : List Nat) (ml : MA) : MA := is.foldr mBorL ml
section
variable {X : Cx} {c : Cf}
theorem rdBorL {i : Nat} {ml : MA} : ∀ σ H Q, rdL c (mBorL i ml) σ H Q → rdL c ml σ H Q := fun σ H Q ⟨F, u, ρ, S, h⟩ => by
  unfold mBorL M.bind at h
  cases e1 : ml (frz i ρ) u with
  | none => rw [e1] at h; exact False.elim h
  | some y =>
    obtain ⟨d, u1⟩ := y
    rw [e1] at h
    obtain ⟨hn, h2⟩ := lft_if (b := noLsts d = true) (a := d) h
    rcases S.lend i with z | ⟨q, ws, F1, S1, hq, back⟩
    · rw [z] at e1
      exact ⟨F, u, ρ, S, by rw [e1]; exact h2⟩
    · refine ⟨F1, u, frz i ρ, S1, ?_⟩
      rw [e1]
      intro F' H' s' g' q' vs hF hn' hv rv
      obtain ⟨s2, g2, hq2⟩ := back _ _ _ s' g'
      refine h2 _ _ s2 g2 q' vs ?_ hn' hv ⟨rv.1, fun j v d e2 e3 => (rv.2 j v d e2 e3).without hq2 (fun a o ha e => by rw [del_ne ha]; exact e) (noLsts_at hn e3)⟩
      unfold del
      split
      · rfl
      · exact hF
theorem rdBorLs {ml : MA} : ∀ (is : List Nat) σ H Q, rdL c (mBorLs is ml) σ H Q → rdL c ml σ H Q
  | [], _, _, _, h => h
  | _ :: is, σ, H, Q, h => rdBorLs is σ H Q (rdBorL σ H Q h)
variable {elt tg iter : Expr} {ifs : List Expr} {scope : Scope} {own : List (Str × Nat)} {pos spos py : Pos} {is : List Nat} {mi : MA} {g : MG} {mt : MT} {me : ME} {y : Str} {st : Stmt} {R : TE} {ml : MA}
theorem set_of (i : Nat) (h : PS X st (tAsg R (gName i))) (hR : ∀ σ H Q, rdL c ml σ H Q → R σ H Q) : DS X c st (mSet i (mFz ml)) :=
  h.imp fun Dn σ H ⟨F, u, ρ, S, z⟩ => hR σ H _ (by
    have e : PE X (.Constant .none 0 ⟨0, 0, 0, 0⟩) (rdL c ml) → True := fun _ => trivial
    have z2 := flowO.after S z
    refine ⟨F, u, ρ, S, ?_⟩
    unfold mFz M.bind at z2
    cases e1 : ml ρ u with
    | none => rw [e1] at z2; exact z2
    | some x =>
      obtain ⟨ds, u1⟩ := x
      rw [e1] at z2
      intro F1 H1 s1 g1 q ws hF hn hq r
      have h2 : After c.p F H (some (D.lst ds, u1)) (fun a u1 F1 H1 => Sta c u1 F1 H1 σ ρ ∧ flowO c F1 Dn (M.pure (.nx (ρ.set i (.sh a))) u1)) := z2
      have hsm : Same F1 (upd F1 q (.lst ws)) := fun a o e => by rw [upd_ne (fun z => by rw [z, hF] at e; cases e)]; exact e
      have hpq : c.p ≠ q := fun z => S.gd.ne (z ▸ hn)
      have h3 := h2 (upd F1 q (.lst ws)) H1 ⟨s1.ef.trans hsm, s1.eh, s1.et, fun a o e => ?_⟩ ⟨fun a o e => ?_, g1.pu, fun l e => by rw [upd_ne hpq]; exact g1.off l e, nt_upd g1.nt (by intro _ z; cases z), g1.tb, g1.hp⟩
      · exact h3.2 _ _ _ (Same.refl _) (h3.1.set (Rep.mkL upd_same (r.mono hsm)))
      · by_cases ha : a = q
        · subst ha; exact .inr hn
        · rw [upd_ne ha] at e; exact s1.nw a o e
      · by_cases ha : a = q
        · subst ha; rw [upd_same] at e; cases e; exact hq
        · rw [upd_ne ha] at e; exact g1.ex a o e)
theorem dLcSet (i : Nat) (bs : List Nat) (hc : X.calm = true) (hN : X.N.Nodup) (hy : X.N[i]? = some y) (hyl : X.env.scope.names.lookup y = some .local)
    (hsw : swapsWith (.ListComp elt [⟨tg, iter, ifs, 0⟩] scope pos) (some (.Name y py)) spos.line X.env = pure true) (hi : DI X c tg iter mi) (ok : BlkOk X.N X.env.scope scope own)
    (hg : ∀ (s : Shared) (H : Hp) (C : Addr) (cl : List (Str × Addr)) (fp : List Addr), DG (X.blk s H scope (compEnvC scope cl C X.env) fp) c tg is g)
    (ht : ∀ (s : Shared) (H : Hp) (C : Addr) (cl : List (Str × Addr)) (fp : List Addr), PTs (X.blk s H scope (compEnvC scope cl C X.env) fp) ifs (rdT c mt)) (he : ∀ (s : Shared) (H : Hp) (C : Addr) (cl : List (Str × Addr)) (fp : List Addr), DE (X.blk s H scope (compEnvC scope cl C X.env) fp) c elt me)
    (his : ∀ i ∈ is, i ∈ own.map (·.2) := by decide) (hs : ∀ x, foldedSetIterable iter X.env x = pure x := by intro _; rfl) : DS X c (.Assign [.Name y py] (.ListComp elt [⟨tg, iter, ifs, 0⟩] scope pos) spos) (mSet i (mFz (mBorLs bs (mLcO (own.map (·.2)) mi g mt me)))) :=
  set_of i (ps_setLc hc hN hy hyl hsw hi ok hg ht he hs) fun σ H Q h => by
    obtain ⟨F, u, ρ, S, h⟩ := rdBorLs bs σ H Q h
    exact rdLc his σ H Q F u ρ S h
end
end Mi

set_option Elab.async false
set_option linter.all false
set_option maxRecDepth 100000
set_option maxHeartbeats 4000000
/-! MiW: what a mirror gives, told by its parts. -/
namespace Mi
open PySem L2
/-- laws without lambdas -/
instance (priority := 50) noTabl : Tabl := ⟨[], false⟩
def Ok {α : Type} (m : M α) (u : PuS) (P : α → PuS → Prop) : Prop := ∃ a u', m u = some (a, u') ∧ P a u'
/-- a branch -/
def Br (b : Bool) (P Q : Prop) : Prop := if b = true then P else Q
@[simp] theorem br_t {P Q : Prop} : Br true P Q ↔ P := by unfold Br; simp
@[simp] theorem br_f {P Q : Prop} : Br false P Q ↔ Q := by unfold Br; simp
@[simp] theorem br_n {b : Bool} {P Q : Prop} : Br (!b) P Q ↔ Br b Q P := by cases b <;> simp
/-- d is a truth -/
def OnB (d : D) (P : Bool → Prop) : Prop := ∃ b, d = .bl b ∧ P b
@[simp] theorem onB_bl {b : Bool} {P : Bool → Prop} : OnB (.bl b) P ↔ P b := ⟨fun ⟨_, e, h⟩ => by cases e; exact h, fun h => ⟨b, rfl, h⟩⟩
theorem brd {p : Prop} [Decidable p] {P Q : Prop} (h1 : p → P) (h2 : ¬ p → Q) : Br (decide p) P Q := by
  by_cases h : p <;> simp [h, h1, h2]
section
variable {α β : Type} {m : M α} {f : α → M β} {u u' : PuS} {a : α} {P Q : α → PuS → Prop} {R : β → PuS → Prop}
theorem Ok.mono (h : Ok m u P) (k : ∀ a u', P a u' → Q a u') : Ok m u Q := by
  obtain ⟨a, u', e, p⟩ := h
  exact ⟨a, u', e, k a u' p⟩
theorem ok_of (e : m u = some (a, u')) : Ok m u P ↔ P a u' := by
  constructor
  · rintro ⟨b, v, e2, p⟩
    rw [e] at e2
    cases e2
    exact p
  · exact fun p => ⟨a, u', e, p⟩
@[simp] theorem ok_pure : Ok (M.pure a) u P ↔ P a u := ok_of rfl
@[simp] theorem ok_bind : Ok (M.bind m f) u R ↔ Ok m u fun a u1 => Ok (f a) u1 R := by
  constructor
  · rintro ⟨b, v, e, p⟩
    obtain ⟨a, u1, e1, e2⟩ := bind_some e
    exact ⟨a, u1, e1, b, v, e2, p⟩
  · rintro ⟨a, u1, e1, b, v, e2, p⟩
    refine ⟨b, v, ?_, p⟩
    unfold M.bind
    rw [e1]
    exact e2
@[simp] theorem ok_lft {o : Option α} : Ok (lft o) u P ↔ ∃ a, o = some a ∧ P a u := by
  cases o with
  | none => constructor
            · rintro ⟨b, v, e, p⟩; cases e
            · rintro ⟨b, e, p⟩; cases e
  | some a => constructor
              · rintro ⟨b, v, e, p⟩; cases e; exact ⟨_, rfl, p⟩
              · rintro ⟨b, e, p⟩; cases e; exact ⟨_, _, rfl, p⟩
@[simp] theorem ok_lfts : Ok (lft (some a)) u P ↔ P a u := ok_of rfl
@[simp] theorem ok_none : Ok (lft (none : Option α)) u P ↔ False := by
  constructor
  · rintro ⟨b, v, e, p⟩; cases e
  · exact False.elim
@[simp] theorem ok_ite {c : Prop} [Decidable c] {m n : M α} : Ok (if c then m else n) u P ↔ if c then Ok m u P else Ok n u P := by split <;> rfl
end
section
variable {ρ : Env} {u : PuS} {P : D → PuS → Prop} {PT : Bool → PuS → Prop} {PA : List D → PuS → Prop} {PS : Fl → PuS → Prop} {m ma mb mi : ME} {t v : MT} {ms mk : MA} {i j n : Nat}
@[simp] theorem ok_var : Ok (mVar i ρ) u P ↔ ∃ d, vSh ρ i = some d ∧ P d u := ok_lft
@[simp] theorem ok_C {d : D} : Ok (mC d ρ) u P ↔ P d u := ok_pure
@[simp] theorem ok_bin {f : D → D → Option D} : Ok (mBin f ma mb ρ) u P ↔ Ok (ma ρ) u fun x u1 => Ok (mb ρ) u1 fun y u2 => ∃ z, f x y = some z ∧ P z u2 := by
  unfold mBin; simp only [ok_bind, ok_lft]
@[simp] theorem ok_un {f : D → Option D} : Ok (mUn f ma ρ) u P ↔ Ok (ma ρ) u fun x u1 => ∃ z, f x = some z ∧ P z u1 := by
  unfold mUn; simp only [ok_bind, ok_lft]
@[simp] theorem ok_CB {f : List D → Option D} : Ok (mCB f ms ρ) u P ↔ Ok (ms ρ) u fun x u1 => ∃ z, f x = some z ∧ P z u1 := by
  unfold mCB; simp only [ok_bind, ok_lft]
@[simp] theorem ok_CBO {f : List D → Option (List D)} : Ok (mCBO f ms ρ) u PA ↔ Ok (ms ρ) u fun x u1 => ∃ z, f x = some z ∧ PA z u1 := by
  unfold mCBO; simp only [ok_bind, ok_lft]
@[simp] theorem ok_Iof {f : List D → Option (List D)} : Ok (mIof f ms ρ) u PA ↔ Ok (ms ρ) u fun x u1 => ∃ z, f x = some z ∧ PA z u1 := by
  unfold mIof; simp only [ok_bind, ok_lft]
@[simp] theorem ok_nil : Ok (mNil ρ) u PA ↔ PA [] u := ok_pure
@[simp] theorem ok_cons : Ok (mCons m ms ρ) u PA ↔ Ok (m ρ) u fun x u1 => Ok (ms ρ) u1 fun xs u2 => PA (x :: xs) u2 := by
  unfold mCons; simp only [ok_bind, ok_pure]
@[simp] theorem ok_tup : Ok (mTup ms ρ) u P ↔ Ok (ms ρ) u fun xs u1 => xs.length ≤ 100000 ∧ P (.tup xs) u1 := by
  unfold mTup; simp only [ok_bind, ok_lft]
  constructor
  · refine fun h => h.mono fun a u' z => ?_
    obtain ⟨d, e, p⟩ := z
    split at e
    · cases e; exact ⟨by assumption, p⟩
    · cases e
  · refine fun h => h.mono fun a u' z => ⟨_, if_pos z.1, z.2⟩
@[simp] theorem ok_lstO : Ok (mLstO ms ρ) u PA ↔ Ok (ms ρ) u fun xs u1 => xs.length ≤ 100000 ∧ PA xs u1 := by
  unfold mLstO; simp only [ok_bind, ok_lft]
  constructor
  · refine fun h => h.mono fun a u' z => ?_
    obtain ⟨d, e, p⟩ := z
    split at e
    · cases e; exact ⟨by assumption, p⟩
    · cases e
  · refine fun h => h.mono fun a u' z => ⟨_, if_pos z.1, z.2⟩
@[simp] theorem ok_B : Ok (mB m ρ) u PT ↔ Ok (m ρ) u fun d u1 => OnB d fun b => PT b u1 := by
  unfold mB; simp only [ok_bind]
  constructor
  · refine fun h => h.mono fun a u' z => ?_
    cases a <;> first | exact ⟨_, rfl, ok_pure.mp z⟩ | exact (ok_none.mp z).elim
  · refine fun h => h.mono fun a u' z => ?_
    obtain ⟨b, rfl, p⟩ := z
    exact ok_pure.mpr p
@[simp] theorem ok_and : Ok (mAnd t v ρ) u PT ↔ Ok (t ρ) u fun b u1 => Br b (Ok (v ρ) u1 PT) (PT false u1) := by
  unfold mAnd; simp only [ok_bind, ok_ite, ok_pure, Br]
@[simp] theorem ok_or : Ok (mOr t v ρ) u PT ↔ Ok (t ρ) u fun b u1 => Br b (PT true u1) (Ok (v ρ) u1 PT) := by
  unfold mOr; simp only [ok_bind, ok_ite, ok_pure, Br]
@[simp] theorem ok_not : Ok (mNot t ρ) u PT ↔ Ok (t ρ) u fun b u1 => PT (!b) u1 := by
  unfold mNot; simp only [ok_bind, ok_pure]
@[simp] theorem ok_if : Ok (mIf t ma mb ρ) u P ↔ Ok (t ρ) u fun b u1 => Br b (Ok (ma ρ) u1 P) (Ok (mb ρ) u1 P) := by
  unfold mIf; simp only [ok_bind, ok_ite, Br]
@[simp] theorem ok_andV : Ok (mAndV ma mb ρ) u P ↔ Ok (ma ρ) u fun d u1 => OnB d fun b => Br b (Ok (mb ρ) u1 P) (P (.bl false) u1) := by
  unfold mAndV; simp only [ok_bind]
  constructor
  · refine fun h => h.mono fun a u' z => ?_
    cases a with
    | bl b => cases b <;> exact ⟨_, rfl, by simpa [ok_pure] using z⟩
    | _ => exact (ok_none.mp z).elim
  · refine fun h => h.mono fun a u' z => ?_
    obtain ⟨b, rfl, p⟩ := z
    cases b <;> simpa [ok_pure] using p
@[simp] theorem ok_orV : Ok (mOrV ma mb ρ) u P ↔ Ok (ma ρ) u fun d u1 => OnB d fun b => Br b (P (.bl true) u1) (Ok (mb ρ) u1 P) := by
  unfold mOrV; simp only [ok_bind]
  constructor
  · refine fun h => h.mono fun a u' z => ?_
    cases a with
    | bl b => cases b <;> exact ⟨_, rfl, by simpa [ok_pure] using z⟩
    | _ => exact (ok_none.mp z).elim
  · refine fun h => h.mono fun a u' z => ?_
    obtain ⟨b, rfl, p⟩ := z
    cases b <;> simpa [ok_pure] using p
@[simp] theorem ok_notV : Ok (mNotV ma ρ) u P ↔ Ok (ma ρ) u fun d u1 => OnB d fun b => P (.bl (!b)) u1 := by
  unfold mNotV; simp only [ok_bind]
  constructor
  · refine fun h => h.mono fun a u' z => ?_
    cases a with
    | bl b => exact ⟨_, rfl, by simpa [ok_pure] using z⟩
    | _ => exact (ok_none.mp z).elim
  · refine fun h => h.mono fun a u' z => ?_
    obtain ⟨b, rfl, p⟩ := z
    simpa [ok_pure] using p
@[simp] theorem ok_Fz : Ok (mFz ms ρ) u P ↔ Ok (ms ρ) u fun ds u1 => P (.lst ds) u1 := by
  unfold mFz; simp only [ok_bind, ok_pure]
@[simp] theorem ok_sl {ml mh : MO} : Ok (mSl m ml mh ρ) u P ↔ Ok (m ρ) u fun d u1 => Ok (ml ρ) u1 fun lo u2 => Ok (mh ρ) u2 fun hi u3 => ∃ z, slD d lo hi = some z ∧ P z u3 := by
  unfold mSl; simp only [ok_bind, ok_lft]
@[simp] theorem ok_On {P : Option Int → PuS → Prop} : Ok (mOn ρ) u P ↔ P none u := ok_pure
@[simp] theorem ok_Os {P : Option Int → PuS → Prop} : Ok (mOs m ρ) u P ↔ Ok (m ρ) u fun d u1 => ∃ i, d = .int i ∧ P (some i) u1 := by
  unfold mOs; simp only [ok_bind]
  constructor
  · refine fun h => h.mono fun a u' z => ?_
    cases a <;> first | exact ⟨_, rfl, ok_pure.mp z⟩ | exact (ok_none.mp z).elim
  · refine fun h => h.mono fun a u' z => ?_
    obtain ⟨b, rfl, p⟩ := z
    exact ok_pure.mpr p
@[simp] theorem ok_call {mf : List D → M D} : Ok (mCall n mf ms ρ) u P ↔ Ok (ms ρ) u fun ds u1 => ds.length = n ∧ Ok (mf ds) u1 P := by
  unfold mCall; simp only [ok_bind, ok_ite]
  constructor
  · refine fun h => h.mono fun a u' z => ?_
    split at z
    · exact ⟨by assumption, z⟩
    · exact (ok_none.mp z).elim
  · refine fun h => h.mono fun a u' z => ?_
    rw [if_pos z.1]; exact z.2
@[simp] theorem ok_callL {mf : List D → M (List D)} : Ok (mCallL n mf ms ρ) u PA ↔ Ok (ms ρ) u fun ds u1 => ds.length = n ∧ Ok (mf ds) u1 PA := by
  unfold mCallL; simp only [ok_bind, ok_ite]
  constructor
  · refine fun h => h.mono fun a u' z => ?_
    split at z
    · exact ⟨by assumption, z⟩
    · exact (ok_none.mp z).elim
  · refine fun h => h.mono fun a u' z => ?_
    rw [if_pos z.1]; exact z.2
@[simp] theorem ok_self {k : Str} {mf : List D → M D} : Ok (mSelf k mf m ρ) u P ↔ Ok (m ρ) u fun d u1 => ∃ ks ds, d = .obj k ks ds ∧ Ok (mf [.obj k ks ds]) u1 P := by
  unfold mSelf; simp only [ok_bind]
  constructor
  · refine fun h => h.mono fun a u' z => ?_
    cases a with
    | obj c ks ds =>
      simp only [ok_ite] at z
      split at z
      · rename_i h; subst h; exact ⟨_, _, rfl, z⟩
      · exact (ok_none.mp z).elim
    | _ => exact (ok_none.mp z).elim
  · refine fun h => h.mono fun a u' z => ?_
    obtain ⟨ks, ds, rfl, z⟩ := z
    simp only [ok_ite, if_true]; exact z
@[simp] theorem ok_eqO {k : Str} {mf : List D → M D} : Ok (mEqO k mf ma mb ρ) u P ↔ Ok (ma ρ) u fun x u1 => Ok (mb ρ) u1 fun y u2 => ∃ ks ds ks' ds', x = .obj k ks ds ∧ y = .obj k ks' ds' ∧ Ok (mf [x, y]) u2 fun r u3 => OnB r fun b => P (.bl b) u3 := by
  unfold mEqO; simp only [ok_bind]
  constructor
  · refine fun h => h.mono fun x u' z => z.mono fun y u2 z1 => ?_
    split at z1
    · simp only [ok_ite] at z1
      split at z1
      · rename_i hh
        obtain ⟨rfl, hh2⟩ := hh
        subst hh2
        refine ⟨_, _, _, _, rfl, rfl, (ok_bind.mp z1).mono fun r u3 z2 => ?_⟩
        split at z2
        · exact ⟨_, rfl, ok_pure.mp z2⟩
        · exact (ok_none.mp z2).elim
      · exact (ok_none.mp z1).elim
    · exact (ok_none.mp z1).elim
  · refine fun h => h.mono fun x u' z => z.mono fun y u2 z => ?_
    obtain ⟨ks, ds, ks', ds', rfl, rfl, z⟩ := z
    simp only [ok_ite]
    rw [if_pos (by first | exact ⟨rfl, rfl⟩ | exact ⟨trivial, trivial⟩), ok_bind]
    refine z.mono fun r u3 z => ?_
    obtain ⟨b, rfl, z⟩ := z
    exact ok_pure.mpr z
@[simp] theorem ok_neO {k : Str} {mf : List D → M D} : Ok (mNeO k mf ma mb ρ) u P ↔ Ok (ma ρ) u fun x u1 => Ok (mb ρ) u1 fun y u2 => ∃ ks ds ks' ds', x = .obj k ks ds ∧ y = .obj k ks' ds' ∧ Ok (mf [x, y]) u2 fun r u3 => OnB r fun b => P (.bl !b) u3 := by
  unfold mNeO; simp only [ok_bind]
  constructor
  · refine fun h => h.mono fun x u' z => z.mono fun y u2 z1 => ?_
    split at z1
    · simp only [ok_ite] at z1
      split at z1
      · rename_i hh
        obtain ⟨rfl, hh2⟩ := hh
        subst hh2
        refine ⟨_, _, _, _, rfl, rfl, (ok_bind.mp z1).mono fun r u3 z2 => ?_⟩
        split at z2
        · exact ⟨_, rfl, ok_pure.mp z2⟩
        · exact (ok_none.mp z2).elim
      · exact (ok_none.mp z1).elim
    · exact (ok_none.mp z1).elim
  · refine fun h => h.mono fun x u' z => z.mono fun y u2 z => ?_
    obtain ⟨ks, ds, ks', ds', rfl, rfl, z⟩ := z
    simp only [ok_ite]
    rw [if_pos (by first | exact ⟨rfl, rfl⟩ | exact ⟨trivial, trivial⟩), ok_bind]
    refine z.mono fun r u3 z => ?_
    obtain ⟨b, rfl, z⟩ := z
    exact ok_pure.mpr z
@[simp] theorem ok_lenOb {k : Str} {mf : List D → M D} : Ok (mLenOb k mf m ρ) u P ↔ Ok (m ρ) u fun d u1 => ∃ ks ds, d = .obj k ks ds ∧ Ok (mf [d]) u1 fun r u2 => ∃ n, r = .int n ∧ (0 ≤ n ∧ n ≤ 100000) ∧ P (.int n) u2 := by
  unfold mLenOb; simp only [ok_bind]
  constructor
  · refine fun h => h.mono fun a u' z => ?_
    cases a with
    | obj c ks ds =>
      simp only [ok_ite] at z
      split at z
      · rename_i h; subst h
        refine ⟨_, _, rfl, (ok_bind.mp z).mono fun r u3 z => ?_⟩
        split at z
        · simp only [ok_ite] at z
          split at z
          · exact ⟨_, rfl, by assumption, ok_pure.mp z⟩
          · exact (ok_none.mp z).elim
        · exact (ok_none.mp z).elim
      · exact (ok_none.mp z).elim
    | _ => exact (ok_none.mp z).elim
  · refine fun h => h.mono fun a u' z => ?_
    obtain ⟨ks, ds, rfl, z⟩ := z
    simp only [ok_ite, if_true]
    rw [ok_bind]
    refine z.mono fun r u3 z => ?_
    obtain ⟨b, rfl, h, z⟩ := z
    simp only [ok_ite]
    rw [if_pos h]
    exact ok_pure.mpr z
@[simp] theorem ok_make {k : Str} {mf : List D → M (List Str × List D)} : Ok (mMake k n mf ms ρ) u P ↔ Ok (ms ρ) u fun ds u1 => ds.length = n ∧ Ok (mf ds) u1 fun r u2 => P (.obj k r.1 r.2) u2 := by
  unfold mMake; simp only [ok_bind, ok_ite]
  constructor
  · refine fun h => h.mono fun a u' z => ?_
    split at z
    · exact ⟨by assumption, by simpa only [ok_bind, ok_pure] using z⟩
    · exact (ok_none.mp z).elim
  · refine fun h => h.mono fun a u' z => ?_
    rw [if_pos z.1]; simpa only [ok_bind, ok_pure] using z.2
@[simp] theorem ok_ixO : Ok (mIxO i mi ρ) u P ↔ Ok (mi ρ) u fun k u1 => ∃ ds j z, vOw ρ i = some ds ∧ k = .int j ∧ atI ds j = some z ∧ P z u1 := by
  unfold mIxO; simp only [ok_bind, ok_lft]
  constructor
  · refine fun h => h.mono fun a u' z => ?_
    obtain ⟨ds, e, d, e2, p⟩ := z
    cases a <;> first | exact ⟨ds, _, d, e, rfl, e2, p⟩ | cases e2
  · refine fun h => h.mono fun a u' z => ?_
    obtain ⟨ds, j, z, e, rfl, e2, p⟩ := z
    exact ⟨ds, e, z, e2, p⟩
@[simp] theorem ok_Iany : Ok (mIany m ρ) u PA ↔ Ok (m ρ) u fun d u1 => ∃ ds, itD d = some ds ∧ PA ds u1 := by
  unfold mIany; simp only [ok_bind, ok_lft]
@[simp] theorem s_itL {ds : List D} : itD (.lst ds) = some ds := rfl
@[simp] theorem s_itT {ds : List D} : itD (.tup ds) = some ds := rfl
@[simp] theorem ok_lcO {vs : List Nat} {g : MG} {mt : MT} {me : ME} : Ok (mLcO vs ms g mt me ρ) u PA ↔ Ok (ms ρ) u fun ds u1 => ds.length ≤ 100000 ∧ Ok (lcD g mt me (wipeE ρ vs) ds) u1 PA := by
  unfold mLcO; simp only [ok_bind, ok_ite]
  constructor
  · refine fun h => h.mono fun a u' z => ?_
    split at z
    · exact ⟨by assumption, z⟩
    · exact (ok_none.mp z).elim
  · refine fun h => h.mono fun a u' z => ?_
    rw [if_pos z.1]; exact z.2
@[simp] theorem ok_borL : Ok (mBorL i ms ρ) u PA ↔ Ok (ms (frz i ρ)) u fun d u1 => noLsts d = true ∧ PA d u1 := by
  unfold mBorL; simp only [ok_bind, ok_lft]
  constructor
  · refine fun h => h.mono fun a u' z => ?_
    obtain ⟨d, e, p⟩ := z
    split at e
    · cases e; exact ⟨by assumption, p⟩
    · cases e
  · refine fun h => h.mono fun a u' z => ⟨_, if_pos z.1, z.2⟩
@[simp] theorem ok_ixP : Ok (mIxP i mi ρ) u P ↔ Ok (mi ρ) u fun k u1 => ∃ d, vSh ρ i = some d ∧ Ok (getP d k) u1 P := by
  unfold mIxP; simp only [ok_bind, ok_lft]
/-! statements -/
@[simp] theorem ok_next : Ok (mNext ρ) u PS ↔ PS (.nx ρ) u := ok_pure
@[simp] theorem ok_seq {m n : MS} : Ok (mSeq m n ρ) u PS ↔ Ok (m ρ) u fun f u1 => match f with
    | .nx ρ1 => Ok (n ρ1) u1 PS
    | f' => PS f' u1 := by
  unfold mSeq; simp only [ok_bind]
  constructor
  · refine fun h => h.mono fun f u' z => ?_
    cases f <;> first | exact z | exact ok_pure.mp z
  · refine fun h => h.mono fun f u' z => ?_
    cases f <;> first | exact z | exact ok_pure.mpr z
@[simp] theorem ok_drop : Ok (mDrop m ρ) u PS ↔ Ok (m ρ) u fun _ u1 => PS (.nx ρ) u1 := by unfold mDrop; simp only [ok_bind, ok_pure]
@[simp] theorem ok_ret : Ok (mRet m ρ) u PS ↔ Ok (m ρ) u fun d u1 => PS (.rt d) u1 := by unfold mRet; simp only [ok_bind, ok_pure]
@[simp] theorem ok_retL : Ok (mRetL ms ρ) u PS ↔ Ok (ms ρ) u fun d u1 => PS (.rl d) u1 := by unfold mRetL; simp only [ok_bind, ok_pure]
@[simp] theorem ok_ifS {m n : MS} : Ok (mIfS t m n ρ) u PS ↔ Ok (t ρ) u fun b u1 => Br b (Ok (m ρ) u1 PS) (Ok (n ρ) u1 PS) := by unfold mIfS; simp only [ok_bind, ok_ite, Br]
@[simp] theorem ok_brk : Ok (mBrk ρ) u PS ↔ PS (.bk ρ) u := ok_pure
@[simp] theorem ok_set : Ok (mSet i m ρ) u PS ↔ Ok (m ρ) u fun d u1 => PS (.nx (ρ.set i (.sh d))) u1 := by unfold mSet; simp only [ok_bind, ok_pure]
@[simp] theorem ok_setO : Ok (mSetO i ms ρ) u PS ↔ Ok (ms ρ) u fun d u1 => PS (.nx (ρ.set i (.ow d))) u1 := by unfold mSetO; simp only [ok_bind, ok_pure]
@[simp] theorem ok_stuck : Ok (mStuck ρ) u PS ↔ False := ok_none
@[simp] theorem ok_for {g : MG} {mb : MS} : Ok (mFor ms g mb ρ) u PS ↔ Ok (ms ρ) u fun ds u1 => Ok (loopD g mb ds ρ) u1 PS := by unfold mFor; simp only [ok_bind]
@[simp] theorem ok_app : Ok (mApp i m ρ) u PS ↔ Ok (m ρ) u fun d u1 => ∃ ds, vOw ρ i = some ds ∧ ds.length < 100000 ∧ PS (.nx (ρ.set i (.ow (ds ++ [d])))) u1 := by
  unfold mApp; simp only [ok_bind, ok_lft, ok_pure]
  constructor
  · refine fun h => h.mono fun f u' z => ?_
    obtain ⟨ds, e, _, e2, p⟩ := z
    split at e2
    · exact ⟨ds, e, by assumption, p⟩
    · cases e2
  · refine fun h => h.mono fun f u' z => ?_
    obtain ⟨ds, e, e2, p⟩ := z
    exact ⟨ds, e, (), if_pos e2, p⟩
@[simp] theorem ok_putP {mv : ME} : Ok (mPutP i mv mi ρ) u PS ↔ Ok (mv ρ) u fun v u1 => Ok (mi ρ) u1 fun k u2 => ∃ d, vSh ρ i = some d ∧ Ok (putP d k v) u2 fun _ u3 => PS (.nx ρ) u3 := by
  unfold mPutP; simp only [ok_bind, ok_lft, ok_pure]
@[simp] theorem ok_frz {m : MS} : Ok (mFrz i m ρ) u PS ↔ Ok (m (frz i ρ)) u PS := Iff.rfl
@[simp] theorem ok_asg {g : MG} : Ok (mAsg m g ρ) u PS ↔ Ok (m ρ) u fun d u1 => ∃ ρ1, g d ρ = some ρ1 ∧ PS (.nx ρ1) u1 := by
  unfold mAsg; simp only [ok_bind, ok_lft]
  constructor
  · refine fun h => h.mono fun f u' z => ?_
    obtain ⟨a, e, p⟩ := z
    cases e1 : g f ρ with
    | none => rw [e1] at e; cases e
    | some r => rw [e1] at e; cases e; exact ⟨r, rfl, p⟩
  · refine fun h => h.mono fun f u' z => ?_
    obtain ⟨a, e, p⟩ := z
    exact ⟨_, by rw [e]; rfl, p⟩
@[simp] theorem ok_Mnil {P : List Sd → PuS → Prop} : Ok (mMnil ρ) u P ↔ P [] u := ok_pure
@[simp] theorem ok_Msh {mm : MM} {P : List Sd → PuS → Prop} : Ok (mMsh m mm ρ) u P ↔ Ok (m ρ) u fun d u1 => Ok (mm ρ) u1 fun ds u2 => P (.sh d :: ds) u2 := by unfold mMsh; simp only [ok_bind, ok_pure]
@[simp] theorem ok_Mow {mm : MM} {P : List Sd → PuS → Prop} : Ok (mMow ms mm ρ) u P ↔ Ok (ms ρ) u fun d u1 => Ok (mm ρ) u1 fun ds u2 => P (.ow d :: ds) u2 := by unfold mMow; simp only [ok_bind, ok_pure]
@[simp] theorem ok_par {is : List Nat} {mm : MM} : Ok (mPar is mm ρ) u PS ↔ Ok (mm ρ) u fun sds u1 => sds.length = is.length ∧ PS (.nx (setAll is sds ρ)) u1 := by
  unfold mPar; simp only [ok_bind, ok_ite]
  constructor
  · refine fun h => h.mono fun f u' z => ?_
    split at z
    · exact ⟨by assumption, ok_pure.mp z⟩
    · exact (ok_none.mp z).elim
  · refine fun h => h.mono fun f u' z => ?_
    rw [if_pos z.1]; exact ok_pure.mpr z.2
@[simp] theorem ok_selfSet {ck fn : Str} : Ok (mSelfSet i ck fn m ρ) u PS ↔ Ok (m ρ) u fun d u1 => ∃ ks es, ρ[i]? = some (Sd.oi ck ks es) ∧ fn ∉ ks ∧ ks.length < 900 ∧ PS (.nx (ρ.set i (.oi ck (ks ++ [fn]) (es ++ [d])))) u1 := by
  unfold mSelfSet; simp only [ok_bind, ok_lft, ok_pure]
  constructor
  · refine fun h => h.mono fun f u' z => ?_
    obtain ⟨q, e, p⟩ := z
    split at e
    · split at e
      · rename_i e0 hh
        obtain ⟨rfl, h1, h2⟩ := hh
        cases e
        exact ⟨_, _, e0, h1, h2, p⟩
      · cases e
    · cases e
  · refine fun h => h.mono fun f u' z => ?_
    obtain ⟨ks, es, e, h1, h2, p⟩ := z
    exact ⟨(ks, es), by rw [e]; exact if_pos ⟨rfl, h1, h2⟩, p⟩
@[simp] theorem ok_fn {n : Nat} {mb : MS} {ds : List D} : Ok (mFn n mb ds) u P ↔ Ok (mb (startE n ds)) u fun f u1 => match f with
    | .rt d => P d u1
    | .nx _ => P .non u1
    | _ => False := by
  constructor
  · rintro ⟨a, u', e, p⟩
    unfold mFn at e
    cases e1 : mb (startE n ds) u with
    | none => rw [e1] at e; cases e
    | some y =>
      obtain ⟨f, u1⟩ := y
      rw [e1] at e
      cases f <;> first | (cases e; exact ⟨_, _, e1, p⟩) | cases e
  · rintro ⟨f, u1, e, p⟩
    cases f <;> first | exact ⟨_, u1, by unfold mFn; rw [e], p⟩ | exact False.elim p
@[simp] theorem ok_fnL {n : Nat} {mb : MS} {ds : List D} : Ok (mFnL n mb ds) u PA ↔ Ok (mb (startE n ds)) u fun f u1 => match f with
    | .rl d => PA d u1
    | _ => False := by
  constructor
  · rintro ⟨a, u', e, p⟩
    unfold mFnL at e
    cases e1 : mb (startE n ds) u with
    | none => rw [e1] at e; cases e
    | some y =>
      obtain ⟨f, u1⟩ := y
      rw [e1] at e
      cases f <;> first | (cases e; exact ⟨_, _, e1, p⟩) | cases e
  · rintro ⟨f, u1, e, p⟩
    cases f <;> first | exact ⟨_, u1, by unfold mFnL; rw [e], p⟩ | exact False.elim p
@[simp] theorem ok_init {n : Nat} {ck : Str} {mb : MS} {ds : List D} {P : List Str × List D → PuS → Prop} : Ok (mInit n ck mb ds) u P ↔ Ok (mb (startI n ck ds)) u fun f u1 => match f with
    | .nx ρ' => ∃ ks es, ρ'[0]? = some (Sd.oi ck ks es) ∧ P (ks, es) u1
    | _ => False := by
  constructor
  · rintro ⟨a, u', e, p⟩
    unfold mInit at e
    cases e1 : mb (startI n ck ds) u with
    | none => rw [e1] at e; cases e
    | some y =>
      obtain ⟨f, u1⟩ := y
      rw [e1] at e
      cases f with
      | nx ρ' =>
        refine ⟨_, _, e1, ?_⟩
        have e' : (match (ρ'[0]? : Option Sd) with
          | some (Sd.oi k ks es) => if k = ck then some ((ks, es), u1) else none
          | _ => none) = some (a, u') := e
        split at e'
        · rename_i e0
          split at e'
          · rename_i hk
            subst hk
            cases e'
            exact ⟨_, _, e0, p⟩
          · cases e'
        · cases e'
      | _ => cases e
  · rintro ⟨f, u1, e, p⟩
    cases f with
    | nx ρ' =>
      obtain ⟨ks, es, e0, p⟩ := p
      refine ⟨(ks, es), u1, ?_, p⟩
      unfold mInit
      rw [e]
      show (match (ρ'[0]? : Option Sd) with
          | some (Sd.oi k ks es) => if k = ck then some ((ks, es), u1) else none
          | _ => none) = _
      rw [e0]
      exact if_pos rfl
    | _ => exact False.elim p
end
/-! loops -/
theorem ok_loop {g : MG} {mb : MS} {P : Fl → PuS → Prop} (Inv : List D → Env → PuS → Prop)
    (step : ∀ d ds ρ u, Inv (d :: ds) ρ u → ∃ ρ1, g d ρ = some ρ1 ∧ Ok (mb ρ1) u fun f u' => match f with
      | .nx ρ2 => Inv ds ρ2 u'
      | .ct ρ2 => Inv ds ρ2 u'
      | .bk ρ2 => P (.nx ρ2) u'
      | .rt d => P (.rt d) u'
      | .rl d => P (.rl d) u'
      | .ex ρ2 k ks ds => P (.ex ρ2 k ks ds) u')
    (stop : ∀ ρ u, Inv [] ρ u → P (.nx ρ) u) : ∀ (ds : List D) (ρ : Env) (u : PuS), Inv ds ρ u → Ok (loopD g mb ds ρ) u P
  | [], ρ, u, h => ok_pure.mpr (stop ρ u h)
  | d :: ds, ρ, u, h => by
    obtain ⟨ρ1, e, h1⟩ := step d ds ρ u h
    unfold loopD
    rw [ok_bind, ok_lft]
    refine ⟨ρ1, e, ?_⟩
    rw [ok_bind]
    refine h1.mono fun f u' z => ?_
    cases f with
    | nx ρ2 => exact ok_loop Inv step stop ds ρ2 u' z
    | ct ρ2 => exact ok_loop Inv step stop ds ρ2 u' z
    | bk ρ2 => exact ok_pure.mpr z
    | rt d => exact ok_pure.mpr z
    | rl d => exact ok_pure.mpr z
    | ex ρ2 k ks ds => exact ok_pure.mpr z
/-- a comprehension that draws: each element has E, the state keeps I -/
theorem ok_lc {g : MG} {mt : MT} {me : ME} {ρ : Env} (I : PuS → Prop) (E : D → Prop) : ∀ (ds : List D) (u : PuS), I u → (∀ d ∈ ds, ∀ u, I u → ∃ ρ1, g d ρ = some ρ1 ∧ Ok (mt ρ1) u fun b u1 => b = true ∧ Ok (me ρ1) u1 fun y u2 => E y ∧ I u2) →
    Ok (lcD g mt me ρ ds) u fun ys u' => (ys.length = ds.length ∧ ∀ y ∈ ys, E y) ∧ I u'
  | [], u, hu, _ => ok_pure.mpr ⟨⟨rfl, fun y hy => by cases hy⟩, hu⟩
  | d :: ds, u, hu, h => by
    obtain ⟨ρ1, e, h1⟩ := h d List.mem_cons_self u hu
    unfold lcD
    rw [ok_bind, ok_lft]
    refine ⟨ρ1, e, ?_⟩
    rw [ok_bind]
    refine h1.mono fun b u1 z => ?_
    obtain ⟨rfl, z⟩ := z
    simp only [if_true, ok_bind]
    refine z.mono fun y u2 z2 => (ok_lc I E ds u2 z2.2 fun d hd => h d (List.mem_cons_of_mem _ hd)).mono fun ys u3 z3 => ?_
    rw [ok_pure]
    refine ⟨⟨by simp [z3.1.1], fun x hx => ?_⟩, z3.2⟩
    rcases List.mem_cons.mp hx with rfl | hx
    · exact z2.1
    · exact z3.1.2 x hx
theorem ok_list {g : MG} {mb : MS} {P : Fl → PuS → Prop} (xs : List D) (Inv : Nat → Env → PuS → Prop)
    (step : ∀ k d ρ u, xs[k]? = some d → Inv k ρ u → ∃ ρ1, g d ρ = some ρ1 ∧ Ok (mb ρ1) u fun f u' => match f with
      | .nx ρ2 => Inv (k + 1) ρ2 u'
      | .ct ρ2 => Inv (k + 1) ρ2 u'
      | .bk ρ2 => P (.nx ρ2) u'
      | .rt d => P (.rt d) u'
      | .rl d => P (.rl d) u'
      | .ex ρ2 k ks ds => P (.ex ρ2 k ks ds) u')
    (stop : ∀ ρ u, Inv xs.length ρ u → P (.nx ρ) u) (ρ : Env) (u : PuS) (h : Inv 0 ρ u) : Ok (loopD g mb xs ρ) u P := by
  refine ok_loop (fun ds ρ u => ∃ k, k ≤ xs.length ∧ ds = xs.drop k ∧ Inv k ρ u) ?_ ?_ _ ρ u ⟨0, Nat.zero_le _, rfl, h⟩
  · rintro d ds ρ u ⟨k, hk, e, hi⟩
    have hkn : k < xs.length := by
      rcases Nat.lt_or_ge k xs.length with z | z
      · exact z
      · rw [List.drop_eq_nil_of_le z] at e; cases e
    rw [List.drop_eq_getElem_cons hkn] at e
    obtain ⟨e1, e2⟩ := List.cons.inj e
    obtain ⟨ρ1, e4, h1⟩ := step k d ρ u (by rw [e1]; exact List.getElem?_eq_getElem hkn) hi
    refine ⟨ρ1, e4, h1.mono fun f u' z => ?_⟩
    cases f with
    | nx ρ2 => exact ⟨k + 1, hkn, e2, z⟩
    | ct ρ2 => exact ⟨k + 1, hkn, e2, z⟩
    | _ => exact z
  · rintro ρ u ⟨k, hk, e, hi⟩
    have hkn : k = xs.length := by
      have := congrArg List.length e
      simp at this
      omega
    subst hkn
    exact stop ρ u hi
theorem eq_of_ok {α : Type} {m : M α} {u : PuS} {a : α} (h : Ok m u fun b u' => b = a ∧ u' = u) : m u = some (a, u) := by
  obtain ⟨b, u', e, rfl, rfl⟩ := h
  exact e
theorem lc_is {g : MG} {mt : MT} {me : ME} {ρ : Env} {u : PuS} {f : Nat → D} {r : Nat → Env} {t : Nat → Bool} {e : Nat → D} : ∀ (is : List Nat), (∀ i ∈ is, g (f i) ρ = some (r i)) → (∀ i ∈ is, Ok (mt (r i)) u fun b u' => b = t i ∧ u' = u) →
    (∀ i ∈ is, t i = true → Ok (me (r i)) u fun b u' => b = e i ∧ u' = u) → lcD g mt me ρ (is.map f) u = some ((is.filter t).map e, u)
  | [], _, _, _ => rfl
  | i :: is, h1, h2, h3 => by
    have ih := lc_is is (fun x hx => h1 x (List.mem_cons_of_mem _ hx)) (fun x hx => h2 x (List.mem_cons_of_mem _ hx)) (fun x hx => h3 x (List.mem_cons_of_mem _ hx))
    refine eq_of_ok ?_
    rw [List.map_cons]
    unfold lcD
    rw [ok_bind, ok_lft]
    refine ⟨_, h1 i List.mem_cons_self, ?_⟩
    rw [ok_bind, ok_of (eq_of_ok (h2 i List.mem_cons_self))]
    cases ht : t i with
    | false =>
      rw [if_neg (by decide), ok_of ih]
      simp [ht]
    | true =>
      rw [if_pos rfl, ok_bind, ok_of (eq_of_ok (h3 i List.mem_cons_self ht)), ok_bind, ok_of ih, ok_pure]
      simp [ht]
/-- a comprehension over a range that draws nothing -/
theorem ok_lcr {g : MG} {mt : MT} {me : ME} {ρ : Env} {u : PuS} {lo : Int} {n : Nat} (r : Nat → Env) (t : Nat → Bool) (e : Nat → D) {P : List D → PuS → Prop} (h1 : ∀ i, i < n → g (.int (lo + (i : Nat))) ρ = some (r i)) (h2 : ∀ i, i < n → Ok (mt (r i)) u fun b u' => b = t i ∧ u' = u)
    (h3 : ∀ i, i < n → t i = true → Ok (me (r i)) u fun b u' => b = e i ∧ u' = u) (h : P (((List.range n).filter t).map e) u) : Ok (lcD g mt me ρ (rngD lo n)) u P := by
  have := lc_is (g := g) (mt := mt) (me := me) (ρ := ρ) (u := u) (f := fun i => D.int (lo + (i : Nat))) (r := r) (t := t) (e := e) (List.range n) (fun i hi => h1 i (List.mem_range.mp hi)) (fun i hi => h2 i (List.mem_range.mp hi)) (fun i hi => h3 i (List.mem_range.mp hi))
  exact (ok_of this).mpr h
/-- .. over a list -/
theorem ok_lcl {g : MG} {mt : MT} {me : ME} {ρ : Env} {u : PuS} {xs : List Int} (r : Int → Env) (t : Int → Bool) (e : Int → D) {P : List D → PuS → Prop} (h1 : ∀ x ∈ xs, g (.int x) ρ = some (r x)) (h2 : ∀ x ∈ xs, Ok (mt (r x)) u fun b u' => b = t x ∧ u' = u)
    (h3 : ∀ x ∈ xs, t x = true → Ok (me (r x)) u fun b u' => b = e x ∧ u' = u) (h : P ((xs.filter t).map e) u) : Ok (lcD g mt me ρ (xs.map D.int)) u P := by
  have : lcD g mt me ρ (xs.map D.int) u = some ((xs.filter t).map e, u) := by
    clear h
    induction xs with
    | nil => rfl
    | cons x xs ih =>
      have ih := ih (fun y hy => h1 y (List.mem_cons_of_mem _ hy)) (fun y hy => h2 y (List.mem_cons_of_mem _ hy)) (fun y hy => h3 y (List.mem_cons_of_mem _ hy))
      refine eq_of_ok ?_
      rw [List.map_cons]
      unfold lcD
      rw [ok_bind, ok_lft]
      refine ⟨_, h1 x List.mem_cons_self, ?_⟩
      rw [ok_bind, ok_of (eq_of_ok (h2 x List.mem_cons_self))]
      cases ht : t x with
      | false =>
        rw [if_neg (by decide), ok_of ih]
        simp [ht]
      | true =>
        rw [if_pos rfl, ok_bind, ok_of (eq_of_ok (h3 x List.mem_cons_self ht)), ok_bind, ok_of ih, ok_pure]
        simp [ht]
  exact (ok_of this).mpr h
theorem ok_with {mf : List D → M D} {ml : MA} {ρ : Env} {u : PuS} {P : D → PuS → Prop} (b : Bool) (h : Ok (ml ρ) u fun ds u1 => ∃ (l : List Int), ds = l.map D.int ∧ (Ok (mf [.pur]) (.real l) fun d _ => d = .bl b) ∧ P (.bl b) u1) : Ok (mWith mf ml ρ) u P := by
  unfold mWith
  rw [ok_bind]
  refine h.mono fun ds u1 z => ?_
  obtain ⟨l, rfl, ⟨d, u2, e, rfl⟩, p⟩ := z
  rw [ok_lft]
  refine ⟨.bl b, ?_, p⟩
  rw [intsD_map]
  show (match mf [.pur] (.real l) with
    | some (.bl b, _) => some (D.bl b)
    | _ => none) = _
  rw [e]
@[simp] theorem ok_yes {ρ : Env} {u : PuS} {P : Bool → PuS → Prop} : Ok (mYes ρ) u P ↔ P true u := ok_pure
@[simp] theorem ex_two {α β : Type} {a : α} {b : β} {Q : α → β → Prop} : (∃ x y, (a = x ∧ b = y) ∧ Q x y) ↔ Q a b := ⟨fun ⟨_, _, ⟨e1, e2⟩, h⟩ => by rw [← e1, ← e2] at h; exact h, fun h => ⟨a, b, ⟨rfl, rfl⟩, h⟩⟩
/-! data, for simp -/
section
variable {a b i j : Int} {xs ys : List D} {x y : D}
@[simp] theorem s_add : addD (.int a) (.int b) = some (.int (a + b)) := rfl
@[simp] theorem s_sub : subD (.int a) (.int b) = some (.int (a - b)) := rfl
theorem s_mul : mulD (.int a) (.int b) = if mulC a b = true then some (.int (a * b)) else none := rfl
@[simp] theorem s_neg : negD (.int a) = some (.int (-a)) := rfl
@[simp] theorem s_lt : ltD (.int a) (.int b) = some (.bl (decide (a < b))) := rfl
@[simp] theorem s_le : leD (.int a) (.int b) = some (.bl (decide (a ≤ b))) := rfl
@[simp] theorem s_gt : gtD (.int a) (.int b) = some (.bl (decide (b < a))) := rfl
@[simp] theorem s_ge : geD (.int a) (.int b) = some (.bl (decide (b ≤ a))) := rfl
@[simp] theorem e_mul {Q : D → Prop} : (∃ z, mulD (.int a) (.int b) = some z ∧ Q z) ↔ mulC a b = true ∧ Q (.int (a * b)) := by
  rw [s_mul]
  split
  · simp [*]
  · simp [*]
@[simp] theorem mulC_iff : mulC a b = true ↔ (-18446744073709551616 < a ∧ a < 18446744073709551616 ∨ -18446744073709551616 < b ∧ b < 18446744073709551616) ∨ a.natAbs.log2 + b.natAbs.log2 < 1000000 := by
  unfold mulC
  rw [Bool.or_eq_true_iff, decide_eq_true_iff, decide_eq_true_iff]
  exact Iff.rfl
@[simp] theorem e_mod {Q : D → Prop} : (∃ z, modD (.int a) (.int b) = some z ∧ Q z) ↔ 0 < b ∧ Q (.int (a % b)) := by
  show (∃ z, (if decide (0 < b) = true then some (D.int (a % b)) else none) = some z ∧ Q z) ↔ _
  by_cases h : 0 < b <;> simp [h]
theorem log_small (h : b.natAbs < 1000000000) : b.natAbs.log2 < 30 := by
  by_cases z : b.natAbs = 0
  · rw [z]; decide
  · exact (Nat.log2_lt z).mpr (by omega)
@[simp] theorem e_fdiv {Q : D → Prop} : (∃ z, fdivD (.int a) (.int b) = some z ∧ Q z) ↔ fdivC a b = true ∧ Q (.int (a / b)) := by
  show (∃ z, (if fdivC a b = true then some (D.int (a / b)) else none) = some z ∧ Q z) ↔ _
  by_cases h : fdivC a b = true <;> simp [h]
@[simp] theorem fdivC_small (h : 0 < b ∧ b < 1000000000) : fdivC a b = true := by
  unfold fdivC
  have := log_small (b := b) (by omega)
  exact decide_eq_true ⟨h.1, by omega⟩
@[simp] theorem e_pow {Q : D → Prop} : (∃ z, powD (.int a) (.int b) = some z ∧ Q z) ↔ powC a b = true ∧ Q (.int (a ^ b.toNat)) := by
  show (∃ z, (if powC a b = true then some (D.int (a ^ b.toNat)) else none) = some z ∧ Q z) ↔ _
  by_cases h : powC a b = true <;> simp [h]
@[simp] theorem e_dm {Q : D → Prop} : (∃ z, dmD [.int a, .int b] = some z ∧ Q z) ↔ dmC a b = true ∧ Q (.tup [.int (a / b), .int (a % b)]) := by
  show (∃ z, (if dmC a b = true then some (D.tup [.int (a / b), .int (a % b)]) else none) = some z ∧ Q z) ↔ _
  by_cases h : dmC a b = true <;> simp [h]
@[simp] theorem dmC_small (h : 0 < b ∧ b < 1000000000) : dmC a b = true := by
  unfold dmC
  have := log_small (b := b) (by omega)
  have e : Builtin.divisionGoesByPylong a b = false := by
    unfold Builtin.divisionGoesByPylong
    simp only []
    have hb : ¬ ((if (b == 0) = true then 0 else b.natAbs.log2 / 30 + 1) > 300) := by
      split
      · omega
      · omega
    simp only [hb, decide_false, Bool.false_and]
  rw [e, decide_eq_true h.1]; rfl
@[simp] theorem e_rng1 {Q : List D → Prop} : (∃ z, rng1 [.int j] = some z ∧ Q z) ↔ (-100000 ≤ j ∧ j ≤ 100000) ∧ Q (rngD 0 j.toNat) := by
  show (∃ z, (if -100000 ≤ j ∧ j ≤ 100000 then some (rngD 0 j.toNat) else none) = some z ∧ Q z) ↔ _
  by_cases h : -100000 ≤ j ∧ j ≤ 100000 <;> simp [h]
@[simp] theorem e_rng2 {Q : List D → Prop} : (∃ z, rng2 [.int i, .int j] = some z ∧ Q z) ↔ ((-100000 ≤ i ∧ i ≤ 100000) ∧ -100000 ≤ j ∧ j ≤ 100000) ∧ Q (rngD i (j - i).toNat) := by
  show (∃ z, (if (-100000 ≤ i ∧ i ≤ 100000) ∧ -100000 ≤ j ∧ j ≤ 100000 then some (rngD i (j - i).toNat) else none) = some z ∧ Q z) ↔ _
  by_cases h : (-100000 ≤ i ∧ i ≤ 100000) ∧ -100000 ≤ j ∧ j ≤ 100000 <;> simp [h]
@[simp] theorem s_powC : powC a b = true ↔ 0 ≤ b ∧ b ≤ 1000000 ∧ a.natAbs < 18446744073709551616 := by unfold powC; exact decide_eq_true_iff
@[simp] theorem s_ixL : ixD (.lst xs) (.int i) = atI xs i := rfl
@[simp] theorem s_ixT : ixD (.tup xs) (.int i) = atI xs i := rfl
@[simp] theorem s_slL {lo hi : Option Int} : slD (.lst xs) lo hi = some (.lst (cutD xs lo hi)) := rfl
@[simp] theorem s_slT {lo hi : Option Int} : slD (.tup xs) lo hi = some (.tup (cutD xs lo hi)) := rfl
@[simp] theorem s_rev : revD (.lst xs) = some (.lst xs.reverse) := rfl
@[simp] theorem s_setAll2 {k l : Nat} {s t : Sd} {ρ : Env} : setAll [k, l] [s, t] ρ = (ρ.set k s).set l t := rfl
@[simp] theorem s_setAll3 {k l m : Nat} {s t r : Sd} {ρ : Env} : setAll [k, l, m] [s, t, r] ρ = ((ρ.set k s).set l t).set m r := rfl
@[simp] theorem s_wipe0 {ρ : Env} : wipeE ρ [] = ρ := rfl
@[simp] theorem s_wipe {ρ : Env} {k : Nat} {ks : List Nat} : wipeE ρ (k :: ks) = (wipeE ρ ks).set k .un := rfl
@[simp] theorem s_frz {ρ : Env} {k : Nat} : frz k ρ = match vOw ρ k with
  | some ds => ρ.set k (.sh (.lst ds))
  | none => ρ := rfl
theorem at_nat {α : Type} {l : List α} {k : Nat} {x : α} (h : l[k]? = some x) : atI l (k : Int) = some x := by
  have hk : k < l.length := (List.getElem?_eq_some_iff.mp h).1
  unfold atI ixN
  rw [if_pos (by omega), if_pos (by omega)]
  simpa using h
theorem at_last {α : Type} {l : List α} {x : α} : atI (l ++ [x]) (-1) = some x := by
  unfold atI ixN
  rw [if_neg (by omega), if_pos (by simp; omega)]
  have : ((-1 : Int) + ((l.length : Int) + 1)).toNat = l.length := by omega
  simp [this]
theorem rngD_zero (n : Nat) : rngD 0 n = (List.range n).map fun k => D.int (k : Nat) := by
  unfold rngD
  simp
/-- each turn of a loop over a range -/
theorem ok_range {g : MG} {mb : MS} {P : Fl → PuS → Prop} (lo : Int) (n : Nat) (Inv : Nat → Env → PuS → Prop)
    (step : ∀ k ρ u, k < n → Inv k ρ u → ∃ ρ1, g (.int (lo + (k : Nat))) ρ = some ρ1 ∧ Ok (mb ρ1) u fun f u' => match f with
      | .nx ρ2 => Inv (k + 1) ρ2 u'
      | .ct ρ2 => Inv (k + 1) ρ2 u'
      | .bk ρ2 => P (.nx ρ2) u'
      | .rt d => P (.rt d) u'
      | .rl d => P (.rl d) u'
      | .ex ρ2 k ks ds => P (.ex ρ2 k ks ds) u')
    (stop : ∀ ρ u, Inv n ρ u → P (.nx ρ) u) (ρ : Env) (u : PuS) (h : Inv 0 ρ u) : Ok (loopD g mb (rngD lo n) ρ) u P := by
  refine ok_loop (fun ds ρ u => ∃ k, k ≤ n ∧ ds = (rngD lo n).drop k ∧ Inv k ρ u) ?_ ?_ _ ρ u ⟨0, Nat.zero_le _, rfl, h⟩
  · rintro d ds ρ u ⟨k, hk, e, hi⟩
    have hkn : k < n := by
      rcases Nat.lt_or_ge k n with z | z
      · exact z
      · rw [List.drop_eq_nil_of_le (by rw [rngD_len]; exact z)] at e; cases e
    rw [List.drop_eq_getElem_cons (by rw [rngD_len]; exact hkn)] at e
    obtain ⟨e1, e2⟩ := List.cons.inj e
    have e3 : d = .int (lo + (k : Nat)) := by rw [e1]; simp [rngD]
    subst e3
    obtain ⟨ρ1, e4, h1⟩ := step k ρ u hkn hi
    refine ⟨ρ1, e4, h1.mono fun f u' z => ?_⟩
    cases f with
    | nx ρ2 => exact ⟨k + 1, hkn, e2, z⟩
    | ct ρ2 => exact ⟨k + 1, hkn, e2, z⟩
    | _ => exact z
  · rintro ρ u ⟨k, hk, e, hi⟩
    have hkn : k = n := by
      have := congrArg List.length e
      simp [rngD_len] at this
      omega
    subst hkn
    exact stop ρ u hi
theorem toPDs_ints (ns : List Int) : toPDs (ns.map D.int) = some (ns.map PyData.int) := by
  induction ns with
  | nil => rfl
  | cons n ns ih =>
    show (match toPD (.int n), toPDs (ns.map D.int) with
      | some a, some b => some (a :: b)
      | _, _ => none) = _
    rw [ih]; rfl
theorem lay_ints (ns : List Int) : PyData.canLayAll0 (ns.map PyData.int) = true := by
  induction ns with
  | nil => rfl
  | cons n ns ih => show (true && _) = true; rw [ih]; rfl
theorem depth_ints (ns : List Int) : PyData.depthAll (ns.map PyData.int) = 0 := by
  induction ns with
  | nil => rfl
  | cons n ns ih => show max 0 (PyData.depthAll (ns.map PyData.int)) = 0; rw [ih]; rfl
theorem eqv_ints : ∀ (xs ys : List Int), PyData.eqvAll (xs.map PyData.int) (ys.map PyData.int) = decide (xs = ys)
  | [], [] => rfl
  | [], _ :: _ => rfl
  | _ :: _, [] => rfl
  | x :: xs, y :: ys => by
    show ((x == y) && PyData.eqvAll (xs.map PyData.int) (ys.map PyData.int)) = _
    rw [eqv_ints xs ys]
    by_cases h : x = y <;> by_cases h2 : xs = ys <;> simp [h, h2]
theorem eq_tups (xs ys : List Int) : eqD (.tup (xs.map D.int)) (.tup (ys.map D.int)) = some (decide (xs = ys)) := by
  have e : ∀ zs : List Int, toPD (.tup (zs.map D.int)) = some (.tuple (zs.map PyData.int)) := fun zs => by
    show (toPDs (zs.map D.int)).map PyData.tuple = _
    rw [toPDs_ints]; rfl
  have sh : ∀ zs : List Int, SeqAt.shaped (.tuple (zs.map PyData.int)) = true := fun zs => by
    show (PyData.canLayAll0 (zs.map PyData.int) && decide (PyData.depthAll (zs.map PyData.int) + 1 ≤ 64)) = true
    rw [lay_ints, depth_ints]; rfl
  unfold eqD
  rw [e, e]
  show (if _ then some (PyData.eqvAll (xs.map PyData.int) (ys.map PyData.int)) else none) = _
  rw [if_pos ⟨sh xs, sh ys⟩, eqv_ints]
theorem eq_lsts (xs ys : List Int) : eqD (.lst (xs.map D.int)) (.lst (ys.map D.int)) = some (decide (xs = ys)) := by
  have e : ∀ zs : List Int, toPD (.lst (zs.map D.int)) = some (.list (zs.map PyData.int)) := fun zs => by
    show (toPDs (zs.map D.int)).map PyData.list = _
    rw [toPDs_ints]; rfl
  have sh : ∀ zs : List Int, SeqAt.shaped (.list (zs.map PyData.int)) = true := fun zs => by
    show (PyData.canLayAll0 (zs.map PyData.int) && decide (PyData.depthAll (zs.map PyData.int) + 1 ≤ 64)) = true
    rw [lay_ints, depth_ints]; rfl
  unfold eqD
  rw [e, e]
  show (if _ then some (PyData.eqvAll (xs.map PyData.int) (ys.map PyData.int)) else none) = _
  rw [if_pos ⟨sh xs, sh ys⟩, eqv_ints]
@[simp] theorem s_eqT {xs ys : List Int} : eqMD (.tup (xs.map D.int)) (.tup (ys.map D.int)) = some (.bl (decide (xs = ys))) := by unfold eqMD; rw [eq_tups]; rfl
@[simp] theorem s_neT {xs ys : List Int} : neMD (.tup (xs.map D.int)) (.tup (ys.map D.int)) = some (.bl (!decide (xs = ys))) := by unfold neMD; rw [eq_tups]; rfl
@[simp] theorem s_eqL {xs ys : List Int} : eqMD (.lst (xs.map D.int)) (.lst (ys.map D.int)) = some (.bl (decide (xs = ys))) := by unfold eqMD; rw [eq_lsts]; rfl
@[simp] theorem s_neL {xs ys : List Int} : neMD (.lst (xs.map D.int)) (.lst (ys.map D.int)) = some (.bl (!decide (xs = ys))) := by unfold neMD; rw [eq_lsts]; rfl
@[simp] theorem s_eqL0 {xs : List Int} : eqMD (.lst (xs.map D.int)) (.lst []) = some (.bl (decide (xs = []))) := s_eqL (ys := [])
@[simp] theorem s_neL0 {xs : List Int} : neMD (.lst (xs.map D.int)) (.lst []) = some (.bl (!decide (xs = []))) := s_neL (ys := [])
@[simp] theorem s_eqI : eqMD (.int a) (.int b) = some (.bl (decide (a = b))) := by
  have : eqD (.int a) (.int b) = some (decide (a = b)) := by
    show (if SeqAt.shaped (.int a) = true ∧ SeqAt.shaped (.int b) = true then some (a == b) else none) = _
    rw [if_pos ⟨rfl, rfl⟩]; rfl
  unfold eqMD; rw [this]; rfl
@[simp] theorem s_neI : neMD (.int a) (.int b) = some (.bl (!decide (a = b))) := by
  have : eqD (.int a) (.int b) = some (decide (a = b)) := by
    show (if SeqAt.shaped (.int a) = true ∧ SeqAt.shaped (.int b) = true then some (a == b) else none) = _
    rw [if_pos ⟨rfl, rfl⟩]; rfl
  unfold neMD; rw [this]; rfl
theorem cut_from {xs : List D} {k : Nat} : cutD xs (some (k : Int)) none = xs.drop k := by
  unfold cutD
  rw [HT.sIx_nat, HT.sIx_none]
  rcases Nat.le_total k xs.length with h | h
  · rw [Nat.min_eq_left h]
    exact List.take_of_length_le (by simp)
  · rw [Nat.min_eq_right h, List.drop_eq_nil_of_le (Nat.le_refl _), List.drop_eq_nil_of_le h]
    simp
theorem cut_to {xs : List D} {k : Nat} : cutD xs none (some (k : Int)) = xs.take k := by
  unfold cutD
  rw [HT.sIx_nat, HT.sIx_none]
  simp
@[simp] theorem s_enumT : enumA [.tup xs] = some (enumD xs) := rfl
@[simp] theorem s_enumL : enumA [.lst xs] = some (enumD xs) := rfl
@[simp] theorem s_max2 : maxD [.int a, .int b] = some (.int (if b > a then b else a)) := rfl
@[simp] theorem s_min2 : minD [.int a, .int b] = some (.int (if b < a then b else a)) := rfl
theorem s_maxL {n : Int} {ns : List Int} : maxD [.lst ((n :: ns).map D.int)] = some (.int (maxL (n :: ns))) := by
  show (match intsD ((n :: ns).map D.int) with
    | some (n :: ns) => some (D.int (maxL (n :: ns)))
    | _ => none) = _
  rw [intsD_map]
@[simp] theorem s_addL (h : xs.length + ys.length ≤ 100000) : addD (.lst xs) (.lst ys) = some (.lst (xs ++ ys)) := if_pos h
@[simp] theorem s_Gt {n : Nat} {gs : List D → Env → Option Env} {ρ : Env} : mGt n gs (.tup xs) ρ = if xs.length = n then gs xs ρ else none := rfl
@[simp] theorem s_Gc {g : MG} {gs : List D → Env → Option Env} {ρ : Env} : mGcons g gs (x :: xs) ρ = (g x ρ).bind fun ρ' => gs xs ρ' := rfl
@[simp] theorem s_Gnil {ρ : Env} : mGnil [] ρ = some ρ := rfl
@[simp] theorem s_fld {k : Str} {ks : List Str} {n : Nat} : fldD k ks n (.obj k ks xs) = xs[n]? := if_pos ⟨rfl, rfl⟩
@[simp] theorem s_scrLen {ns : List Int} : lenD [.scr ns] = some (.int ns.length) := rfl
@[simp] theorem s_scrIx {ns : List Int} : ixD (.scr ns) (.int i) = (atI ns i).map .int := rfl
@[simp] theorem s_scrSl {ns : List Int} {lo hi : Option Int} : slD (.scr ns) lo hi = some (.lst (cutD (ns.map .int) lo hi)) := rfl
theorem enumD_ints {ns : List Int} {k : Nat} {d : D} (h : (enumD (ns.map D.int))[k]? = some d) : ∃ x, ns[k]? = some x ∧ d = .tup [.int (k : Nat), .int x] := by
  obtain ⟨x, e, rfl⟩ := enumD_at h
  rw [List.getElem?_map] at e
  cases e2 : ns[k]? with
  | none => rw [e2] at e; cases e
  | some y => rw [e2] at e; cases e; exact ⟨y, rfl, rfl⟩
@[simp] theorem s_vSh {ρ : Env} {n : Nat} : vSh ρ n = match ρ[n]? with
  | some (.sh d) => some d
  | _ => none := rfl
@[simp] theorem s_vOw {ρ : Env} {n : Nat} : vOw ρ n = match ρ[n]? with
  | some (.ow d) => some d
  | _ => none := rfl
@[simp] theorem s_start {n : Nat} {ds : List D} : startE n ds = ds.map Sd.sh ++ List.replicate (n - ds.length) Sd.un := rfl
@[simp] theorem s_Gn {n : Nat} {d : D} {ρ : Env} : mGn n d ρ = some (ρ.set n (.sh d)) := rfl
@[simp] theorem s_int1 : int1D [.int a] = some (.int a) := rfl
@[simp] theorem s_lenL : lenD [.lst xs] = some (.int xs.length) := rfl
@[simp] theorem s_lenT : lenD [.tup xs] = some (.int xs.length) := rfl
@[simp] theorem s_tupL : tupD [.lst xs] = some (.tup xs) := rfl
@[simp] theorem s_getP {l : List Int} {P : D → PuS → Prop} : Ok (getP .pur (.int j)) (.real l) P ↔ ∃ n, atI l j = some n ∧ P (.int n) (.real l) := by
  cases e : atI l j with
  | none =>
    constructor
    · rintro ⟨d, u', e2, p⟩
      have e3 : (atI l j).map (fun n => (D.int n, PuS.real l)) = some (d, u') := e2
      rw [e] at e3; cases e3
    · rintro ⟨n, e2, _⟩; cases e2
  | some n =>
    have e3 : getP .pur (.int j) (.real l) = some (.int n, .real l) := by
      show (atI l j).map (fun n => (D.int n, PuS.real l)) = _
      rw [e]; rfl
    rw [ok_of e3]; simp
@[simp] theorem s_putP {l : List Int} {P : Unit → PuS → Prop} : Ok (putP .pur (.int j) (.int a)) (.real l) P ↔ ∃ n, ixN l.length j = some n ∧ P () (.real (l.set n a)) := by
  cases e : ixN l.length j with
  | none =>
    constructor
    · rintro ⟨d, u', e2, p⟩
      have e3 : (ixN l.length j).map (fun n => ((), PuS.real (l.set n a))) = some (d, u') := e2
      rw [e] at e3; cases e3
    · rintro ⟨n, e2, _⟩; cases e2
  | some n =>
    have e3 : putP .pur (.int j) (.int a) (.real l) = some ((), .real (l.set n a)) := by
      show (ixN l.length j).map (fun n => ((), PuS.real (l.set n a))) = _
      rw [e]; rfl
    rw [ok_of e3]; simp
@[simp] theorem ok_dmP {ρ : Env} {u : PuS} {mi m : ME} {n k : Nat} {PS : Fl → PuS → Prop} : Ok (mDmP n mi k m ρ) u PS ↔ Ok (m ρ) u fun v u1 => ∃ a b, v = .tup [.int a, .int b] ∧ Ok (mi ρ) u1 fun kk u2 => ∃ d, vSh ρ n = some d ∧ Ok (putP d kk (.int a)) u2 fun _ u3 => PS (.nx (ρ.set k (.sh (.int b)))) u3 := by
  unfold mDmP; simp only [ok_bind]
  constructor
  · refine fun h => h.mono fun f u' z => ?_
    split at z
    · exact ⟨_, _, rfl, by simpa only [ok_bind, ok_lft, ok_pure] using z⟩
    · exact (ok_none.mp z).elim
  · refine fun h => h.mono fun f u' z => ?_
    obtain ⟨a, b, rfl, z⟩ := z
    simpa only [ok_bind, ok_lft, ok_pure] using z
end
end Mi


set_option Elab.async false
set_option linter.all false
set_option maxRecDepth 100000
set_option maxHeartbeats 4000000
/-! MiQ: == and != of data that stand for plain things. -/
namespace Mi
open PySem L2
variable [TB : Tabl]
/-- one statement, with what holds behind it -/
theorem seq_cut {m n : MS} {ρ : Env} {u : PuS} {P : Fl → PuS → Prop} (Q : Env → PuS → Prop) (h1 : Ok (m ρ) u fun f u1 => match f with
    | .nx ρ1 => Q ρ1 u1
    | f' => P f' u1) (h2 : ∀ ρ1 u1, Q ρ1 u1 → Ok (n ρ1) u1 P) : Ok (mSeq m n ρ) u P := ok_seq.mpr (h1.mono fun f u1 z => by
  cases f with
  | nx ρ1 => exact h2 _ _ z
  | _ => exact z)
structure EqT {α : Type} [DecidableEq α] (f : α → D) (g : α → PyData) (k : Nat) : Prop where
  to : ∀ x, toPD (f x) = some (g x)
  lay : ∀ x, PyData.canLay0 (g x) = true
  dep : ∀ x, PyData.depth (g x) ≤ k
  eqv : ∀ x y, PyData.eqv (g x) (g y) = decide (x = y)
section
variable {α β : Type} [DecidableEq α] [DecidableEq β] {f : α → D} {g : α → PyData} {k : Nat}
theorem EqT.shaped (h : EqT f g k) (hk : k ≤ 64) (x : α) : SeqAt.shaped (g x) = true := by
  unfold SeqAt.shaped
  rw [h.lay x, decide_eq_true (Nat.le_trans (h.dep x) hk)]; rfl
theorem EqT.eqD (h : EqT f g k) (hk : k ≤ 64) (x y : α) : Mi.eqD (f x) (f y) = some (decide (x = y)) := by
  unfold Mi.eqD
  rw [h.to, h.to]
  show (if SeqAt.shaped (g x) = true ∧ SeqAt.shaped (g y) = true then some (PyData.eqv (g x) (g y)) else none) = _
  rw [if_pos ⟨h.shaped hk x, h.shaped hk y⟩, h.eqv]
theorem EqT.eq (h : EqT f g k) (hk : k ≤ 64) (x y : α) : eqMD (f x) (f y) = some (.bl (decide (x = y))) := by unfold eqMD; rw [h.eqD hk]; rfl
theorem EqT.ne (h : EqT f g k) (hk : k ≤ 64) (x y : α) : neMD (f x) (f y) = some (.bl (!decide (x = y))) := by unfold neMD; rw [h.eqD hk]; rfl
theorem EqT.int : EqT D.int PyData.int 0 := ⟨fun _ => rfl, fun _ => rfl, fun _ => Nat.le_refl 0, fun x y => by
  show (x == y) = _
  by_cases h : x = y <;> simp [h]⟩
theorem EqT.bl : EqT D.bl PyData.bool 0 := ⟨fun _ => rfl, fun _ => rfl, fun _ => Nat.le_refl 0, fun x y => by
  show (x == y) = _
  by_cases h : x = y <;> simp [h]⟩
theorem EqT.toPDs (h : EqT f g k) : ∀ xs : List α, Mi.toPDs (xs.map f) = some (xs.map g)
  | [] => rfl
  | x :: xs => by
    show (match toPD (f x), Mi.toPDs (xs.map f) with
      | some a, some b => some (a :: b)
      | _, _ => none) = _
    rw [h.toPDs xs, h.to]; rfl
theorem EqT.lays (h : EqT f g k) : ∀ xs : List α, PyData.canLayAll0 (xs.map g) = true
  | [] => rfl
  | x :: xs => by show (PyData.canLay0 (g x) && _) = true; rw [h.lays xs, h.lay]; rfl
theorem EqT.deps (h : EqT f g k) : ∀ xs : List α, PyData.depthAll (xs.map g) ≤ k
  | [] => Nat.zero_le _
  | x :: xs => Nat.max_le.mpr ⟨h.dep x, h.deps xs⟩
theorem EqT.eqvs (h : EqT f g k) : ∀ xs ys : List α, PyData.eqvAll (xs.map g) (ys.map g) = decide (xs = ys)
  | [], [] => rfl
  | [], _ :: _ => rfl
  | _ :: _, [] => rfl
  | x :: xs, y :: ys => by
    show (PyData.eqv (g x) (g y) && PyData.eqvAll (xs.map g) (ys.map g)) = _
    rw [h.eqvs xs ys, h.eqv]
    by_cases h1 : x = y <;> by_cases h2 : xs = ys <;> simp [h1, h2]
theorem EqT.lst (h : EqT f g k) : EqT (fun xs : List α => .lst (xs.map f)) (fun xs => .list (xs.map g)) (k + 1) :=
  ⟨fun xs => by show (Mi.toPDs (xs.map f)).map PyData.list = _; rw [h.toPDs]; rfl, fun xs => h.lays xs, fun xs => Nat.succ_le_succ (h.deps xs), fun xs ys => h.eqvs xs ys⟩
theorem EqT.tup (h : EqT f g k) : EqT (fun xs : List α => .tup (xs.map f)) (fun xs => .tuple (xs.map g)) (k + 1) :=
  ⟨fun xs => by show (Mi.toPDs (xs.map f)).map PyData.tuple = _; rw [h.toPDs]; rfl, fun xs => h.lays xs, fun xs => Nat.succ_le_succ (h.deps xs), fun xs ys => h.eqvs xs ys⟩
/-- a thing or None -/
def opD (f : α → D) : Option α → D
  | some x => f x
  | none => .non
def opP (g : α → PyData) : Option α → PyData
  | some x => g x
  | none => .none
theorem eqv_none_l {p : PyData} (h : p ≠ .none) : PyData.eqv .none p = false := by
  cases p <;> first | exact absurd rfl h | rfl
theorem eqv_none_r {p : PyData} (h : p ≠ .none) : PyData.eqv p .none = false := by
  cases p <;> first | exact absurd rfl h | rfl
theorem EqT.opt (h : EqT f g k) (hn : ∀ x, g x ≠ .none) : EqT (opD f) (opP g) k :=
  ⟨fun x => by cases x with
    | none => rfl
    | some x => exact h.to x,
   fun x => by cases x with
    | none => rfl
    | some x => exact h.lay x,
   fun x => by cases x with
    | none => exact Nat.zero_le _
    | some x => exact h.dep x,
   fun x y => by
    cases x with
    | none =>
      cases y with
      | none => rfl
      | some y => show PyData.eqv .none (g y) = _; rw [eqv_none_l (hn y)]; simp
    | some x =>
      cases y with
      | none => show PyData.eqv (g x) .none = _; rw [eqv_none_r (hn x)]; simp
      | some y => show PyData.eqv (g x) (g y) = _; rw [h.eqv]; by_cases e : x = y <;> simp [e]⟩
/-- rows of ints or None -/
theorem EqT.row : EqT (opD fun xs : List Int => .tup (xs.map D.int)) (opP fun xs => .tuple (xs.map PyData.int)) 1 := EqT.opt (EqT.tup EqT.int) fun x h => by cases h
end
end Mi

set_option Elab.async false
set_option linter.all false
set_option maxRecDepth 100000
set_option maxHeartbeats 4000000
/-! MiR: list(enumerate(x)): an iterator whose tuples are kept. -/
namespace PySem
open PySem PySem.Spec PySem.Calls PyProof.Rows
/-- an iterator that hands out new tuples, which are kept; lo: the list that takes them -/
structure Outs (prog : Program) (w : World) (A : Around) (I : Addr) (fp wr : List Addr) (lo : Addr) (n : Nat) (P : Nat → Array Value → Prop) (St : Nat → Heap → Prop) : Prop where
  sub : ∀ b ∈ wr, b < lo
  frame : ∀ i h h', St i h → (∀ b, b ≠ lo → ∀ o, h.get? b = some o → h'.get? b = some o) → St i h'
  item : ∀ i (s : Shared) (Q : Option Value → Shared → Prop) (E : Value → Shared → Prop), i < n → St i s.heap → lo < s.heap.objs.size →
    (∀ vals h' tk, P i vals → h'.get? s.heap.objs.size = some { cls := .type "tuple", data := .seq vals } → h'.objs.size = s.heap.objs.size + 1 → St (i + 1) h' → (∀ b o, b ∉ wr → s.heap.get? b = some o → h'.get? b = some o) →
      Q (some (.ref s.heap.objs.size)) { s with heap := h', toks := tk }) → wpAny (model prog w) A (pyNext (.ref I)) Q E s
  done : ∀ (s : Shared) (Q : Option Value → Shared → Prop) (E : Value → Shared → Prop), St n s.heap →
    (∀ h' tk, (∀ b o, b ∉ wr → s.heap.get? b = some o → h'.get? b = some o) → Q none { s with heap := h', toks := tk }) → wpAny (model prog w) A (pyNext (.ref I)) Q E s
structure OutG (P : Nat → Array Value → Prop) (lo : Addr) (h : Heap) (as : List Addr) : Prop where
  rise : as.Pairwise (· < ·)
  above : ∀ a ∈ as, lo < a
  tups : ∀ (j : Nat) (a : Addr), as[j]? = some a → ∃ vals, P j vals ∧ h.get? a = some { cls := .type "tuple", data := .seq vals }
section
variable {prog : Program} {w : World} {A : Around} {s : Shared} {R : Result → Shared → Prop} {I S : Addr} {fp wr : List Addr} {n : Nat} {P : Nat → Array Value → Prop} {St : Nat → Heap → Prop}
theorem OutG.there {h : Heap} {as : List Addr} (g : OutG P S h as) {a : Addr} (ha : a ∈ as) : a < h.objs.size := by
  obtain ⟨j, hj⟩ := List.mem_iff_getElem?.mp ha
  obtain ⟨_, _, e⟩ := g.tups j a hj
  exact Heap.lt_size e
theorem outs_loop (O : Outs prog w A.in1 I fp wr S n P St) (hn : n ≤ sizeLine) (res : Value) {h₁ : Heap}
    (hR : ∀ h' tk acc c as, (∀ b o, b ≠ S → b ∉ wr → h₁.get? b = some o → h'.get? b = some o) → h'.get? S = some { cls := .type "list", dict := none, data := .seq acc c, slots := #[] } → as.length = n → OutG P S h' as →
      acc.toList = as.map Value.ref → R (.ok (.ret res)) { s with heap := h', toks := tk }) :
    ∀ (k i : Nat) (h : Heap) (tk c : Nat) (acc : Array Value) (as : List Addr), n - i = k → i ≤ n → St i h → (∀ b o, b ≠ S → b ∉ wr → h₁.get? b = some o → h.get? b = some o) →
      h.get? S = some { cls := .type "list", dict := none, data := .seq acc c, slots := #[] } → acc.toList = as.map Value.ref → as.length = i → OutG P S h as →
      codeAny (model prog w) A (.builtin "list.extend.loop" ⟨[.ref S, .ref I, res], []⟩) R { s with heap := h, toks := tk } := by
  have hSw : S ∉ wr := fun z => Nat.lt_irrefl _ (O.sub S z)
  have hup : ∀ b, S < b → b ∉ wr := fun b hb z => Nat.lt_irrefl _ (Nat.lt_trans hb (O.sub b z))
  intro k
  induction k with
  | zero =>
    intro i h tk c acc as hk hi hst hkeep hS hacc hal hG
    have hin : i = n := by omega
    subst hin
    refine codeAny_builtin PySem.F.entry_extend_loop ?_
    rw [Around.under_plainId PySem.F.plain_extend_loop _]
    show wpAny _ A.in1 (pyNext (.ref I) >>= _) _ _ _
    refine wpAny_bind (O.done { s with heap := h, toks := tk } _ _ hst fun h' tk' he => ?_)
    refine wpAny_pure (hR h' tk' acc c as (fun b o h1 h2 e => he b o h2 (hkeep b o h1 h2 e)) (he S _ hSw hS) (by omega) ⟨hG.rise, hG.above, fun j a hj => ?_⟩ hacc)
    obtain ⟨vals, e1, e2⟩ := hG.tups j a hj
    exact ⟨vals, e1, he a _ (hup a (hG.above a (List.mem_of_getElem? hj))) e2⟩
  | succ k ih =>
    intro i h tk c acc as hk hi hst hkeep hS hacc hal hG
    have hlt : i < n := by omega
    have hsz : acc.size = i := by rw [← Array.length_toList, hacc, List.length_map, hal]
    refine codeAny_builtin PySem.F.entry_extend_loop ?_
    rw [Around.under_plainId PySem.F.plain_extend_loop _]
    show wpAny _ A.in1 (pyNext (.ref I) >>= _) _ _ _
    refine wpAny_bind (O.item i { s with heap := h, toks := tk } _ _ hlt hst (Heap.lt_size hS) fun vals h' tk' hv ht hz hst' hkp => ?_)
    dsimp only at ht hz hkp ⊢
    have hS' := hkp S _ hSw hS
    have up : ∀ b, b ≠ S → ∀ o, h'.get? b = some o → (h'.update S (Obj.mapSeq (·.push (Value.ref h.objs.size)))).get? b = some o := fun b hb o e => (Heap.get?_update_other _ _ (Ne.symm hb)).trans e
    have hSl : S < h.objs.size := Heap.lt_size hS
    show wpAny _ A.in1 (updateSeq S (·.push (Value.ref h.objs.size)) >>= _) _ _ _
    refine wpAny_bind ?_
    refine wpAny_updateSeq hS' rfl (wpAny_pure ⟨plainId_quiet PySem.F.plain_extend_loop _, ih (i + 1) _ tk' _ (acc.push (Value.ref h.objs.size)) (as ++ [h.objs.size]) (by omega) hlt (O.frame _ _ _ hst' up)
      (fun b o h1 h2 e => up b h1 o (hkp b o h2 (hkeep b o h1 h2 e))) (Heap.get?_update_self _ hS' rfl) (by rw [Array.toList_push, hacc, List.map_append]; rfl) (by rw [List.length_append, hal]; rfl) ⟨?_, ?_, ?_⟩⟩) (by rw [hsz]; omega) (by show (acc.push (Value.ref h.objs.size)).size ≤ sizeLine + 1; rw [Array.size_push, hsz]; omega)
    · refine List.pairwise_append.mpr ⟨hG.rise, List.pairwise_singleton _ _, fun a ha b hb => ?_⟩
      rw [List.mem_singleton.mp hb]
      exact hG.there ha
    · intro a ha
      rcases List.mem_append.mp ha with ha | ha
      · exact hG.above a ha
      · rw [List.mem_singleton.mp ha]; exact hSl
    · intro j b hj
      rcases Nat.lt_trichotomy j as.length with h1 | h1 | h1
      · rw [List.getElem?_append_left h1] at hj
        obtain ⟨vals', e1, e2⟩ := hG.tups j b hj
        have hb := hG.above b (List.mem_of_getElem? hj)
        exact ⟨vals', e1, up b (Nat.ne_of_gt hb) _ (hkp b _ (hup b hb) e2)⟩
      · subst h1
        have hb : h.objs.size = b := by simpa using hj
        subst hb
        exact ⟨vals, by rw [hal]; exact hv, up _ (Nat.ne_of_gt hSl) _ ht⟩
      · have hnone : (as ++ [h.objs.size])[j]? = none := List.getElem?_eq_none (by rw [List.length_append, List.length_singleton]; omega)
        rw [hnone] at hj; cases hj
/-- a type without a length -/
structure NoLen (T : String) : Prop where
  len : typeLookup (.type T) "__len__" = pure none
  hint : typeLookup (.type T) "__length_hint__" = pure none
  nl : (Value.type T == Value.type "list") = false
  nt : (Value.type T == Value.type "tuple") = false
theorem outs_extend {T : String} (F : NoLen T) (O : Outs prog w A.in1 I fp wr S n P St) (hT : s.TypeIs (.ref I) T) (hself : ∀ (A : Around) (s' : Shared) (Q : Value → Shared → Prop) (E : Value → Shared → Prop), St 0 s'.heap → Q (.ref I) s' → wpAny (model prog w) A (pyIter (.ref I)) Q E s') (hst : St 0 s.heap) (hSI : S ≠ I) (res : Value) (c₀ : Nat)
    (hS : s.heap.get? S = some { cls := .type "list", data := .seq #[] c₀ })
    (hR : ∀ h' tk acc c as, (∀ b o, b ≠ S → b ∉ wr → s.heap.get? b = some o → h'.get? b = some o) → h'.get? S = some { cls := .type "list", dict := none, data := .seq acc c, slots := #[] } → as.length = n → OutG P S h' as →
      acc.toList = as.map Value.ref → R (.ok (.ret res)) { s with heap := h', toks := tk }) (hn : n ≤ sizeLine) :
    wpAny (model prog w) A.in1 (Builtin.List.listExtendWith (.ref S) (.ref I) res)
      (fun fin s' => match fin with | .done f => R (.ok f) s' | .again c' => c'.quiet = true ∧ codeAny (model prog w) A c' R s') (fun e s' => R (.error e) s') s := by
  unfold Builtin.List.listExtendWith
  refine wpAny_bind (wpAny_typeOf hT ?_)
  have h1 : Builtin.List.listSameRef (.ref S) (.ref I) = false := by simp [Builtin.List.listSameRef, hSI]
  simp only [h1, F.nl, F.nt, Bool.or_false, Bool.false_eq_true, if_false]
  refine wpAny_bind (hself _ _ _ _ hst ?_)
  refine wpAny_bind (wpAny_holding ?_)
  unfold Builtin.List.listLengthHint
  refine wpAny_bind (wpAny_specialOf hT F.len ?_)
  show wpAny _ A.in1 (specialOf (Value.ref I) (Str.ofString "__length_hint__") >>= _) _ _ _
  refine wpAny_bind (wpAny_specialOf hT F.hint ?_)
  refine wpAny_pure ?_
  show wpAny _ A.in1 (rule "list.extend.makes-room" >>= fun _ => Builtin.List.listTouch (.ref S) >>= fun _ =>
    again (.builtin "list.extend.loop" ⟨[.ref S, .ref I, res], []⟩)) _ _ _
  refine wpAny_bind (wpAny_rule ?_)
  refine wpAny_bind ?_
  show wpAny _ A.in1 (updateSeq S (·.push .none) >>= fun _ => updateSeq S (·.pop)) _ _ _
  refine wpAny_bind (wpAny_updateSeq hS rfl ?_)
  have hS₂ := Heap.get?_update_self (Obj.mapSeq (·.push Value.none)) hS rfl
  refine wpAny_updateSeq (hz := by seq_fits) hS₂ rfl ?_
  have hS₃ := Heap.get?_update_self (Obj.mapSeq (·.pop)) hS₂ rfl
  have oth : ∀ b, b ≠ S → ∀ o, s.heap.get? b = some o → ((s.heap.update S (Obj.mapSeq (·.push Value.none))).update S (Obj.mapSeq (·.pop))).get? b = some o :=
    fun b hb o e => (Heap.get?_update_other _ _ (Ne.symm hb)).trans ((Heap.get?_update_other _ _ (Ne.symm hb)).trans e)
  refine wpAny_pure ⟨plainId_quiet PySem.F.plain_extend_loop _, outs_loop (s := s) (h₁ := s.heap) O hn res hR n 0 _ _ _ #[] [] (Nat.sub_zero _) (Nat.zero_le _) (O.frame 0 _ _ hst oth) (fun b o hb _ e => oth b hb o e) hS₃ rfl rfl ⟨List.Pairwise.nil, (fun _ ha => nomatch ha), (fun j a hj => by simp at hj)⟩⟩
theorem outs_call {T : String} {E : Value → Shared → Prop} {Q : Value → Shared → Prop} (F : NoLen T) (O : Outs prog w A.in1.in1 I fp wr s.heap.objs.size n P St) (hT : s.TypeIs (.ref I) T) (hself : ∀ (A : Around) (s' : Shared) (Q : Value → Shared → Prop) (E : Value → Shared → Prop), St 0 s'.heap → Q (.ref I) s' → wpAny (model prog w) A (pyIter (.ref I)) Q E s') (hst : St 0 s.heap) (hn : n ≤ sizeLine)
    (hQ : ∀ h' tk acc c as, (∀ b o, b ∉ wr → s.heap.get? b = some o → h'.get? b = some o) → h'.get? s.heap.objs.size = some { cls := .type "list", dict := none, data := .seq acc c, slots := #[] } → as.length = n → OutG P s.heap.objs.size h' as →
      acc.toList = as.map Value.ref → Q (.ref s.heap.objs.size) { s with heap := h', toks := tk }) :
    wpAny (model prog w) A (call (.type "list") [.ref I]) Q E s := by
  refine callType_codes (Q₁ := fun obj s₁ => obj = .ref s.heap.objs.size ∧ s₁ = { s with heap := s.heap.push { cls := .type "list", data := .seq #[] } }) PySem.F.called_list (PySem.F.typeCall_list_1 _) PySem.F.entry_list_init
    (code_list_new _ ⟨rfl, rfl⟩) fun obj s₁ h₁ => ?_
  obtain ⟨rfl, rfl⟩ := h₁
  have hS : (s.heap.push { cls := .type "list", data := .seq #[] }).get? s.heap.objs.size = some { cls := .type "list", data := .seq #[] } := Heap.get?_push_size _ rfl
  have hIl : I < s.heap.objs.size := let ⟨_, ho, _⟩ := hT; Heap.lt_size ho
  refine ⟨⟨_, hS, rfl⟩, PySem.F.args_list_init_2 _ _, ?_⟩
  show wpAny _ _ (do let old ← Builtin.List.listItems (.ref s.heap.objs.size); Builtin.List.listUpdate (.ref s.heap.objs.size) (fun _ => #[]); letGo old.toList.reverse; Builtin.List.listExtendWith (.ref s.heap.objs.size) (.ref I) .none) _ _ _
  refine wpAny_bind ?_
  unfold Builtin.List.listItems
  refine wpAny_bind (wpAny_seqItems hS rfl (wpAny_pure ?_))
  show wpAny _ _ (updateSeq s.heap.objs.size (fun _ => #[]) >>= fun _ => letGo (#[] : Array Value).toList.reverse >>= fun _ => Builtin.List.listExtendWith (.ref s.heap.objs.size) (.ref I) .none) _ _ _
  refine wpAny_bind (wpAny_updateSeq hS rfl ?_)
  have hS₂ := Heap.get?_update_self (Obj.mapSeq (fun _ => (#[] : Array Value))) hS rfl
  have oth : ∀ b, b ≠ s.heap.objs.size → ∀ o, s.heap.get? b = some o → ((s.heap.push { cls := .type "list", data := .seq #[] }).update s.heap.objs.size (Obj.mapSeq (fun _ => (#[] : Array Value)))).get? b = some o :=
    fun b hb o e => (Heap.get?_update_other _ _ (Ne.symm hb)).trans (Heap.get?_push_of_some _ e)
  refine wpAny_bind (wpAny_letGo ?_)
  obtain ⟨oI, hoI, hcI⟩ := id hT
  refine outs_extend F O ⟨oI, oth I (Nat.ne_of_lt hIl) oI hoI, hcI⟩ hself (O.frame 0 _ _ hst fun b hb o e => oth b hb o e) (Nat.ne_of_gt hIl) .none _ hS₂ (fun h' tk acc c as hk hS' hl hG hacc => ?_) hn
  exact ⟨rfl, hQ h' tk acc c as (fun b o hb e => hk b o (Nat.ne_of_lt (Heap.lt_size e)) hb (oth b (Nat.ne_of_lt (Heap.lt_size e)) o e)) hS' hl hG hacc⟩
end
/-! ### enumerate -/
section
variable {prog : Program} {w : World} {A : Around} {E : Value → Shared → Prop} {s : Shared}
end
end PySem

set_option Elab.async false
set_option linter.all false
set_option maxRecDepth 100000
set_option maxHeartbeats 4000000
/-! MiS: list(enumerate(x)) as a rule. -/
namespace Mi
open PySem PySem.Spec PyProof.Rows L2
variable [TB : Tabl]
/-- tuples tracked at their addresses -/
def putV : Hp → List Addr → List (List V) → Hp
  | H, a :: as, p :: kvs => putV (upd H a (.tup p)) as kvs
  | H, _, _ => H
theorem putV_off {b : Addr} : ∀ (as : List Addr) (kvs : List (List V)) (H : Hp), b ∉ as → putV H as kvs b = H b
  | [], _, _, _ => rfl
  | _ :: _, [], _, _ => rfl
  | a :: as, p :: kvs, H, h => by
    show putV (upd H a (.tup p)) as kvs b = H b
    rw [putV_off as kvs _ (fun z => h (List.mem_cons_of_mem _ z)), upd_ne (fun z => h (by rw [z]; exact List.mem_cons_self))]
theorem putV_at : ∀ (as : List Addr) (kvs : List (List V)) (H : Hp), as.length = kvs.length → as.Nodup → ∀ (j : Nat) (a : Addr) (vs : List V), as[j]? = some a → kvs[j]? = some vs → putV H as kvs a = some (.tup vs)
  | [], _, _, _, _, j, a, vs, h, _ => by cases h
  | _ :: _, [], _, h, _, _, _, _, _, _ => by cases h
  | a :: as, p :: kvs, H, h, hn, 0, b, vs, e1, e2 => by
    have hn' := List.nodup_cons.mp hn
    cases e1
    cases e2
    show putV (upd H a (.tup p)) as kvs a = some (.tup p)
    rw [putV_off as kvs _ hn'.1, upd_same]
  | a :: as, p :: kvs, H, h, hn, j + 1, b, vs, e1, e2 => putV_at as kvs (upd H a (.tup p)) (Nat.succ.inj h) (List.nodup_cons.mp hn).2 j b vs e1 e2
section
variable {X : Cx}
theorem outs_laid {pins : List (Addr × Obj)} {σ : L2.St} {H : Hp} {s : Shared} {h' : Heap} {tk : Nat} {vss : List (List V)} {acc : Array Value} {c : Nat} {as : List Addr} {S : Addr} {P : Nat → Array Value → Prop} (I : Inv X pins σ H s) (hz : vss.length ≤ sizeLine) (hv : ∀ j vals, P j vals → ∃ vs, vss[j]? = some vs ∧ vs.length ≤ sizeLine ∧ Vals vs vals.toList)
    (hk : ∀ b o, s.heap.get? b = some o → h'.get? b = some o) (hSs : s.heap.objs.size ≤ S) (hS : h'.get? S = some { cls := .type "list", dict := none, data := .seq acc c, slots := #[] }) (hl : as.length = vss.length) (hG : OutG P S h' as) (hacc : acc.toList = as.map Value.ref) :
    ∃ H' : Hp, (∀ b o, H b = some o → H' b = some o) ∧ H S = none ∧ (∀ t ∈ as, H t = none) ∧ S ∉ as ∧ H' S = some (.lst (as.map V.ref)) ∧ (∀ (j : Nat) (a : Addr) (vs : List V), as[j]? = some a → vss[j]? = some vs → H' a = some (.tup vs)) ∧ Inv X pins σ H' { s with heap := h', toks := tk } := by
  have hSn : S ∉ as := fun z => Nat.lt_irrefl _ (hG.above _ z)
  have nd : as.Nodup := List.Pairwise.imp (fun {a b} (h : a < b) => Nat.ne_of_lt h) hG.rise
  have abv : ∀ t ∈ as, s.heap.objs.size ≤ t := fun t ht => Nat.le_of_lt (Nat.lt_of_le_of_lt hSs (hG.above t ht))
  have new : ∀ t ∈ as, H t = none := fun t ht => I.hok.fresh (abv t ht)
  have newS : H S = none := I.hok.fresh hSs
  have atP := putV_at as vss (upd H S (.lst (as.map V.ref))) hl nd
  have off : ∀ b, b ∉ as → b ≠ S → putV (upd H S (.lst (as.map V.ref))) as vss b = H b := fun b h1 h2 => by rw [putV_off as vss _ h1, upd_ne h2]
  have low : ∀ b o, s.heap.get? b = some o → b ∉ as ∧ b ≠ S := fun b o e => ⟨fun z => absurd (Heap.lt_size e) (Nat.not_lt.mpr (abv b z)), fun z => absurd (Heap.lt_size e) (Nat.not_lt.mpr (z ▸ hSs))⟩
  have kp : ∀ b u, H b = some u → (putV (upd H S (.lst (as.map V.ref))) as vss) b = some u := fun b u e => by
    rw [off b (fun z => by rw [new b z] at e; cases e) (fun z => by rw [z, newS] at e; cases e)]
    exact e
  have eS : putV (upd H S (.lst (as.map V.ref))) as vss S = some (.lst (as.map V.ref)) := by rw [putV_off as vss _ hSn, upd_same]
  refine ⟨putV (upd H S (.lst (as.map V.ref))) as vss, kp, newS, new, hSn, eS, atP, ?_⟩
  refine I.call' (ch := []) rfl ⟨fun b o q _ _ _ => hk b o q, fun b o q _ _ _ => ⟨o.slots, hk b o q⟩, fun b o q n _ => ?_, fun b o q _ => ⟨o, hk b o q⟩, fun b xs q => kp b _ q, fun b o u q => kp b _ q, fun b ps q => ⟨#[], by rw [kp b _ q]; simp⟩⟩ (fun b u q => ?_) I.bare fun b z => by simp at z
  · obtain ⟨z1, z2⟩ := low b o q
    rw [off b z1 z2]
    exact n
  · by_cases hb : b ∈ as
    · obtain ⟨j, hj⟩ := List.mem_iff_getElem?.mp hb
      obtain ⟨vals, f1, f2⟩ := hG.tups j b hj
      obtain ⟨vs, g1, g2, g3⟩ := hv j vals f1
      rw [atP j b vs hj g1] at q
      cases q
      exact ⟨g2, vals.toList, g3, ⟨_, f2, rfl, 0, by rw [Array.toArray_toList]⟩⟩
    · by_cases hb2 : b = S
      · rw [hb2] at q ⊢
        rw [eS] at q
        cases q
        refine ⟨by rw [List.length_map]; omega, acc.toList, c, by rw [hacc]; exact LiI.vals_refs as, ?_⟩
        rw [Array.toArray_toList]
        exact hS
      · rw [off b hb hb2] at q
        exact (I.hok b u q).stay (fun d v _ y => hk d v y) (fun d y => kp d _ y) fun d xs y => kp d _ y
/-- a new list of new tuples -/
def NewTs (H : Hp) (vss : List (List V)) (Q : VK) : Prop := ∀ (H' : Hp) (p : Addr) (ts : List Addr), (∀ b o, H b = some o → H' b = some o) → H p = none → (∀ t ∈ ts, H t = none) → p ∉ ts → ts.length = vss.length → H' p = some (.lst (ts.map V.ref)) →
  (∀ (j : Nat) (a : Addr) (vs : List V), ts[j]? = some a → vss[j]? = some vs → H' a = some (.tup vs)) → Q (.ref p) H'
/-- .. frozen -/
theorem newTs_ok {W : Wo} {p : Addr} {F H : Hp} {u : PuS} {vss : List (List V)} {dss : List (List D)} {Q : VK} (g : Gd p u F H) (hl : vss.length = dss.length) (hr : ∀ (j : Nat) (vs : List V) (ds : List D), vss[j]? = some vs → dss[j]? = some ds → Reps W p F vs ds)
    (h : After p F H (some (D.lst (dss.map D.tup), u)) fun d _ F' H' => ∀ v, Rep W p F' v d → Q v H') : NewTs H vss Q := by
  intro H' q ts hk hq hts hqn htl hH hT
  have hF : ∀ b o, F b = some o → b ≠ q ∧ b ∉ ts := fun b o e => by
    have e' := g.ex _ _ e
    refine ⟨fun z => ?_, fun z => ?_⟩
    · rw [z, hq] at e'; cases e'
    · rw [hts b z] at e'; cases e'
  have hp : p ≠ q ∧ p ∉ ts := ⟨fun z => g.ne (z ▸ hq), fun z => g.ne (hts p z)⟩
  let F' : Hp := fun b => if b = q ∨ b ∈ ts then H' b else F b
  have f1 : ∀ b, b = q ∨ b ∈ ts → F' b = H' b := fun b hb => if_pos hb
  have f2 : ∀ b, ¬ (b = q ∨ b ∈ ts) → F' b = F b := fun b hb => if_neg hb
  have sm : Same F F' := fun b o e => by
    obtain ⟨z1, z2⟩ := hF b o e
    rw [f2 b (fun z => z.elim z1 z2)]; exact e
  have nt : ∀ a ps, F' a ≠ some (.tbl ps) := fun a ps z => by
    by_cases za : a = q ∨ a ∈ ts
    · rw [f1 a za] at z
      rcases za with rfl | za
      · rw [hH] at z; cases z
      · obtain ⟨j, hj⟩ := List.getElem?_of_mem za
        have hi : j < vss.length := by rw [← htl]; exact (List.getElem?_eq_some_iff.mp hj).1
        rw [hT j a _ hj (List.getElem?_eq_getElem hi)] at z; cases z
    · rw [f2 a za] at z; exact g.nt a ps z
  refine h F' H' ⟨sm, fun a o _ e _ => hk a o e, fun a ps _ e => ⟨ps, hk a _ e⟩, fun a o e => ?_⟩ ⟨fun a o e => ?_, ?_, fun l e => ?_, nt, g.tb.ext hk, g.hp⟩ (.ref q) (Rep.mkL (vs := ts.map V.ref) (by rw [f1 q (.inl rfl)]; exact hH) ⟨by simp [htl, hl], fun i v d e1 e2 => ?_⟩)
  · by_cases z : a = q ∨ a ∈ ts
    · rcases z with z | z
      · rw [z]; exact .inr hq
      · exact .inr (hts a z)
    · rw [f2 a z] at e; exact .inl e
  · by_cases z : a = q ∨ a ∈ ts
    · rw [f1 a z] at e; exact e
    · rw [f2 a z] at e; exact hk a o (g.ex a o e)
  · exact hk p _ g.pu
  · rw [f2 p (fun z => z.elim hp.1 hp.2)]; exact g.off l e
  · rw [List.getElem?_map] at e1 e2
    cases e3 : ts[i]? with
    | none => rw [e3] at e1; cases e1
    | some t =>
      rw [e3] at e1
      cases e1
      cases e4 : dss[i]? with
      | none => rw [e4] at e2; cases e2
      | some ds =>
        rw [e4] at e2
        cases e2
        have hi : i < vss.length := by rw [hl]; exact (List.getElem?_eq_some_iff.mp e4).1
        have e5 : vss[i]? = some vss[i] := List.getElem?_eq_getElem hi
        have e6 := hT i t _ e3 e5
        exact Rep.mkT (by rw [f1 t (.inr (List.mem_of_getElem? e3))]; exact e6) ((hr i _ ds e5 e4).mono sm)
end
end Mi

set_option Elab.async false
set_option linter.all false
set_option maxRecDepth 100000
set_option maxHeartbeats 4000000
/-! MiT: reversed, range downwards, sorted ints, f-strings. -/
namespace Mi
open PySem PySem.Spec PyProof.Rows L2
variable [TB : Tabl]
/-! ### reversed(list) -/
/-! ### range(a, b, -1) -/
/-! ### sorted ints -/
def srtI (b : Bool) (ns : List Int) : List Int := ns.mergeSort fun x y => if b = true then decide (y ≤ x) else decide (x ≤ y)
theorem srtI_perm (b : Bool) (ns : List Int) : (srtI b ns).Perm ns := List.mergeSort_perm _ _
theorem srtI_ord (b : Bool) (ns : List Int) : OrdB b (srtI b ns) := by
  have h := List.pairwise_mergeSort (le := fun x y : Int => if b = true then decide (y ≤ x) else decide (x ≤ y)) (by
    intro x y z h1 h2
    cases b with
    | true =>
      have h1 := of_decide_eq_true h1
      have h2 := of_decide_eq_true h2
      exact decide_eq_true (by omega)
    | false =>
      have h1 := of_decide_eq_true h1
      have h2 := of_decide_eq_true h2
      exact decide_eq_true (by omega)) (by
    intro x y
    cases b with
    | true =>
      show (decide (y ≤ x) || decide (x ≤ y)) = true
      by_cases z : y ≤ x
      · simp [z]
      · have : x ≤ y := by omega
        simp [this]
    | false =>
      show (decide (x ≤ y) || decide (y ≤ x)) = true
      by_cases z : y ≤ x
      · simp [z]
      · have : x ≤ y := by omega
        simp [this]) ns
  unfold OrdB srtI
  cases b with
  | true => exact h.imp fun {x y} z => of_decide_eq_true z
  | false => exact h.imp fun {x y} z => of_decide_eq_true z
theorem ordB_uniq {b : Bool} {xs ys : List Int} (h1 : OrdB b xs) (h2 : OrdB b ys) (p : xs.Perm ys) : xs = ys := by
  unfold OrdB at h1 h2
  cases b with
  | true => exact List.Perm.eq_of_pairwise (le := fun x y : Int => x ≥ y) (fun x y _ _ z1 z2 => by omega) h1 h2 p
  | false => exact List.Perm.eq_of_pairwise (le := fun x y : Int => x ≤ y) (fun x y _ _ z1 z2 => by omega) h1 h2 p
theorem bb_sorted : bootBuiltins "sorted" = some (.builtin "sorted") := by decide +kernel
/-! ### f-strings -/
def fmtD : D → Option D
  | .str y => if y.length ≤ 100000 then some (.str y) else none
  | .int i => if i.natAbs.log2 < 1920 then some (.str (toString i)) else none
  | _ => none
def mFmt (m : ME) : ME := fun ρ => M.bind (m ρ) fun d => lft (fmtD d)
theorem dFmt {X : Cx} {c : Cf} {e : Expr} {m : ME} {pos : Pos} (he : DE X c e m) : DE X c (.FormattedValue e (-1) none pos) (mFmt m) :=
  (pe_fmt he).imp fun σ H Q ⟨F, u, ρ, S, h⟩ => ⟨F, u, ρ, S, (After.split h).imp fun d u1 F1 H1 _ s1 g1 h1 v rv => by
    obtain ⟨z, e1, h2⟩ := lft_some h1
    unfold fmtD at e1
    cases d with
    | str y =>
      simp only [] at e1
      split at e1
      · rename_i hl
        cases e1
        exact .inl ⟨y, rv.str_, sz5 hl, After.now g1 h2 _ (.str y)⟩
      · cases e1
    | int i =>
      simp only [] at e1
      split at e1
      · rename_i hl
        cases e1
        exact .inr ⟨i, rv.int_, hl, After.now g1 h2 _ (.str _)⟩
      · cases e1
    | _ => cases e1⟩
def mJs : List ME → Str → Env → M Str
  | [], acc, _ => M.pure acc
  | m :: ms, acc, ρ => M.bind (m ρ) fun d => match d with
    | .str y => if (acc ++ y).length ≤ 100000 then mJs ms (acc ++ y) ρ else lft none
    | _ => lft none
def mFs (ms : List ME) : ME := fun ρ => M.bind (mJs ms Str.empty ρ) fun s => M.pure (.str s)
inductive DJ (X : Cx) (c : Cf) : List Expr → List ME → Prop
  | nil : DJ X c [] []
  | cons {e : Expr} {m : ME} {es : List Expr} {ms : List ME} (h : DE X c e m) (r : DJ X c es ms) : DJ X c (e :: es) (m :: ms)
theorem DJ.pj {X : Cx} {c : Cf} {es : List Expr} {ms : List ME} (h : DJ X c es ms) : PJ X es (ms.map (rdE c)) := by
  induction h with
  | nil => exact .nil
  | cons h r ih => exact .cons h ih
theorem rdJs {c : Cf} : ∀ (ms : List ME) (acc : Str) (σ : L2.St) (H : Hp) (Q : Str → Hp → Prop) (F : Hp) (u : PuS) (ρ : Env), Sta c u F H σ ρ → After c.p F H (mJs ms acc ρ u) (fun s _ _ H' => Q s H') → tJs (ms.map (rdE c)) acc σ H Q
  | [], acc, σ, H, Q, F, u, ρ, S, h => After.now S.gd h
  | m :: ms, acc, σ, H, Q, F, u, ρ, S, h => ⟨F, u, ρ, S, (After.split h).imp fun d u1 F1 H1 _ s1 g1 h1 v rv => by
      cases d with
      | str y =>
        have h2 : After c.p F1 H1 ((if (acc ++ y).length ≤ 100000 then mJs ms (acc ++ y) ρ else lft none) u1) (fun s _ _ H' => Q s H') := h1
        by_cases hl : (acc ++ y).length ≤ 100000
        · rw [if_pos hl] at h2
          exact ⟨y, rv.str_, sz5 hl, rdJs ms (acc ++ y) σ H1 Q F1 u1 ρ (S.step s1 g1) h2⟩
        · rw [if_neg hl] at h2; exact False.elim h2
      | _ => exact False.elim h1⟩
theorem dFs {X : Cx} {c : Cf} {v1 v2 : Expr} {rest : List Expr} {ms : List ME} {pos : Pos} (h : DJ X c (v1 :: v2 :: rest) ms) : DE X c (.JoinedStr (v1 :: v2 :: rest) pos) (mFs ms) :=
  (pe_joined h.pj).imp fun σ H Q ⟨F, u, ρ, S, h⟩ => rdJs ms _ σ H _ F u ρ S ((After.split h).imp fun s u1 F1 H1 _ s1 g1 h1 => After.now g1 h1 _ (.str s))
@[simp] theorem ok_Fmt {ρ : Env} {u : PuS} {m : ME} {P : D → PuS → Prop} : Ok (mFmt m ρ) u P ↔ Ok (m ρ) u fun d u1 => ∃ z, fmtD d = some z ∧ P z u1 := by unfold mFmt; simp only [ok_bind, ok_lft]
@[simp] theorem ok_Fs {ρ : Env} {u : PuS} {ms : List ME} {P : D → PuS → Prop} : Ok (mFs ms ρ) u P ↔ Ok (mJs ms Str.empty ρ) u fun s u1 => P (.str s) u1 := by unfold mFs; simp only [ok_bind, ok_pure]
@[simp] theorem ok_Js0 {ρ : Env} {u : PuS} {acc : Str} {P : Str → PuS → Prop} : Ok (mJs [] acc ρ) u P ↔ P acc u := ok_pure
@[simp] theorem ok_Js {ρ : Env} {u : PuS} {acc : Str} {m : ME} {ms : List ME} {P : Str → PuS → Prop} : Ok (mJs (m :: ms) acc ρ) u P ↔ Ok (m ρ) u fun d u1 => ∃ y, d = .str y ∧ (acc ++ y).length ≤ 100000 ∧ Ok (mJs ms (acc ++ y) ρ) u1 P := by
  show Ok (M.bind _ _) u P ↔ _
  rw [ok_bind]
  constructor
  · refine fun h => h.mono fun d u1 z => ?_
    cases d with
    | str y =>
      by_cases hl : (acc ++ y).length ≤ 100000
      · simp only [hl, if_true] at z; exact ⟨y, rfl, hl, z⟩
      · simp only [hl, if_false] at z; exact (ok_none.mp z).elim
    | _ => exact (ok_none.mp z).elim
  · refine fun h => h.mono fun d u1 z => ?_
    obtain ⟨y, rfl, hl, z⟩ := z
    simp only [hl, if_true]; exact z
end Mi

set_option Elab.async false
set_option linter.all false
set_option maxRecDepth 100000
set_option maxHeartbeats 4000000
namespace Mi
open PySem L2
variable [TB : Tabl]
/-- one statement; what follows and what is wanted are hidden -/
theorem seq_go {m n : MS} {ρ : Env} {u : PuS} {P : Fl → PuS → Prop} (h : ∀ (K : Env → PuS → Prop) (R : Fl → PuS → Prop), (∀ ρ1 u1, Ok (n ρ1) u1 P → K ρ1 u1) → (∀ f u1, P f u1 → R f u1) → Ok (m ρ) u fun f u1 => match f with
    | .nx ρ1 => K ρ1 u1
    | f' => R f' u1) : Ok (mSeq m n ρ) u P := ok_seq.mpr ((h (fun ρ1 u1 => Ok (n ρ1) u1 P) P (fun _ _ => id) (fun _ _ => id)).mono fun f u1 z => by
  cases f with
  | nx ρ1 => exact z
  | _ => exact z)
/-- a statement; what is wanted is hidden -/
theorem st_go {m : MS} {ρ : Env} {u : PuS} {P : Fl → PuS → Prop} (h : ∀ (R : Fl → PuS → Prop), (∀ f u1, P f u1 → R f u1) → Ok (m ρ) u R) : Ok (m ρ) u P := h P fun _ _ => id
end Mi

set_option Elab.async false
set_option linter.all false
set_option maxRecDepth 100000
set_option maxHeartbeats 4000000
/-! MiV: a, b, c, d = .., fresh lists among them. -/
namespace Mi
open PySem PySem.Spec PyProof.Rows L2
variable [TB : Tabl]
section
variable {X : Cx} {c : Cf} {pos : Pos} {ms : MM}
end
@[simp] theorem s_setAll4 {k l m n : Nat} {s t r q : Sd} {ρ : Env} : setAll [k, l, m, n] [s, t, r, q] ρ = (((ρ.set k s).set l t).set m r).set n q := rfl
@[simp] theorem s_setAll5 {k l m n o : Nat} {s t r q p : Sd} {ρ : Env} : setAll [k, l, m, n, o] [s, t, r, q, p] ρ = ((((ρ.set k s).set l t).set m r).set n q).set o p := rfl
end Mi


set_option Elab.async false
set_option linter.all false
set_option maxRecDepth 100000
set_option maxHeartbeats 4000000
/-! MiY: == of equal tuples that hold objects with an own ==. -/
namespace Mi
open PySem PySem.Spec PyProof.Rows L2
variable [TB : Tabl]
theorem Gd.ext {p : Addr} {u : PuS} {F H H' : Hp} (g : Gd p u F H) (e : L2.Ext H H') : Gd p u F H' := ⟨fun a o h => e a o (g.ex a o h), e _ _ g.pu, g.off, g.nt, g.tb.ext e, g.hp⟩
section
variable {X : Cx} {W : Wo} {k : Nat} {f C : Addr} {fd : FuncData} {ps : List Str} {mf : List D → M D} {b : D → Bool}
end
end Mi

set_option Elab.async false
set_option linter.all false
set_option maxRecDepth 100000
set_option maxHeartbeats 4000000
/-! MiZ: list(zip(xs, ys)) of two lists as a rule. -/
namespace PySem
open PySem PySem.Spec PySem.Calls PyProof.Rows
section
variable {prog : Program} {w : World} {A : Around}
def ZpSt (z TI TO i1 i2 l1 l2 lo : Addr) (xs ys : Array Value) (i : Nat) (h : Heap) : Prop :=
  IsPair h TI (.ref i1) (.ref i2) ∧ h.IsListIter i1 l1 i ∧ h.IsListIter i2 l2 i ∧ h.IsList l1 xs ∧ h.IsList l2 ys ∧
    ((IsZip h z TI TO .none ∧ ∃ a b, IsPair h TO a b) ∨ ∃ T f oT, IsZipHeld h z TI TO T f ∧ h.get? T = some oT ∧ lo < T)
theorem outs_zip {z TI TO i1 i2 l1 l2 lo : Addr} {xs ys : Array Value} (D : ZipApart z TI TO i1 i2 l1 l2) (hA : A.handled = none) (dz : z < lo) (dTI : TI < lo) (dTO : TO < lo) (di1 : i1 < lo) (di2 : i2 < lo) (dl1 : l1 < lo) (dl2 : l2 < lo) :
    Outs prog w A z [] [z, TO, i1, i2] lo (min xs.size ys.size) (fun i vals => ∃ x y, xs[i]? = some x ∧ ys[i]? = some y ∧ vals = #[x, y]) (ZpSt z TI TO i1 i2 l1 l2 lo xs ys) where
  sub := fun b hb => by
    have : b = z ∨ b = TO ∨ b = i1 ∨ b = i2 := by simpa using hb
    rcases this with rfl | rfl | rfl | rfl <;> assumption
  frame := fun i h₁ h₂ st hk => by
    obtain ⟨hTI, h1, h2, hl1, hl2, hz⟩ := st
    refine ⟨hk _ (Nat.ne_of_lt dTI) _ hTI, h1.at fun o e => hk _ (Nat.ne_of_lt di1) o e, h2.at fun o e => hk _ (Nat.ne_of_lt di2) o e, hl1.at fun o e => hk _ (Nat.ne_of_lt dl1) o e, hl2.at fun o e => hk _ (Nat.ne_of_lt dl2) o e, ?_⟩
    rcases hz with ⟨hz, a, b, hTO⟩ | ⟨T, f, oT, hz, hT, r⟩
    · exact .inl ⟨hk _ (Nat.ne_of_lt dz) _ hz, a, b, hk _ (Nat.ne_of_lt dTO) _ hTO⟩
    · exact .inr ⟨T, f, oT, hk _ (Nat.ne_of_lt dz) _ hz, hk _ (Nat.ne_of_gt r) _ hT, r⟩
  item := fun i s₁ Q₁ E₁ hi st hds hQ => by
    obtain ⟨hTI, h1, h2, hl1, hl2, hz⟩ := st
    have hix : i < xs.size := Nat.lt_of_lt_of_le hi (Nat.min_le_left ..)
    have hiy : i < ys.size := Nat.lt_of_lt_of_le hi (Nat.min_le_right ..)
    have ex := Array.getElem?_eq_getElem hix
    have ey := Array.getElem?_eq_getElem hiy
    rcases hz with ⟨hz, a, b, hTO⟩ | ⟨T, f, oT, hz, hT, r⟩
    · refine wpAny_pyNext_zip_item D hz hTI hTO h1 h2 hl1 hl2 ex ey fun h' a1 a2 a3 a4 a5 a6 hk => ?_
      exact hQ _ h' s₁.toks ⟨_, _, ex, ey, rfl⟩ a5 a6
        ⟨hk _ _ D.TIz D.TITO D.TIi1 D.TIi2 hTI, a3, a4, hl1.at fun o e => hk _ o D.l1z D.l1TO D.l1i1 D.l1i2 e, hl2.at fun o e => hk _ o D.l2z D.l2TO D.l2i1 D.l2i2 e,
          .inr ⟨s₁.heap.objs.size, false, _, a1, a5, hds⟩⟩
        fun c o hc e => hk c o (fun x => hc (by simp [x])) (fun x => hc (by simp [x])) (fun x => hc (by simp [x])) (fun x => hc (by simp [x])) e
    · refine wpAny_pyNext_zip_item_held D hz hT hTI h1 h2 hl1 hl2 ex ey fun h' a1 a3 a4 a5 a6 hk => ?_
      exact hQ _ h' s₁.toks ⟨_, _, ex, ey, rfl⟩ a5 a6
        ⟨hk _ _ D.TIz D.TIi1 D.TIi2 hTI, a3, a4, hl1.at fun o e => hk _ o D.l1z D.l1i1 D.l1i2 e, hl2.at fun o e => hk _ o D.l2z D.l2i1 D.l2i2 e,
          .inr ⟨T, true, oT, a1, hk _ _ (Nat.ne_of_gt (Nat.lt_trans dz r)) (Nat.ne_of_gt (Nat.lt_trans di1 r)) (Nat.ne_of_gt (Nat.lt_trans di2 r)) hT, r⟩⟩
        fun c o hc e => hk c o (fun x => hc (by simp [x])) (fun x => hc (by simp [x])) (fun x => hc (by simp [x])) e
  done := fun s₁ Q₁ E₁ st hQ => by
    obtain ⟨hTI, h1, h2, hl1, hl2, hz⟩ := st
    have hend : xs[min xs.size ys.size]? = none ∨ ys[min xs.size ys.size]? = none := by
      rcases Nat.le_total xs.size ys.size with h | h
      · exact .inl (Array.getElem?_eq_none (by rw [Nat.min_eq_left h]; exact Nat.le_refl _))
      · exact .inr (Array.getElem?_eq_none (by rw [Nat.min_eq_right h]; exact Nat.le_refl _))
    rcases hz with ⟨hz, a, b, hTO⟩ | ⟨T, f, oT, hz, hT, r⟩
    · exact wpAny_pyNext_zip_end hA D hz hTI hTO h1 h2 hl1 hl2 hend fun h' hk => hQ h' s₁.toks fun c o hc e => hk c o (fun x => hc (by simp [x])) (fun x => hc (by simp [x])) (fun x => hc (by simp [x])) (fun x => hc (by simp [x])) e
    · exact wpAny_pyNext_zip_end_held hA D hz hT hTI h1 h2 hl1 hl2 hend fun h' hk => hQ h' s₁.toks fun c o hc e => hk c o (fun x => hc (by simp [x])) (fun x => hc (by simp [x])) (fun x => hc (by simp [x])) e
theorem nolen_zip : NoLen "zip" := ⟨by rw [typeLookup_type, builtinLookup_eq_fast]; kernel_rfl, by rw [typeLookup_type, builtinLookup_eq_fast]; kernel_rfl, by decide, by decide⟩
end
end PySem
namespace Mi
open PySem PySem.Spec PyProof.Rows L2
variable [TB : Tabl]
def zpV (xs ys : List V) : List (List V) := List.zipWith (fun x y => [x, y]) xs ys
theorem zpV_len (xs ys : List V) : (zpV xs ys).length = min xs.length ys.length := by simp [zpV]
theorem zpV_at {xs ys : List V} {i : Nat} {x y : V} (h : xs[i]? = some x) (h2 : ys[i]? = some y) : (zpV xs ys)[i]? = some [x, y] := by
  unfold zpV
  rw [List.getElem?_zipWith, h, h2]
section
variable {X : Cx}
def tLstZip (K : PySem.W.Frag) (ta : TA) : TE := fun σ H Q => ta σ H fun vs H1 => ∃ a b xs ys, vs = [.ref a, .ref b] ∧ SqL K H1 a xs ∧ SqL K H1 b ys ∧ NewTs H1 (zpV xs ys) Q
theorem pe_listZip {e e2 : Expr} {ta : TA} {p p2 pos pos2 : Pos} (hc : X.calm = true) (hg : Gl X "list") (hm : X.mg "list" = none) (hg2 : Gl X "zip") (hm2 : X.mg "zip" = none) (ha : PA X [e, e2] ta)
    (hs : starEach [e, e2] X.env = (false, eval e X.env) :: starEach [e2] X.env := by rfl) (hpl : (backTo pos2 (starEach [e2] X.env)).any (·.1) = false := by rfl)
    (hs2 : starEach [.Call (.Name "zip" p2) [e, e2] [] pos2] X.env = (false, eval (.Call (.Name "zip" p2) [e, e2] [] pos2) X.env) :: starEach [] X.env := by rfl) :
    PE X (.Call (.Name "list" p) [.Call (.Name "zip" p2) [e, e2] [] pos2] [] pos) (tLstZip X.K ta) := by
  refine ⟨fun pins s σ H Q I h => ?_⟩
  refine Call_ (ld_blt I hg hm boot_list (PyProof.Rows.callWith_type1 (args_cons (Call_ (ld_blt I hg2 hm2 PyProof.Rows.boot_zip (PyProof.Rows.callWith_type1 (thn (ha.run pos2 pins s σ H _ I h) fun us s1 ⟨vs, H1, I1, r1, q1⟩ => ?_) hs hpl))) hs2) hs2 rfl))
  obtain ⟨a, b, xs, ys, ex, hqx, hqy, q⟩ := q1
  subst ex
  cases r1 with
  | cons r rr =>
    cases rr with
    | cons r' rr =>
      cases rr
      cases r
      cases r'
      obtain ⟨its, rv, p1, hz1⟩ := I1.list hqx
      obtain ⟨its2, rv2, p2', hz2⟩ := I1.list hqy
      have la : a < s1.heap.objs.size := p1.lt
      have lb : b < s1.heap.objs.size := p2'.lt
      refine call_zip_2 p1.isList p2'.isList fun h' hz hTI hTO h1 h2 hsz hk => args_nil ?_
      have D := PySem.W.ktu_apart s1.heap.objs.size a b la lb
      have O : ∀ (A : Around), A.handled = none → Outs X.prog X.w A (s1.heap.objs.size + 4) [] [s1.heap.objs.size + 4, s1.heap.objs.size + 3, s1.heap.objs.size, s1.heap.objs.size + 1] h'.objs.size (min its.toArray.size its2.toArray.size) _ (ZpSt (s1.heap.objs.size + 4) (s1.heap.objs.size + 2) (s1.heap.objs.size + 3) s1.heap.objs.size (s1.heap.objs.size + 1) a b h'.objs.size its.toArray its2.toArray) := fun A hA => by
        have la' : @LT.lt Nat _ a s1.heap.objs.size := la
        have lb' : @LT.lt Nat _ b s1.heap.objs.size := lb
        refine outs_zip D hA ?_ ?_ ?_ ?_ ?_ ?_ ?_ <;> (rw [hsz]; show @LT.lt Nat _ _ _; omega)
      have mn : min its.toArray.size its2.toArray.size = (zpV xs ys).length := by rw [zpV_len, List.size_toArray, List.size_toArray, rv.length, rv2.length]
      refine outs_call (s := { s1 with heap := h' }) nolen_zip (O _ (I1.ok.hd hc)) ⟨_, hz, rfl⟩
        (fun A s' Q E st hQ => ?_) ⟨hTI, h1, h2, p1.isList.at fun o e => hk _ o e, p2'.isList.at fun o e => hk _ o e, .inl ⟨hz, _, _, hTO⟩⟩ (by rw [mn, zpV_len]; omega) fun h2 tk acc c as hk2 hS hl hG hacc => ?_
      · rcases st.2.2.2.2.2 with ⟨hz, _⟩ | ⟨T, f, oT, hz, hT, r⟩
        · exact wpAny_pyIter_zip hz hQ
        · have hT : s'.TypeIs (.ref (s1.heap.objs.size + 4)) "zip" := ⟨_, hz, rfl⟩
          refine wpAny_pyIter_slot hT F.slot_zip_iter (wpAny_call_entry F.slot_zip_iter hT F.entry_zip_iter ?_ (F.args_zip_iter_1 _))
          show wpAny _ _ (ret (.ref (s1.heap.objs.size + 4))) _ _ s'
          exact wpAny_pure ⟨_, rfl, "zip", _, hT, F.slot_zip_next.lookup, hQ⟩
      · have hkk : ∀ b o, s1.heap.get? b = some o → h2.get? b = some o := fun b o e => hk2 b o (fun z => by
          have hb : @LT.lt Nat _ b s1.heap.objs.size := Heap.lt_size e
          have : b = s1.heap.objs.size + 4 ∨ b = s1.heap.objs.size + 3 ∨ b = s1.heap.objs.size ∨ b = s1.heap.objs.size + 1 := by simpa using z
          rcases this with z | z | z | z
          · rw [z] at hb; exact absurd (show @LT.lt Nat _ (s1.heap.objs.size + 4) s1.heap.objs.size from hb) (by omega)
          · rw [z] at hb; exact absurd (show @LT.lt Nat _ (s1.heap.objs.size + 3) s1.heap.objs.size from hb) (by omega)
          · rw [z] at hb; exact absurd hb (Nat.lt_irrefl _)
          · rw [z] at hb; exact absurd (show @LT.lt Nat _ (s1.heap.objs.size + 1) s1.heap.objs.size from hb) (by omega)) (hk b o e)
        have hle : s1.heap.objs.size ≤ h'.objs.size := by rw [hsz]; exact Nat.le_add_right _ _
        obtain ⟨H', k1, k2, k3, k4, k5, k6, J⟩ := outs_laid (tk := tk) (vss := zpV xs ys) I1 (by rw [zpV_len]; omega) (fun j vals hP => by
          obtain ⟨x, y, e1, e2, rfl⟩ := hP
          have hj : its[j]? = some x := by simpa using e1
          have hj2 : its2[j]? = some y := by simpa using e2
          obtain ⟨v, ev, rvv⟩ : ∃ v, xs[j]? = some v ∧ RelV v x := by
            rcases vals_get rv j with ⟨v, u, e1, e2, r⟩ | ⟨e1, e2⟩
            · rw [hj] at e2; cases e2; exact ⟨v, e1, r⟩
            · rw [hj] at e2; cases e2
          obtain ⟨v2, ev2, rvv2⟩ : ∃ v, ys[j]? = some v ∧ RelV v y := by
            rcases vals_get rv2 j with ⟨v, u, e1, e2, r⟩ | ⟨e1, e2⟩
            · rw [hj2] at e2; cases e2; exact ⟨v, e1, r⟩
            · rw [hj2] at e2; cases e2
          exact ⟨_, zpV_at ev ev2, by show 2 ≤ sizeLine; decide, .cons rvv (.cons rvv2 .nil)⟩) hkk hle hS (by rw [hl, mn]) hG hacc
        exact ⟨.ref _, H', J, rfl, q H' _ as k1 k2 k3 k4 (by rw [hl, mn]) k5 k6⟩
/-- list(zip(xs, ys)) -/
def zpL : List D → Option D := fun ds => match ds with
  | [.lst xs, .lst ys] => some (.lst (zipD xs ys))
  | _ => none
theorem dLstZip {c : Cf} {e e2 : Expr} {ms : MA} {p p2 pos pos2 : Pos} (hc : X.calm = true) (hg : Gl X "list") (hm : X.mg "list" = none) (hg2 : Gl X "zip") (hm2 : X.mg "zip" = none) (ha : DA X c [e, e2] ms)
    (hs : starEach [e, e2] X.env = (false, eval e X.env) :: starEach [e2] X.env := by rfl) (hpl : (backTo pos2 (starEach [e2] X.env)).any (·.1) = false := by rfl)
    (hs2 : starEach [.Call (.Name "zip" p2) [e, e2] [] pos2] X.env = (false, eval (.Call (.Name "zip" p2) [e, e2] [] pos2) X.env) :: starEach [] X.env := by rfl) (hK : X.K = c.W.K := by rfl) :
    DE X c (.Call (.Name "list" p) [.Call (.Name "zip" p2) [e, e2] [] pos2] [] pos) (mCB zpL ms) :=
  (pe_listZip hc hg hm hg2 hm2 ha hs hpl hs2).imp fun σ H Q ⟨F, u, ρ, S, h⟩ => ⟨F, u, ρ, S, (After.split h).imp fun xs u1 F1 H1 _ s1 g1 h1 vs rvs => by
    obtain ⟨d, e1, h2⟩ := lft_some h1
    unfold zpL at e1
    split at e1
    · rename_i xs ys _h
      cases e1
      obtain ⟨v, vr, rfl, r1, r2⟩ := rvs.uncons
      obtain ⟨w, wr, rfl, r3, r4⟩ := r2.uncons
      rw [r4.none]
      obtain ⟨p1, v1, rfl, f1, q1⟩ := r1.lst_
      obtain ⟨p2, v2, rfl, f2, q2⟩ := r3.lst_
      refine ⟨p1, p2, v1, v2, rfl, by rw [hK]; exact SqL.of (g1.ex _ _ f1), by rw [hK]; exact SqL.of (g1.ex _ _ f2), ?_⟩
      have ed2 : D.lst (zipD xs ys) = .lst ((List.zipWith (fun x y => [x, y]) xs ys).map D.tup) := by
        congr 1
        apply List.ext_getElem?
        intro i
        rw [List.getElem?_map, List.getElem?_zipWith]
        cases hz : (zipD xs ys)[i]? with
        | none =>
          have h1 := List.getElem?_eq_none_iff.mp hz
          rw [zipD_len] at h1
          rcases Nat.le_total xs.length ys.length with h | h
          · rw [List.getElem?_eq_none (l := xs) (by omega)]
            rfl
          · rw [List.getElem?_eq_none (l := ys) (by omega)]
            cases xs[i]? <;> rfl
        | some d =>
          obtain ⟨x', y', e1, e2, rfl⟩ := zipD_at hz
          rw [e1, e2]
          rfl
      rw [ed2] at h2
      refine newTs_ok g1 (by simp [zpV_len, q1.1, q2.1]) (fun j vs ds' e3 e4 => ?_) h2
      rw [List.getElem?_zipWith] at e4
      cases e5 : xs[j]? with
      | none => rw [e5] at e4; cases e4
      | some x =>
        cases e6 : ys[j]? with
        | none => rw [e5, e6] at e4; cases e4
        | some y =>
          rw [e5, e6] at e4
          cases e4
          obtain ⟨a, ea, ra⟩ := Reps.get q1 e5
          obtain ⟨b, eb, rb⟩ := Reps.get q2 e6
          rw [zpV_at ea eb] at e3
          cases e3
          exact Reps.cons ra (Reps.cons rb Reps.nil)
    · cases e1⟩
end
end Mi

set_option Elab.async false
set_option linter.all false
set_option maxRecDepth 100000
set_option maxHeartbeats 4000000
/-! MiP: facts about own methods. -/
namespace Mi
open PySem PySem.Spec PyProof.Rows L2 He
variable [TB : Tabl]
/-! ### facts -/
structure OwnM (K : PySem.W.Frag) (C f : Addr) (n : Str) : Prop where
  has : PySem.W.findIn K (.ref C) n = some (some (.ref f))
  fn : PySem.W.isFn K (.ref f) = true
theorem own_ok {K : PySem.W.Frag} {c n : Str} (h : (Ft.raw (ownB c n)).ok K = true) : OwnM K (ga K c) ((Pl.meth c n).ad K) n := by
  obtain ⟨h1, h2⟩ := ba h
  exact ⟨eqO_ok h1, h2⟩
theorem ownS_ok {K : PySem.W.Frag} {c n : Str} (h : (Ft.raw (ownSB c n)).ok K = true) : OwnM K (ga K c) ((Pl.meth c n).ad K) n ∧ PySem.W.selfFirst K (ga K c) = true := by
  obtain ⟨h1, h2⟩ := ba h
  exact ⟨own_ok h1, h2⟩
/-! checks of own == and other own operators, of truth -/
end Mi

set_option Elab.async false
set_option linter.all false
set_option maxRecDepth 100000
set_option maxHeartbeats 4000000
/-! MiO: in, [..] and the binary operators by own methods. -/
namespace Mi
open PySem PySem.Spec PyProof.Rows L2 He
variable [TB : Tabl]
/-! ### in -/
/-- the right operand is an instance of the class at C, then its own in -/
def rIn (C : Addr) (g : Bool → Bool) (sp : Sp) : R2 := fun x y H Q => ∃ b dy gs, y = .ref b ∧ H b = some (.ins C dy gs) ∧ sp [.ref b, x] H (fun v H' => ∃ c, v = .bl c ∧ Q (.bl (g c)) H') E0
/-- the left operand is an instance of the class at C, the right one what p says -/
def rBinO (C : Addr) (p : V → Hp → Prop) (sp : Sp) : R2 := fun x y H Q => ∃ a dx fs, x = .ref a ∧ H a = some (.ins C dx fs) ∧ p y H ∧ sp [.ref a, y] H Q E0
def isIns (C : Addr) (y : V) (H : Hp) : Prop := ∃ b dy gs, y = .ref b ∧ H b = some (.ins C dy gs)
section
variable {X : Cx} {k : Nat} {f C : Addr} {fd : FuncData} {ps : List Str} {sp : Sp}
theorem op_inOwn (G : FnOk X.prog X.w X.K X.mg X.base CX0 k f fd ps sp) (hr : Room k X.A) (hb : Binds X.K fd ps []) (hc : OwnM X.K C f "__contains__") : OpR X (compareOp .In) (rIn C id sp) := by
  intro pins s σ H x y v u Q I rx ry h
  obtain ⟨b, dy, gs, rfl, hb', q⟩ := h
  cases ry
  obtain ⟨mB, J', _⟩ := ins_get I.hok hb'
  obtain ⟨od', J', _⟩ := J'.look
  obtain ⟨m, hF⟩ := I.fr
  refine PySem.W.in_K hF I.ok.mod.kin J' hc.has hc.fn ?_
  refine wpAny_mono (call_at (vs := [.ref b, x]) G hr rfl hb I (.cons rfl (.cons rx .nil)) q) (fun v s' z => ?_) fun _ _ z => z
  obtain ⟨w, H', I', rw, c, ew, qq⟩ := z
  subst ew
  cases rw
  exact wpAny_truthy_bool ⟨.bl c, H', I', rfl, qq⟩
theorem ep_back {pins : List (Addr × Obj)} {σ : L2.St} {Q : VK} {v : Value} {s' : Shared} (h : EP X pins σ Q v s') : PySem.W.CmpBack (EP X pins σ Q) v s' := by
  obtain ⟨w, H', I', rw, q⟩ := id h
  cases v <;> first | exact h | (cases w <;> (first | exact nomatch rw | (obtain ⟨_, z⟩ := rw; exact nomatch z)))
theorem op_binO {op : Operator} {n : Str} (hn : PySem.dunder op.info.2 = n) (G : FnOk X.prog X.w X.K X.mg X.base CX0 k f fd ps sp) (hr : Room k X.A) (hb : Binds X.K fd ps []) (hc : OwnM X.K C f n) (h1 : PySem.W.selfFirst X.K C = true) : OpR X (binaryOp op) (rBinO C (isIns C) sp) := by
  intro pins s σ H x y v u Q I rx ry h
  obtain ⟨a, dx, fs, rfl, ha, ⟨b, dy, gs, rfl, hb'⟩, q⟩ := h
  cases rx
  cases ry
  obtain ⟨mA, J, _⟩ := ins_get I.hok ha
  obtain ⟨mB, J', _⟩ := ins_get I.hok hb'
  obtain ⟨od, J, _⟩ := J.look
  obtain ⟨od', J', _⟩ := J'.look
  obtain ⟨m, hF⟩ := I.fr
  refine PySem.W.binop_K hF I.ok.mod.kin J J'.type h1 (by rw [hn]; exact hc.has) hc.fn ?_
  exact wpAny_mono (call_at (vs := [.ref a, .ref b]) G hr rfl hb I (.cons rfl (.cons rfl .nil)) q) (fun v s' z => ep_back z) fun _ _ z => z
end
/-! ### mirrors -/
def mInO (k : Str) (g : Bool → Bool) (mf : List D → M D) (ma mb : ME) : ME := fun ρ => M.bind (ma ρ) fun x => M.bind (mb ρ) fun y => match y with
  | .obj c ks ds => if c = k then M.bind (mf [.obj c ks ds, x]) fun r => match r with
    | .bl b => M.pure (.bl (g b))
    | _ => lft none
    else lft none
  | _ => lft none
def mBinOO (k : Str) (mf : List D → M D) (ma mb : ME) : ME := fun ρ => M.bind (ma ρ) fun x => M.bind (mb ρ) fun y => match x, y with
  | .obj c ks ds, .obj c' ks' ds' => if c = k ∧ c' = k then mf [.obj c ks ds, .obj c' ks' ds'] else lft none
  | _, _ => lft none
section
variable {X : Cx} {c : Cf} {k : Nat} {f : Addr} {fd : FuncData} {ps : List Str} {mf : List D → M D} {ck : Str} {a b : Expr} {ma mb : ME} {pos : Pos}
theorem rdInO {g : Bool → Bool} : ∀ σ H Q, rdE c (mInO ck g mf ma mb) σ H Q → tOp (rIn (c.W.cl ck) g (spM c.W 2 mf)) (rdE c ma) (rdE c mb) σ H Q := by
  rintro σ H Q ⟨F, u, ρ, S, h⟩
  exact ⟨F, u, ρ, S, (After.split h).imp fun x u1 F1 H1 _ s1 g1 h1 v rv => ⟨F1, u1, ρ, S.step s1 g1, (After.split h1).imp fun y u2 F2 H2 _ s2 g2 h2 w rw => by
      have rv := rv.mono s2.ef
      split at h2
      · split at h2
        · rename_i hh
          subst hh
          obtain ⟨p2, dy, ws, rfl, h4, _⟩ := id rw.obj_
          refine ⟨p2, dy, _, rfl, g2.ex _ _ h4, rfl, c.p, F2, u2, [_, _], g2, Reps.cons rw (Reps.cons rv Reps.nil), (After.split h2).imp fun d u3 F3 H3 _ s3 g3 h5 z rz => ?_⟩
          split at h5
          · rename_i bb _h
            have h6 : After c.p F3 H3 (some (D.bl (g bb), u3)) (fun d _ F' H' => ∀ v, Rep c.W c.p F' v d → Q v H') := h5
            exact ⟨bb, rz.bl_, After.now g3 h6 _ (.bl (g bb))⟩
          · exact False.elim h5
        · exact False.elim h2
      · exact False.elim h2⟩⟩
theorem dInO (G : FnOk X.prog X.w X.K X.mg X.base CX0 k f fd ps (spM c.W 2 mf)) (hr : Room k X.A) (hb : Binds X.K fd ps []) (hc : OwnM X.K (c.W.cl ck) f "__contains__") (ha : DE X c a ma) (hb' : DE X c b mb) (hk : behindInMarks .In b = false) : DE X c (.Compare a [.In] [b] pos) (mInO ck id mf ma mb) :=
  (pe_cmpR (op_inOwn G hr hb hc) ha hb' hk).imp rdInO
theorem dBinOO {op : Operator} {n : Str} (hn : PySem.dunder op.info.2 = n) (G : FnOk X.prog X.w X.K X.mg X.base CX0 k f fd ps (spM c.W 2 mf)) (hr : Room k X.A) (hb : Binds X.K fd ps []) (hc : OwnM X.K (c.W.cl ck) f n ∧ PySem.W.selfFirst X.K (c.W.cl ck) = true) (ha : DE X c a ma) (hb' : DE X c b mb) : DE X c (.BinOp a op b pos) (mBinOO ck mf ma mb) :=
  (pe_op (op_binO hn G hr hb hc.1 hc.2) ha hb').imp fun σ H Q ⟨F, u, ρ, S, h⟩ =>
    ⟨F, u, ρ, S, (After.split h).imp fun x u1 F1 H1 _ s1 g1 h1 v rv => ⟨F1, u1, ρ, S.step s1 g1, (After.split h1).imp fun y u2 F2 H2 _ s2 g2 h2 w rw => by
      have rv := rv.mono s2.ef
      split at h2
      · split at h2
        · rename_i hh
          obtain ⟨rfl, e2⟩ := hh
          subst e2
          obtain ⟨p1, dx, vs, rfl, h3, _⟩ := id rv.obj_
          obtain ⟨p2, dy, ws, rfl, h4, _⟩ := id rw.obj_
          exact ⟨p1, dx, _, rfl, g2.ex _ _ h3, ⟨p2, dy, _, rfl, g2.ex _ _ h4⟩, rfl, c.p, F2, u2, [_, _], g2, Reps.cons rv (Reps.cons rw Reps.nil), h2⟩
        · exact False.elim h2
      · exact False.elim h2⟩⟩
end
/-! ### wp -/
section
variable {ρ : Env} {u : PuS} {P : D → PuS → Prop} {k : Str} {mf : List D → M D} {ma mb : ME}
@[simp] theorem ok_inO {g : Bool → Bool} : Ok (mInO k g mf ma mb ρ) u P ↔ Ok (ma ρ) u fun x u1 => Ok (mb ρ) u1 fun y u2 => ∃ ks ds, y = .obj k ks ds ∧ Ok (mf [y, x]) u2 fun r u3 => OnB r fun b => P (.bl (g b)) u3 := by
  unfold mInO; simp only [ok_bind]
  constructor
  · refine fun h => h.mono fun x u' z => z.mono fun y u2 z1 => ?_
    split at z1
    · simp only [ok_ite] at z1
      split at z1
      · rename_i hh
        subst hh
        refine ⟨_, _, rfl, (ok_bind.mp z1).mono fun r u3 z2 => ?_⟩
        split at z2
        · exact ⟨_, rfl, ok_pure.mp z2⟩
        · exact (ok_none.mp z2).elim
      · exact (ok_none.mp z1).elim
    · exact (ok_none.mp z1).elim
  · refine fun h => h.mono fun x u' z => z.mono fun y u2 z => ?_
    obtain ⟨ks, ds, rfl, z⟩ := z
    simp only [ok_ite]
    rw [if_pos (by first | rfl | trivial), ok_bind]
    refine z.mono fun r u3 z => ?_
    obtain ⟨b, rfl, z⟩ := z
    exact ok_pure.mpr z
@[simp] theorem ok_binOO : Ok (mBinOO k mf ma mb ρ) u P ↔ Ok (ma ρ) u fun x u1 => Ok (mb ρ) u1 fun y u2 => ∃ ks ds ks' ds', x = .obj k ks ds ∧ y = .obj k ks' ds' ∧ Ok (mf [x, y]) u2 P := by
  unfold mBinOO; simp only [ok_bind]
  constructor
  · refine fun h => h.mono fun x u' z => z.mono fun y u2 z1 => ?_
    split at z1
    · simp only [ok_ite] at z1
      split at z1
      · rename_i hh
        obtain ⟨rfl, hh2⟩ := hh
        subst hh2
        exact ⟨_, _, _, _, rfl, rfl, z1⟩
      · exact (ok_none.mp z1).elim
    · exact (ok_none.mp z1).elim
  · refine fun h => h.mono fun x u' z => z.mono fun y u2 z => ?_
    obtain ⟨ks, ds, ks', ds', rfl, rfl, z⟩ := z
    simp only [ok_ite]
    rw [if_pos (by first | exact ⟨rfl, rfl⟩ | exact ⟨trivial, trivial⟩)]
    exact z
end
end Mi

set_option Elab.async false
set_option linter.all false
set_option maxRecDepth 100000
set_option maxHeartbeats 4000000
/-! MiN: a = b = value; sorted(tuple of ints, reverse=b). -/
namespace SrtR
open PySem PyProof.Rows Srt SrtO
section
variable {prog : Program} {w : World} {A : Around} {E : Value → Shared → Prop} {s : Shared}
theorem collect_tuple {l : Addr} {vs : List Value} {Q : List Value → Shared → Prop} (hl : s.heap.IsTuple l vs.toArray)
    (h : Q vs { s with heap := (s.heap.push (seqObj "list" #[] 0)).update s.heap.objs.size (Obj.mapSeq (· ++ vs.toArray)) }) (hsz : vs.length ≤ sizeLine := by size_fits) :
    wpAny (model prog w) A (collect (.ref l)) Q E s := by
  obtain ⟨o, ho, hc, n, hd⟩ := id hl
  unfold collect
  refine wpAny_bind (wpAny_runValue (codeAny_builtin entry_proto_collect' ?_))
  show wpAny _ _ (do again (.builtin "list.__iadd__" ⟨[← newList [], .ref l], []⟩)) _ _ s
  refine wpAny_bind (wpAny_newList (wpAny_pure ⟨Code.quiet_builtin _ (by decide +kernel), codeAny_builtin entry_list_iadd' ?_⟩))
  show wpAny _ _ (Builtin.List.listExtendWith (.ref s.heap.objs.size) (.ref l) (.ref s.heap.objs.size)) _ _ { s with heap := s.heap.push (seqObj "list" #[] 0) }
  unfold Builtin.List.listExtendWith
  have ho' : (s.heap.push (seqObj "list" #[] 0)).get? l = some o := Heap.get?_push_of_some _ ho
  refine wpAny_bind (wpAny_typeOf (T := "tuple") ⟨o, ho', hc⟩ ?_)
  have ht : (Value.type "tuple" == Value.type "tuple") = true := by rfl
  rw [if_pos (by rw [ht]; simp)]
  refine wpAny_bind (listItems_at ho' hd ?_)
  refine wpAny_bind (listItems_at (xs := #[]) (n := 0) (Heap.get?_push_size _ rfl) rfl ?_)
  rw [if_neg (by simp)]
  refine wpAny_bind (listUpdate_at (xs := #[]) (n := 0) (Heap.get?_push_size _ rfl) rfl ?_ (Nat.zero_le _) (by show (#[] ++ vs.toArray).size ≤ sizeLine + 1; simp only [Array.size_append, List.size_toArray, List.length_nil]; omega))
  refine wpAny_pure ?_
  show wpAny (model prog w) A (do
      let o ← load s.heap.objs.size
      match o.data with
      | .seq xs _ => pure xs.toList
      | _ => unsupported "internal:collect") Q E { s with heap := (s.heap.push (seqObj "list" #[] 0)).update s.heap.objs.size (Obj.mapSeq (· ++ vs.toArray)) }
  refine wpAny_bind (wpAny_load (get?_update_seq (Heap.get?_push_size _ rfl) _) ?_)
  show wpAny _ _ (pure ((#[] : Array Value) ++ vs.toArray).toList) Q E _
  rw [show ((#[] : Array Value) ++ vs.toArray).toList = vs by simp]
  exact wpAny_pure h
theorem sorted_ordKT {l : Addr} {vs : List Value} {b : Bool} {kw : List (Str × Value)} {ltv : Value → Value → Bool} {Q : Value → Shared → Prop} (hk : ∀ a, Builtin.«list.sort» ⟨[.ref a], kw⟩ = Builtin.«list.sort» ⟨[.ref a], [(Str.ofString "reverse", .bool b)]⟩)
    (ha1 : argsOk "sorted" ⟨[.ref l], kw⟩) (ha2 : ∀ a, argsOk "list.sort" ⟨[a], kw⟩) (O : Swo ltv) (hl : s.heap.IsTuple l vs.toArray) (hz : vs.length ≤ sizeLine)
    (hS : 2 ≤ vs.length → ∀ (h₁ : Heap) (a : Addr), h₁.get? a = some (seqObj "list" vs.toArray 0) → (∀ b o, s.heap.get? b = some o → b ≠ a ∧ h₁.get? b = some o) → SortableO prog w A.in1.in1 { s with heap := h₁ } a vs ltv)
    (h : ∀ out : List Value, Srtd ltv out → Stb ltv out (if b = true then vs.reverse else vs) → Q (.ref (s.heap.objs.size + 1)) { s with heap := sortedAll s.heap vs (if b = true then out.toArray.reverse else out.toArray) }) :
    wpAny (model prog w) A (call (.builtin "sorted") [.ref l] kw) Q E s := by
  refine call_function_entry_kw kind_sorted plain_sorted entry_sorted ha1 ?_
  unfold Builtin.«sorted»
  refine wpAny_bind (m := checkCount "sorted" 1 1 _) (wpAny_pure ?_)
  refine wpAny_bind (collect_tuple hl ?_ hz)
  refine wpAny_bind (wpAny_newList ?_ hz)
  have hsz : ((s.heap.push (seqObj "list" #[] 0)).update s.heap.objs.size (Obj.mapSeq (· ++ vs.toArray))).objs.size = s.heap.objs.size + 1 := by
    rw [Heap.size_update, size_push']
  have hoL : (((s.heap.push (seqObj "list" #[] 0)).update s.heap.objs.size (Obj.mapSeq (· ++ vs.toArray))).push (seqObj "list" vs.toArray 0)).get? (s.heap.objs.size + 1) = some (seqObj "list" vs.toArray 0) := by
    rw [← hsz]; exact Heap.get?_push_size _ rfl
  have keep : ∀ b o, s.heap.get? b = some o → b ≠ s.heap.objs.size + 1 ∧ (((s.heap.push (seqObj "list" #[] 0)).update s.heap.objs.size (Obj.mapSeq (· ++ vs.toArray))).push (seqObj "list" vs.toArray 0)).get? b = some o := fun b o q => by
    have hlt : b < s.heap.objs.size := Heap.lt_size q
    refine ⟨Nat.ne_of_lt (Nat.lt_succ_of_lt hlt), Heap.get?_push_of_some _ ?_⟩
    rw [Heap.get?_update_ne _ _ _ _ (Nat.ne_of_lt hlt)]
    exact Heap.get?_push_of_some _ q
  show wpAny _ _ _ _ _ { s with heap := ((s.heap.push (seqObj "list" #[] 0)).update s.heap.objs.size (Obj.mapSeq (· ++ vs.toArray))).push (seqObj "list" vs.toArray 0) }
  rw [hsz]
  refine wpAny_bind (wpAny_holding (wpAny_call_entry_kw slot_list_sort ⟨_, hoL, rfl⟩ entry_list_sort ?_ (ha2 _)))
  rw [hk]
  refine list_sort_ordR O hoL hz (fun h2 => hS h2 _ _ hoL keep) fun out hs hb => ⟨_, rfl, ?_⟩
  exact wpAny_pure ⟨_, rfl, h out hs hb⟩
end
end SrtR
namespace L2
open PySem PySem.Spec PyProof.Rows
section
variable {X : Cx}
def rSortedKwT (K : PySem.W.Frag) (b : Bool) (zs0 : List V) : List V → List V → Hp → VK → Prop := fun vs zs H Q => ∃ (a : Addr) (ns : List Int), vs = [V.ref a] ∧ zs = zs0 ∧ SqT K H a (ns.map V.int) ∧
  ∀ (ns' : List Int) (p : Addr), ns'.Perm ns → OrdB b ns' → H p = none → Q (.ref p) (upd H p (.lst (ns'.map V.int)))
theorem sorted_runT {b : Bool} {kw : List (Str × Value)} {pins : List (Addr × Obj)} {s : Shared} {σ : L2.St} {H : Hp} {a : Addr} {ns : List Int} {Q : VK} (I : Inv X pins σ H s) (hs : SqT X.K H a (ns.map V.int))
    (hk : ∀ a, Builtin.«list.sort» ⟨[.ref a], kw⟩ = Builtin.«list.sort» ⟨[.ref a], [(Str.ofString "reverse", .bool b)]⟩) (ha1 : argsOk "sorted" ⟨[.ref a], kw⟩) (ha2 : ∀ a, argsOk "list.sort" ⟨[a], kw⟩)
    (q : ∀ (ns' : List Int) (p : Addr), ns'.Perm ns → OrdB b ns' → H p = none → Q (.ref p) (upd H p (.lst (ns'.map V.int)))) : wpAny (model X.prog X.w) X.A (call (.builtin "sorted") [.ref a] kw) (EP X pins σ Q) X.xe s := by
  obtain ⟨its, rv, hl, hz⟩ := I.tuple hs
  have hi := rv.ints
  refine SrtR.sorted_ordKT hk ha1 ha2 SrtO.swo_int hl (by rw [← rv.length]; exact hz) (fun h2 h₁ a' _ _ => SrtO.ints_sortable hi h2) fun out h1 h2 => ?_
  obtain ⟨ns', k1, k2, k3⟩ := SrtR.ints_outR hi h1 h2
  obtain ⟨ep, he'⟩ := PyProof.Rows.sortedAll_at s.heap its (if b = true then out.toArray.reverse else out.toArray)
  have hlen : (ns'.map V.int).length ≤ sizeLine := by
    rw [List.length_map, k2.length_eq]
    rw [List.length_map] at hz
    exact hz
  have e0 : ((if b = true then out.toArray.reverse else out.toArray).toList).toArray = (if b = true then out.toArray.reverse else out.toArray) := by rw [Array.toArray_toList]
  exact ⟨.ref _, upd H (s.heap.objs.size + 1) (.lst (ns'.map V.int)), I.laid (t' := s.toks) (fun _ _ => PyProof.Rows.sortedAll_old) (Nat.le_succ _) ⟨hlen, _, ep, vals_of_ints k1, by rw [e0]; exact he'⟩, rfl, q _ _ k2 k3 (I.hok.fresh (Nat.le_succ _))⟩
theorem cr_sortedRevT {b : Bool} : CallRK X (.builtin "sorted") [Str.ofString "reverse"] (rSortedKwT X.K b [.bl b]) := by
  intro pins s σ H vs zs us ws Q I r rz h
  obtain ⟨a, ns, rfl, rfl, hs, q⟩ := h
  obtain rfl := Vals.ref1 r
  obtain ⟨w1, rfl, e1⟩ := vals1 rz
  obtain rfl : w1 = Value.bool b := e1
  exact sorted_runT I hs (fun _ => rfl) (PyProof.Rows.args_sorted_rev _ _) (fun _ => PyProof.Rows.args_list_sort_rev _ _) q
theorem ps_asg2 {t1 t2 e : Expr} {te : TE} {g1 g2 : TG} {pos : Pos} (he : PE X e te) (hg1 : PG X t1 g1) (hg2 : PG X t2 g2) (hs : swapsWithSole [t1, t2] e pos.line X.env = pure false := by rfl) (hw : swappedStores [t1, t2] e X.env = pure none := by rfl)
    (h1 : (assignEach [t1, t2] X.env).map (·.2) = [assign t1 X.env, assign t2 X.env] := by rfl) : PS X (.Assign [t1, t2] e pos) (tAsg te fun v σ H Q => g1 v σ H fun σ' H' => g2 v σ' H' Q) := by
  refine ⟨fun pins s σ H D I h => ?_⟩
  refine wpAny_Assign_stores (thn (he.run pins s σ H _ I h) fun v s1 ⟨x, H1, I1, r1, q1⟩ => ?_) hs hw
  rw [h1]
  show wpAny _ _ (holding [v] (assign t1 X.env v) >>= fun _ => assign t2 X.env v) _ _ _
  refine wpAny_bind (wpAny_holding (thn (hg1.run pins s1 σ H1 x v _ I1 r1 q1) fun _ s2 ⟨σ2, H2, I2, q2⟩ => ?_))
  exact thn (hg2.run pins s2 σ2 H2 x v _ I2 r1 q2) fun _ s3 q => q
end
end L2
namespace Mi
open PySem PySem.Spec PyProof.Rows L2
variable [TB : Tabl]
def mAsg2 (m : ME) (g1 g2 : MG) : MS := fun ρ => M.bind (m ρ) fun d => lft (((g1 d ρ).bind fun ρ1 => g2 d ρ1).map Fl.nx)
theorem dAsg2 {X : Cx} {c : Cf} {pos : Pos} {e : Expr} {g1 g2 : MG} {is js : List Nat} {t1 t2 : Expr} {me : ME} (he : DE X c e me) (hg1 : DG X c t1 is g1) (hg2 : DG X c t2 js g2) (hs : swapsWithSole [t1, t2] e pos.line X.env = pure false := by rfl) (hw : swappedStores [t1, t2] e X.env = pure none := by rfl)
    (h1 : (assignEach [t1, t2] X.env).map (·.2) = [assign t1 X.env, assign t2 X.env] := by rfl) : DS X c (.Assign [t1, t2] e pos) (mAsg2 me g1 g2) :=
  (ps_asg2 he hg1 hg2 hs hw h1).imp fun Dn σ H ⟨F, u, ρ, S, h⟩ => ⟨F, u, ρ, S, (flowO.after S h).imp fun d u1 F1 H1 _ s1 gg h1 v rv => by
    refine ⟨F1, u1, ρ, d, h1.1, rv, ?_⟩
    have h2 := h1.2
    cases e1 : g1 d ρ with
    | none => rw [e1] at h2; exact h2
    | some ρ1 =>
      rw [e1] at h2
      refine fun σ' S' _ => ⟨F1, u1, ρ1, d, S', rv, ?_⟩
      cases e2 : g2 d ρ1 with
      | none =>
        have h3 : flowO c F1 Dn (lft (((some ρ1).bind fun ρ1 => g2 d ρ1).map Fl.nx) u1) := h2
        rw [Option.bind_some, e2] at h3
        exact h3
      | some ρ2 =>
        have h3 : flowO c F1 Dn (lft (((some ρ1).bind fun ρ1 => g2 d ρ1).map Fl.nx) u1) := h2
        rw [Option.bind_some, e2] at h3
        exact fun σ2 S2 _ => h3 σ2 F1 H1 (Same.refl _) S2⟩
@[simp] theorem ok_asg2 {m : ME} {g1 g2 : MG} {ρ : Env} {u : PuS} {PS : Fl → PuS → Prop} : Ok (mAsg2 m g1 g2 ρ) u PS ↔ Ok (m ρ) u fun d u1 => ∃ ρ1, ((g1 d ρ).bind fun ρ1 => g2 d ρ1) = some ρ1 ∧ PS (.nx ρ1) u1 := by
  unfold mAsg2
  simp only [ok_bind, ok_lft, Option.map_eq_some_iff]
  constructor
  · exact fun h => h.mono fun d u1 ⟨a, ⟨ρ1, h1, h2⟩, h3⟩ => ⟨ρ1, h1, by rw [h2]; exact h3⟩
  · exact fun h => h.mono fun d u1 ⟨ρ1, h1, h3⟩ => ⟨_, ⟨ρ1, h1, rfl⟩, h3⟩
/-! ### sorted -/
def srtT (b : Bool) : List D → Option (List D) := fun ds => match ds with
  | [.tup xs] => (intsD xs).map fun ns => (srtI b ns).map D.int
  | _ => none
theorem srtT_ok {W : Wo} {p : Addr} {F H H00 : Hp} {u : PuS} {vs : List V} {as es : List D} {b : Bool} {Q : VK} (g : Gd p u F H) (bk : ∀ q, H q = none → H00 q = none) (r : Reps W p F vs as) (e : srtT b as = some es)
    (h : After p F H (some (es, u)) fun ds _ F' H' => ∀ q vs, F' q = none → H00 q = none → H' q = some (.lst vs) → Reps W p F' vs ds → Q (.ref q) H') :
    ∃ (a : Addr) (ns : List Int), vs = [V.ref a] ∧ SqT W.K H a (ns.map V.int) ∧ ∀ (ns' : List Int) (q : Addr), ns'.Perm ns → OrdB b ns' → H q = none → Q (.ref q) (upd H q (.lst (ns'.map V.int))) := by
  unfold srtT at e
  split at e
  · rename_i xs
    cases e1 : intsD xs with
    | none => rw [e1] at e; cases e
    | some ns =>
      rw [e1] at e
      cases e
      obtain ⟨v, rfl, rv⟩ := r.one
      obtain ⟨a, ws, rfl, ha, rs⟩ := rv.tup_
      have ew := intsD_rep rs e1
      subst ew
      refine ⟨a, ns, rfl, sq_t g.ex ha, fun ns' q hp ho hq => ?_⟩
      have en : ns' = srtI b ns := ordB_uniq ho (srtI_ord b ns) (hp.trans (srtI_perm b ns).symm)
      subst en
      exact h _ _ (Stp.own hq) (g.own hq) q _ (g.fresh hq) (bk q hq) upd_same (reps_ints _)
  · cases e
theorem dSortRT {X : Cx} {c : Cf} {e : Expr} {ms : MA} {b : Bool} {p pos kpos cp : Pos} {kk : Nat} (hg : Gl X "sorted") (hm : X.mg "sorted" = none) (ha : DA X c [e] ms) (hK : X.K = c.W.K := by rfl)
    (he : backTo pos (starEach (e :: []) X.env) = (false, eval e X.env) :: backTo pos (starEach [] X.env) := by rfl) (hpl : (backTo pos (starEach (e :: []) X.env)).any (fun x => x.fst) = false := by rfl) : DL X c (.Call (.Name "sorted" p) [e] [⟨some "reverse", .Constant (.bool b) kk cp, kpos⟩] pos) (mCBO (srtT b) ms) :=
  (pe_callBK (ks := [Str.ofString "reverse"]) cr_sortedRevT hg hm bb_sorted ha (dKcons (c := c) (me := mC (.bl b)) dBl dKnil) (by decide) (by decide) he hpl).imp fun σ H Q ⟨F, u, ρ, S, h⟩ => ⟨F, u, ρ, S, (After.split h).imp fun xs u1 F1 H1 _ s1 g1 h1 vs rvs => by
    obtain ⟨es, e1, h2⟩ := lft_some h1
    refine ⟨F1, u1, ρ, S.step s1 g1, ?_⟩
    show After c.p F1 H1 (some ([D.bl b], u1)) _
    intro F2 H2 s2 g2 zs rz
    obtain ⟨z, rfl, rzz⟩ := rz.one
    obtain ⟨a, ns, e2, e3, e4⟩ := srtT_ok (H00 := H) g2 (fun q hq => s1.back g1.ne (s2.back g2.ne hq)) (rvs.mono s2.ef) e1 (fun F3 H3 s3 g3 => h2 F3 H3 (s2.trans g2.ne s3) g3)
    exact ⟨a, ns, e2, by rw [rzz.bl_], by rw [hK]; exact e3, fun ns' q hp ho hq => e4 ns' q hp ho hq⟩⟩
end Mi

set_option Elab.async false
set_option linter.all false
set_option maxRecDepth 100000
set_option maxHeartbeats 4000000
/-! MiJ: max(xs, default=d) of ints; [x] * n as a fresh list. -/
namespace L2
open PySem PySem.Spec PyProof.Rows
section
variable {X : Cx}
end
end L2
namespace Mi
open PySem PySem.Spec PyProof.Rows L2
variable [TB : Tabl]
theorem room65' {k : Nat} {A : Around} (r : Room k A) : A.units + 65 < cLine := by have := r.un; omega
/-! ### int of a bool -/
/-! ### [x] * n -/
end Mi

set_option Elab.async false
set_option linter.all false
set_option maxRecDepth 100000
set_option maxHeartbeats 4000000
/-! MiI: repr(..), str(..) by own methods, sep.join(list of texts). -/
namespace Mi
open PySem PySem.Spec PyProof.Rows L2 He
variable [TB : Tabl]
/-! ### str of an instance -/
theorem str_K {prog : Program} {w : World} {A : Around} {E : Value → Shared → Prop} {s : Shared} {K : PySem.W.Frag} {x C L f : Addr} {h₀ : Heap} {m : Str → Option Value} {ox : Obj} {od : Option Obj} {Q : Value → Shared → Prop} (hu : A.in1.in1.units < cLine) (F : Fr h₀ L s.heap m) (X₀ : K.In h₀) (I : PySem.W.InstAt s.heap x ox C od) (hs : PySem.W.findIn K (.ref C) "__str__" = some (some (.ref f))) (hf : PySem.W.isFn K (.ref f) = true)
    (h : wpAny (model prog w) A.in1.in1 (call (.ref f) [.ref x]) (PySem.W.StrBack Q) E s) : wpAny (model prog w) A (call (.type "str") [.ref x]) Q E s := by
  refine callType_codes (Q₁ := fun obj s₁ => s₁.TypeIs obj "str" ∧ Q obj s₁) PySem.F.called_str (PySem.F.typeCall_str_1 _) PySem.F.entry_object_init ?_ fun obj s₁ h₁ =>
    ⟨h₁.1, PySem.F.args_object_init_2 obj _, object_init_meets PySem.F.called_str.init.lookup PySem.F.called_str.made (by decide) prog w A.in1 _ s₁ ⟨h₁.1, rfl, h₁.2⟩⟩
  refine codeAny_call_builtin PySem.F.called_str.plain PySem.F.entry_str_new (wpAny_of_eq (PySem.F.newCall_str_1 _) ?_)
  rw [str_new_tree]
  refine wpAny_bind (wpAny_pure ?_)
  refine wpAny_bind (wpAny_of_eq isSubtype_str_str ?_)
  refine wpAny_bind ?_
  unfold Builtin.Str.strOf
  show wpAny _ _ (do
    cRoomFor "str" [.ref x]
    let some r ← callSpecial? (.ref x) "__str__" | unsupported "internal:no-__str__"
    if (← asStr? r).isNone then
      rule "str-of.not-a-str"; raiseError "TypeError" s!"__str__ returned non-string (type {← typeNameOf r})"
    pure r) _ _ _
  refine wpAny_bind (wpAny_cRoomFor hu ?_)
  refine wpAny_bind (m := callSpecial? (.ref x) (Str.ofString "__str__")) (PySem.W.special_fn (X₀.keeps F.keep) I hs (beq_iff_eq.mp hf) (wpAny_mono h (fun r s' hr => ?_) fun _ _ y => y))
  cases r <;> first | exact hr.elim | skip
  refine wpAny_bind (wpAny_pure ?_)
  refine wpAny_pure ?_
  refine wpAny_pure ?_
  exact ⟨typeIs_str _ _ _, hr⟩
/-! ### repr, str of what is an instance, None or a truth -/
def rTxt (C : Addr) (sp : Sp) : List V → Hp → VK → Prop := fun xs H Q => ∃ a dx fs, xs = [.ref a] ∧ H a = some (.ins C dx fs) ∧ sp [.ref a] H (fun v H' => ∃ n : Str, v = .str n ∧ Q (.str n) H') E0
section
variable {X : Cx} {c : Cf} {k : Nat} {f C : Addr} {fd : FuncData} {ps : List Str} {sp : Sp} {mf : List D → M D} {ck : Str} {a : Expr} {ma : ME} {pos : Pos}
theorem call_strOb (G : FnOk X.prog X.w X.K X.mg X.base CX0 k f fd ps sp) (hr : Room (k + 2) X.A) (hb : Binds X.K fd ps []) (hc : OwnM X.K C f "__str__") : CallR X (.type "str") (rTxt C sp) := by
  intro pins s σ H vs us Q I r h
  obtain ⟨a, dx, fs, rfl, ha, q⟩ := h
  obtain ⟨u1, rfl, ru⟩ := Vals.one r
  cases ru
  obtain ⟨mA, J, _⟩ := ins_get I.hok ha
  obtain ⟨od, J, _⟩ := J.look
  obtain ⟨m, hF⟩ := I.fr
  refine str_K hr.in1.in1.units0 hF I.ok.mod.kin J hc.has hc.fn ?_
  refine wpAny_mono (call_at (vs := [.ref a]) G hr.in1.in1 rfl hb I (.cons rfl .nil) q) (fun v s' z => ?_) fun _ _ z => z
  obtain ⟨w, H', I', rw, n, ew, qq⟩ := z
  subst ew
  obtain ⟨t, rfl⟩ := rw
  exact ⟨.str n, H', I', ⟨_, rfl⟩, qq⟩
def bTx (b : Bool) : Str := if b then "True" else "False"
def rRep (C : Addr) (sp : Sp) : List V → Hp → VK → Prop := fun xs H Q => rTxt C sp xs H Q ∨ (xs = [.non] ∧ Q (.str "None") H) ∨ ∃ b, xs = [.bl b] ∧ Q (.str (bTx b)) H
def mTxt (mf : List D → M D) (ds : List D) : M D := M.bind (mf ds) fun r => match r with
  | .str n => M.pure (.str n)
  | _ => lft none
/-- str of an instance of the class k -/
def mStrO (k : Str) (mf : List D → M D) (mo : ME) : ME := fun ρ => M.bind (mo ρ) fun d => match d with
  | .obj c ks ds => if c = k then mTxt mf [.obj c ks ds] else lft none
  | _ => lft none
theorem txt_go {c : Cf} {F1 H1 : Hp} {u1 : PuS} {p1 : Addr} {dx : Addr} {vs : List V} {ks : List Str} {ds : List D} {Q : VK} (g1 : Gd c.p u1 F1 H1) (h3 : F1 p1 = some (.ins (c.W.cl ck) dx (ks.zip vs))) (rv : Rep c.W c.p F1 (.ref p1) (.obj ck ks ds))
    (h1 : After c.p F1 H1 (mTxt mf [.obj ck ks ds] u1) (fun d _ F' H' => ∀ v, Rep c.W c.p F' v d → Q v H')) : rTxt (c.W.cl ck) (spM c.W 1 mf) [.ref p1] H1 Q := by
  refine ⟨p1, dx, _, rfl, g1.ex _ _ h3, rfl, c.p, F1, u1, [_], g1, Reps.cons rv Reps.nil, (After.split h1).imp fun d u3 F3 H3 _ s3 g3 h5 z rz => ?_⟩
  split at h5
  · rename_i n _h
    have h6 : After c.p F3 H3 (some (D.str n, u3)) (fun d _ F' H' => ∀ v, Rep c.W c.p F' v d → Q v H') := h5
    exact ⟨n, rz.str_, After.now g3 h6 _ (.str n)⟩
  · exact False.elim h5
theorem bb_repr : bootBuiltins "repr" = some (.builtin "repr") := by decide +kernel
theorem dStrO {p0 : Pos} (G : FnOk X.prog X.w X.K X.mg X.base CX0 k f fd ps (spM c.W 1 mf)) (hr : Room (k + 2) X.A) (hb : Binds X.K fd ps []) (hc : OwnM X.K (c.W.cl ck) f "__str__")
    (hg : Gl X "str") (hm : X.mg "str" = none) (ha : DE X c a ma) (he : starEach [a] X.env = (false, eval a X.env) :: starEach [] X.env := by rfl) : DE X c (.Call (.Name "str" p0) [a] [] pos) (mStrO ck mf ma) :=
  (pe_callTy (call_strOb G hr hb hc) hg hm bb_str (pa_cons ha pa_nil he) (by decide) (by decide) he rfl).imp fun σ H Q ⟨F, u, ρ, S, h⟩ =>
    ⟨F, u, ρ, S, (After.split h).imp fun x u1 F1 H1 _ s1 g1 h1 v rv => by
      cases x with
      | obj cc ks ds =>
        have h2 : After c.p F1 H1 ((if cc = ck then mTxt mf [.obj cc ks ds] else lft none) u1) (fun d _ F' H' => ∀ v, Rep c.W c.p F' v d → Q v H') := h1
        by_cases hh : cc = ck
        · subst hh
          rw [if_pos rfl] at h2
          obtain ⟨p1, dx, vs, rfl, h3, _⟩ := id rv.obj_
          exact txt_go g1 h3 rv h2
        · rw [if_neg hh] at h2; exact False.elim h2
      | _ => exact False.elim h1⟩
/-! ### join -/
def strsD : List D → Option (List Str)
  | [] => some []
  | .str i :: ds => (strsD ds).map (i :: ·)
  | _ => none
theorem strsD_rep {W : Wo} {p : Addr} {F : Hp} : ∀ {vs : List V} {ds : List D} {ns : List Str}, Reps W p F vs ds → strsD ds = some ns → vs = ns.map V.str
  | vs, [], ns, r, h => by
    cases h
    exact r.none
  | vs, d :: ds, ns, r, h => by
    obtain ⟨v, vr, rfl, r1, r2⟩ := r.uncons
    cases d with
    | str i =>
      have h' : (strsD ds).map (i :: ·) = some ns := h
      cases e : strsD ds with
      | none => rw [e] at h'; cases h'
      | some ms =>
        rw [e] at h'
        cases h'
        rw [r1.str_, strsD_rep r2 e]
        rfl
    | _ => cases h
theorem strsD_map (ns : List Str) : strsD (ns.map D.str) = some ns := by
  induction ns with
  | nil => rfl
  | cons n ns ih => show (strsD (ns.map D.str)).map (n :: ·) = _; rw [ih]; rfl
def joinD (a : Str) : D → Option D
  | .lst xs => (strsD xs).bind fun ys => if (ys.map (·.length)).sum + ys.length * a.length ≤ 100000 then some (.str (Txt.join a ys)) else none
  | _ => none
def mJoin (mo me : ME) : ME := fun ρ => M.bind (mo ρ) fun d => match d with
  | .str a => M.bind (me ρ) fun y => lft (joinD a y)
  | _ => lft none
theorem dJoin {o e : Expr} {mo me : ME} {apos : Pos} (ho : DE X c o mo) (he : DE X c e me) (hK : X.K = c.W.K := by rfl) (hs : starEach [e] X.env = [(false, eval e X.env)] := by rfl) (hbase : attributeBase o "join" X.env (eval o X.env) = eval o X.env := by rfl) (hline : (apos.endLine == pos.line) = true := by rfl) :
    DE X c (.Call (.Attribute o "join" apos) [e] [] pos) (mJoin mo me) :=
  (pe_join ho he hs hbase hline).imp fun σ H Q ⟨F, u, ρ, S, h⟩ => ⟨F, u, ρ, S, (After.split h).imp fun x u1 F1 H1 _ s1 g1 h1 v rv => by
    cases x with
    | str a =>
      have h2 : After c.p F1 H1 (M.bind (me ρ) (fun y => lft (joinD a y)) u1) (fun d _ F' H' => ∀ v, Rep c.W c.p F' v d → Q v H') := h1
      refine ⟨⟨a, rv.str_⟩, F1, u1, ρ, S.step s1 g1, (After.split h2).imp fun y u2 F2 H2 _ s2 g2 h3 w rw => ?_⟩
      obtain ⟨z, e1, h4⟩ := lft_some h3
      cases y with
      | lst xs =>
        have e2 : (strsD xs).bind (fun ys => if (ys.map (·.length)).sum + ys.length * a.length ≤ 100000 then some (D.str (Txt.join a ys)) else none) = some z := e1
        cases e3 : strsD xs with
        | none => rw [e3] at e2; cases e2
        | some ys =>
          rw [e3] at e2
          simp only [Option.bind_some] at e2
          split at e2
          · rename_i hl
            cases e2
            obtain ⟨q, ws, rfl, hq, rs⟩ := rw.lst_
            have ew := strsD_rep rs e3
            subst ew
            exact ⟨a, q, ys, rv.str_, rfl, .inl (by rw [hK]; exact SqL.of (g2.ex _ _ hq)), by omega, After.now g2 h4 _ (.str _)⟩
          · cases e2
      | _ => cases e1
    | _ => exact False.elim h1⟩
end
@[simp] theorem ok_txt {mf : List D → M D} {ds : List D} {u : PuS} {P : D → PuS → Prop} : Ok (mTxt mf ds) u P ↔ Ok (mf ds) u fun d u1 => ∃ n, d = .str n ∧ P (.str n) u1 := by
  unfold mTxt
  rw [ok_bind]
  constructor
  · refine fun h => h.mono fun d u1 z => ?_
    cases d with
    | str y => exact ⟨y, rfl, ok_pure.mp z⟩
    | _ => exact (ok_none.mp z).elim
  · refine fun h => h.mono fun d u1 z => ?_
    obtain ⟨n, rfl, z⟩ := z
    exact ok_pure.mpr z
theorem ok_strO {k : Str} {mf : List D → M D} {mo : ME} {ρ : Env} {u : PuS} {P : D → PuS → Prop} : Ok (mStrO k mf mo ρ) u P ↔ Ok (mo ρ) u fun d u1 => Ok ((match d with
  | .obj c ks ds => if c = k then mTxt mf [.obj c ks ds] else lft none
  | _ => lft none : M D)) u1 P := by
  unfold mStrO
  rw [ok_bind]
theorem ok_join {mo me : ME} {ρ : Env} {u : PuS} {P : D → PuS → Prop} : Ok (mJoin mo me ρ) u P ↔ Ok (mo ρ) u fun d u1 => ∃ a, d = .str a ∧ Ok (me ρ) u1 fun y u2 => ∃ z, joinD a y = some z ∧ P z u2 := by
  unfold mJoin
  rw [ok_bind]
  constructor
  · refine fun h => h.mono fun d u1 z => ?_
    cases d with
    | str y => exact ⟨y, rfl, by simpa using z⟩
    | _ => exact (ok_none.mp z).elim
  · refine fun h => h.mono fun d u1 z => ?_
    obtain ⟨n, rfl, z⟩ := z
    simpa using z
/-! ### == of texts -/
def neSD : D → D → Option D
  | .str a, .str b => some (.bl (!decide (a = b)))
  | _, _ => none
theorem m_neS {W : Wo} : OpM W rNe neSD := by
  intro p F H u x y a b Q gd rx ry h
  obtain ⟨d, e, _⟩ := lft_some h
  have e0 := e
  unfold neSD at e
  split at e
  · cases e
    rename_i a b _hh
    rw [rx.str_, ry.str_]
    refine ⟨rfl, ?_⟩
    have e1 : decide (V.str a = V.str b) = decide (a = b) := by rw [Bool.eq_iff_iff]; simp
    rw [e1]
    exact OpM.ret gd h e0 (.bl _)
  · cases e
@[simp] theorem s_neS' {a b : Str} : neSD (.str a) (.str b) = some (.bl (!decide (a = b))) := rfl
/-! ### recursion -/
theorem fo_none {P : Program} {w : World} {K : PySem.W.Frag} {mg : Str → Option Value} {base : Heap} {k n : Nat} {f : Addr} {fd : FuncData} {ps : List Str} {W : Wo} (h : n = ps.length) : FnOk P w K mg base CX0 k f fd ps (spM W n fun _ _ => none) :=
  ⟨fun vs H Q E x => by rw [← h]; exact x.1, fun A outer s H args us vs Q E _ _ _ _ x => by
    obtain ⟨_, p, F, u, ds, _, _, z⟩ := x
    exact False.elim z⟩
end Mi


set_option Elab.async false
set_option linter.all false
set_option maxRecDepth 100000
set_option maxHeartbeats 4000000
/-! MiGa: defs that run where no repr is under way; repr of lists and tuples of plain data. -/
namespace Mi
open PySem PySem.Spec PyProof.Rows L2 He
variable [TB : Tabl]
/-- what a def promises where no repr is under way -/
structure FnG (P : Program) (w : World) (K : PySem.W.Frag) (mg : Str → Option Value) (base : Heap) (k : Nat) (f : Addr) (fd : FuncData) (ps : List Str) (sp : Sp) : Prop where
  len : ∀ vs H Q E, sp vs H Q E → vs.length = ps.length
  run : ∀ (A : Around) (outer : List PySem.Env) (s : Shared) (H : Hp) (args : Args) (us : List Value) (vs : List V) (Q : VK) (E : XK), A.guards = some [] → Room k A → Env0 P w K mg base A outer s H → BindsTo s fd args (ps.zip us) → Vals vs us → sp vs H Q E →
    codeAny (model P w) A (.call (.ref f) args) (CR CX0 outer P w H s Q E) s
section
variable {P : Program} {w : World} {K : PySem.W.Frag} {mg : Str → Option Value} {base : Heap} {x qual : Str} {params : Arguments} {body : List Stmt} {scope : Scope} {dvs : List V} {kws : List (Str × V)} {f : Addr} {fd : FuncData} {W : Wo} {N ps : List Str} {k : Nat} {mb : MS}
theorem fn_mirG (F : FunD K x qual params body scope dvs kws f fd) (S : FnScope N ps scope)
    (hb : ∀ (cdv : Value) (A : Around) (outer : List PySem.Env) (s : Shared) (H : Hp) (E : XK) (p : Addr) (F0 : Hp), A.guards = some [] → Room k (A.deeper (envOfC qual scope s.heap.objs.size f cdv)) → DB (cxOf CX0 P w K mg base N qual scope f cdv A outer s H E).nox ⟨W, p, F0, H, 0, noX⟩ body mb) :
    FnG P w K mg base (k + 1) f fd ps (spM W ps.length (mFn N.length mb)) := by
  refine ⟨fun vs H Q E h => h.1, fun A outer s H args us vs Q E hg hr e0 hbd r hsp => ?_⟩
  obtain ⟨oc, od, dV, kV, doc, pm, an, cdv, ct, osl, rfl, lk, hcd, _, _⟩ := F.ex
  refine StX.run_bnd (G := fun xs H2 => xs = vs ∧ H2 = H) lk hcd S hr e0 (fun A' Ex Q' h => hbd _ _ _ _ (h s H vs us e0 Un.refl rfl (fun _ _ z => z) r hsp.1 ⟨rfl, rfl⟩)) fun s2 H2 xs ⟨ex, eH⟩ hr' => ?_
  subst ex eH
  obtain ⟨hl, p, F0, u, ds, g, r, h⟩ := hsp
  refine ⟨_, PSs.nox (hb cdv A outer s2 _ E p F0 hg hr'), F0, u, startE N.length ds, ⟨Stp.refl, g, env_start r⟩, ?_⟩
  unfold mFn at h
  cases e : mb (startE N.length ds) u with
  | none => rw [e] at h; exact h
  | some y =>
    obtain ⟨fl, u1⟩ := y
    rw [e] at h
    cases fl with
    | rt d =>
      intro v F' H' s' g' rv
      have h2 : After p F0 _ (some (d, u1)) (fun d _ F' H' => ∀ v, Rep W p F' v d → Q v H') := h
      exact h2 F' H' s' g' v rv
    | rl ds' => exact False.elim h
    | nx ρ' =>
      intro σ' F' H' _ S'
      have h2 : After p F0 _ (some (D.non, u1)) (fun d _ F' H' => ∀ v, Rep W p F' v d → Q v H') := h
      exact h2 F' H' S'.ent S'.gd .non .non
    | bk ρ' => exact False.elim h
    | ct ρ' => exact False.elim h
    | ex ρ' k' ks' ds' => exact False.elim h
end
section
variable {X : Cx} {k : Nat} {f : Addr} {fd : FuncData} {ps : List Str} {sp : Sp} {dvs : List V} {ds : List Value} {E : XK} {x : Str} {p pos : Pos} {e : Expr} {es : List Expr} {t : TA}
theorem pe_callG (F : FnG X.prog X.w X.K X.mg X.base k f fd ps sp) (hgd : X.A.guards = some []) (hr : Room k X.A) (hg : Gl X x) (hm : X.mg x = some (.ref f)) (hk : PySem.W.keepIn X.K (.ref f) = true) (hb : Binds X.K fd ps ds) (hd : Vals dvs ds) (hx : Passes CX0 X E)
    (ha : PA X (e :: es) t) (hdb : (x == ("__debug__" : Str)) = false := by decide) (he : starEach (e :: es) X.env = (false, eval e X.env) :: starEach es X.env := by rfl) (hpl : (backTo pos (starEach es X.env)).any (·.1) = false := by rfl) :
    PE X (.Call (.Name x p) (e :: es) [] pos) (tCall sp dvs E t) := by
  refine ⟨fun pins s σ H Q I h => wpAny_Call_Name_kw (ld_glob I hg hm ?_ hdb)⟩
  refine PySem.W.callWith_K (h₀ := X.base) I.ok.mod.kin hk (thn (ha.run pos pins s σ H _ I h) fun us s1 ⟨vs, H1, I1, r, q⟩ => ⟨I1.kIn, wpAny_call ?_⟩) he hpl
  have r2 : Vals (vs ++ dvs) (us ++ ds) := r.append hd
  have hl : (us ++ ds).length = ps.length := r2.length ▸ F.len _ _ _ _ q
  refine codeAny_mono (F.run X.A X.stack s1 H1 ⟨us, []⟩ (us ++ ds) (vs ++ dvs) Q E hgd hr I1.env0 (hb s1 us I1.kIn hl) r2 q) fun z s2 hq => ?_
  match z, hq with
  | .error er, hq => exact hx pins σ H1 s1 er s2 I1 hq
  | .ok (.ret u), hq => exact I1.after hq
end
section
variable {X : Cx} {c : Cf} {k n : Nat} {f : Addr} {fd : FuncData} {ps : List Str} {x : Str} {p pos : Pos} {e : Expr} {es : List Expr} {ms : MA} {mf : List D → M D}
theorem dCallG (G : FnG X.prog X.w X.K X.mg X.base k f fd ps (spM c.W n mf)) (hgd : X.A.guards = some []) (hr : Room k X.A) (hg : Gl X x) (hm : X.mg x = some (.ref f)) (hk : PySem.W.keepIn X.K (.ref f) = true) (hb : Binds X.K fd ps [])
    (ha : DA X c (e :: es) ms) (hdb : (x == ("__debug__" : Str)) = false := by decide) (he : starEach (e :: es) X.env = (false, eval e X.env) :: starEach es X.env := by rfl) (hpl : (backTo pos (starEach es X.env)).any (·.1) = false := by rfl) :
    DE X c (.Call (.Name x p) (e :: es) [] pos) (mCall n mf ms) :=
  (pe_callG G hgd hr hg hm hk hb .nil pass0 ha hdb he hpl).imp fun σ H Q ⟨F, u, ρ, S, h⟩ => ⟨F, u, ρ, S, (After.split h).imp fun ds u1 F1 H1 _ s1 g1 h1 vs rvs => by
    show spM c.W n mf (vs ++ []) H1 Q E0
    rw [List.append_nil]
    exact call_ok g1 rvs h1⟩
end
section
variable {X : Cx} {c : Cf} {k n : Nat} {f : Addr} {fd : FuncData} {ps : List Str} {x : Str} {p pos : Pos} {e : Expr} {es : List Expr} {ms : MA}
theorem dWithG {mf : List D → M D} {ml : MA} (G : FnG X.prog X.w X.K X.mg X.base k f fd ps (spM c.W 1 mf)) (hgd : X.A.guards = some []) (hr : Room k X.A) (hg : Gl X x) (hm : X.mg x = some (.ref f)) (hk : PySem.W.keepIn X.K (.ref f) = true) (hb : Binds X.K fd ps [])
    (ha : DL X c e ml) (hdb : (x == ("__debug__" : Str)) = false := by decide) (he : starEach [e] X.env = (false, eval e X.env) :: starEach [] X.env := by rfl) (hpl : (backTo pos (starEach [] X.env)).any (·.1) = false := by rfl) :
    DE X c (.Call (.Name x p) [e] [] pos) (mWith mf ml) :=
  (pe_callG G hgd hr hg hm hk hb .nil pass0 (pa_cons ha pa_nil he) hdb he hpl).imp fun σ H Q ⟨F, u, ρ, S, h⟩ => ⟨F, u, ρ, S, by
    unfold mWith M.bind at h
    cases e0 : ml ρ u with
    | none => rw [e0] at h; exact False.elim h
    | some y0 =>
      obtain ⟨ds, u1⟩ := y0
      rw [e0] at h
      intro F1 H1 s1 g1 q vs hF hn hq r
      have hqp : q ≠ c.p := fun z => S.gd.ne (z ▸ hn)
      obtain ⟨d, e1, h2⟩ := lft_some h
      cases e2 : intsD ds with
      | none => rw [e2] at e1; cases e1
      | some l =>
        rw [e2] at e1
        have hv := intsD_rep r e2
        subst hv
        show spM c.W 1 mf ([.ref q] ++ []) H1 Q E0
        rw [List.append_nil]
        refine ⟨rfl, q, F1, .real l, [.pur], ⟨g1.ex, hq, fun _ _ => hF, g1.nt, g1.tb, (by intro _ z; cases z)⟩, Reps.cons .pur Reps.nil, ?_⟩
        cases e3 : mf [.pur] (.real l) with
        | none => simp [e3] at e1
        | some y =>
          obtain ⟨r3, u3⟩ := y
          cases r3 with
          | bl b =>
            simp [e3] at e1
            subst e1
            intro F' H' s' g' v rv
            rw [rv.bl_]
            refine h2 F' H' ⟨s1.ef.trans s'.ef, fun a o ha e n => ?_, fun a ps ha e => (let ⟨qs, e1⟩ := s1.et a ps ha e; s'.et a qs (fun z => by rw [z, hn] at e; cases e) e1), fun a o e => ?_⟩ ⟨g'.ex, ?_, fun l' e => ?_, g'.nt, g'.tb, g1.hp⟩ (.bl b) (.bl b)
            · exact s'.eh a o (fun z => by rw [z, hn] at e; cases e) (s1.eh a o ha e n) n
            · rcases s'.nw a o e with z | z
              · exact s1.nw a o z
              · exact .inr (s1.back g1.ne z)
            · exact s'.eh c.p _ (Ne.symm hqp) g1.pu (.inr g1.hp)
            · exact s'.off (g1.off l' e) g1.ne
          | _ => simp [e3] at e1⟩
end
/-! ### repr of lists and tuples of plain data -/
def seqQ : D → Bool
  | .lst _ => true
  | .tup _ => true
  | _ => false
def repLD : D → Option D := fun d => if seqQ d = true then (toPD d).bind fun a => if a.showable = true ∧ a.hasDict = false ∧ a.depth ≤ 60 ∧ a.shown.length ≤ 100000 then some (.str a.shown) else none else none
section
variable {X : Cx} {c : Cf} {a : Expr} {ma : ME} {pos : Pos}
theorem call_reprD (hgd : X.A.guards = some []) (hu : X.A.units + 65 < cLine) : CallR X (.builtin "repr") (fun xs H Q => ∃ q d, xs = [.ref q] ∧ Dp X.K H (.ref q) d ∧ d.showable = true ∧ d.hasDict = false ∧ d.depth ≤ 60 ∧ d.shown.length ≤ 100000 ∧ Q (.str d.shown) H) := by
  intro pins s σ H vs us Q I r h
  obtain ⟨q, d, rfl, hd, h1, h2, h3, h4, qq⟩ := h
  obtain ⟨u1, rfl, ru⟩ := Vals.one r
  obtain ⟨as, r1⟩ := Dp.reads I d _ _ hd ru
  cases ru
  exact repr_of_reads' r1 h1 (fun z => by rw [h2] at z; cases z) hgd (by omega) (fun b o e => e) (fun h' u tk hk => ⟨.str _, H, I.kept hk, ⟨_, rfl⟩, qq⟩) (sz5 h4)
theorem dRepL {p0 : Pos} (hgd : X.A.guards = some []) (hu : X.A.units + 65 < cLine) (hg : Gl X "repr") (hm : X.mg "repr" = none) (ha : DE X c a ma) (hK : X.K = c.W.K := by rfl) (he : starEach [a] X.env = (false, eval a X.env) :: starEach [] X.env := by rfl) : DE X c (.Call (.Name "repr" p0) [a] [] pos) (mUn repLD ma) :=
  (pe_callB (call_reprD hgd hu) hg hm bb_repr (pa_cons ha pa_nil he) (by decide) (by decide) he rfl).imp fun σ H Q ⟨F, u, ρ, S, h⟩ =>
    ⟨F, u, ρ, S, (After.split h).imp fun x u1 F1 H1 _ s1 g1 h1 v rv => by
      obtain ⟨z, e1, h2⟩ := lft_some h1
      unfold repLD at e1
      split at e1
      · rename_i hs
        cases e2 : toPD x with
        | none => rw [e2] at e1; cases e1
        | some b =>
          rw [e2] at e1
          simp only [Option.bind_some] at e1
          split at e1
          · rename_i hc
            cases e1
            have hd := dp_of g1.ex x v b rv e2
            obtain ⟨q, rfl⟩ : ∃ q, v = .ref q := by
              cases x with
              | lst xs => obtain ⟨q, _, rfl, _⟩ := rv.lst_; exact ⟨q, rfl⟩
              | tup xs => obtain ⟨q, _, rfl, _⟩ := rv.tup_; exact ⟨q, rfl⟩
              | _ => cases hs
            exact ⟨q, b, rfl, by rw [hK]; exact hd, hc.1, hc.2.1, hc.2.2.1, hc.2.2.2, After.now g1 h2 _ (.str _)⟩
          · cases e1
      · cases e1⟩
end
end Mi

set_option Elab.async false
set_option linter.all false
set_option maxRecDepth 100000
set_option maxHeartbeats 4000000
/-! MiGb: a law from a promise that holds where no repr is under way. -/
namespace Mi
open PySem PySem.Spec PyProof.Rows L2 He
variable [TB : Tabl]
/-- the script's object, if it is none of the module's own -/
def scrH (K : PySem.W.Frag) (a : Addr) (ob : Obj) (ns : List Int) : Hp := fun b => if K.lookup a = none ∧ b = a then some (.frz ob (.lst (ns.map V.int))) else none
theorem scrH_some {K : PySem.W.Frag} {a b : Addr} {ob : Obj} {ns : List Int} {u : HO} (h : scrH K a ob ns b = some u) : K.lookup a = none ∧ b = a ∧ u = .frz ob (.lst (ns.map V.int)) := by
  unfold scrH at h
  split at h
  · rename_i hc
    cases h
    exact ⟨hc.1, hc.2, rfl⟩
  · cases h
theorem top_G {P : Program} {w : World} {K : PySem.W.Frag} {mg mb : Str → Option Value} {k : Nat} {fa a : Addr} {fd : FuncData} {x : Str} {sp : Sp} {s₁ : Shared} {vs : List Value} {ns : List Int}
    (KX : K.In s₁.heap) (hns : s₁.heap.Ns mainGlobals mg) (hb : s₁.heap.Ns builtinsNs mb) (hbb : ∀ x : Str, x ≠ "__name__" → mb x = bootBuiltins x) (hlim : s₁.heap.NoLimit) (hg : s₁.gens = #[])
    (ha : s₁.heap.get? a = some { cls := .type "list", data := .seq vs.toArray }) (hi : IntsAre vs ns) (hl : ns.length ≤ sizeLine) (hr : Room k callerA)
    (F : ∀ base : Heap, K.In base → base.Ns mainGlobals mg → FnG P w K mg base k fa fd [x] sp) (hbind : ∀ (s : Shared) (u : Value), BindsTo s fd ⟨[u], []⟩ [(x, u)])
    (hsp : ∀ H : Hp, Only H → SqL K H a (ns.map V.int) → sp [.ref a] H (fun v _ => v = .bl true) fun _ _ _ => False) :
    codeAny (model P w) callerA (.call (.ref fa) ⟨[.ref a], []⟩) (fun r s' => r = .ok (.ret (.bool true)) ∧ OldK s₁.heap s'.heap ∧ s'.os = s₁.os ∧ AllBare s'.gens) s₁ := by
  have rv := vals_ints hi
  have lenV := hi.length
  generalize hob : ({ cls := .type "list", data := .seq vs.toArray } : Obj) = ob at ha
  have fre : ∀ b : Addr, b ≠ a ∨ (∃ o, K.lookup a = some o) → scrH K a ob ns b = none := fun b h => by
    cases e : scrH K a ob ns b with
    | none => rfl
    | some u =>
      obtain ⟨h1, h2, _⟩ := scrH_some e
      rcases h with h | ⟨o, h⟩
      · exact absurd h2 h
      · rw [h1] at h; cases h
  have hO : Only (scrH K a ob ns) := fun b => by
    cases e : scrH K a ob ns b with
    | none => exact .inl rfl
    | some u => obtain ⟨_, _, rfl⟩ := scrH_some e; exact .inr ⟨_, _, rfl⟩
  have hok : HOk P w (scrH K a ob ns) s₁.heap := fun b u e => by
    obtain ⟨_, rfl, rfl⟩ := scrH_some e
    subst hob
    exact ⟨ha, by rw [List.length_map]; exact hl, vs, _, rv, ha⟩
  have hS : SqL K (scrH K a ob ns) a (ns.map V.int) := by
    cases hk : K.lookup a with
    | none => exact .inl (.inr ⟨ob, by unfold scrH; rw [if_pos ⟨hk, rfl⟩]⟩)
    | some o =>
      have e := KX a o hk
      rw [ha] at e
      cases e
      subst hob
      exact .inr ⟨_, vs.toArray, _, hk, rfl, rfl, rfl, by rw [List.size_toArray, lenV]; exact hl, by simpa using rv⟩
  have up : ∀ {b : Addr} {o : Obj}, s₁.heap.get? b = some o → b ≠ a ∨ (∃ o, K.lookup a = some o) → (hidT s₁.heap (scrH K a ob ns)).get? b = some o := fun e h => hidT_get e (fre _ h)
  have nsK : ∀ {b : Addr} {m : Str → Option Value}, s₁.heap.Ns b m → (hidT s₁.heap (scrH K a ob ns)).Ns b m := fun {b m} ⟨o, es, ep, e, d, r⟩ => ⟨o, es, ep, up e (.inl fun z => by
    subst z
    rw [ha] at e
    cases e
    subst hob
    cases d), d, r⟩
  have hKb : K.In (hidT s₁.heap (scrH K a ob ns)) := fun b o e => up (KX b o e) (by
    by_cases z : b = a
    · subst z; exact .inr ⟨o, e⟩
    · exact .inl z)
  obtain ⟨mc, h1, h2⟩ := hlim
  have e0 : Env0 P w K mg (hidT s₁.heap (scrH K a ob ns)) callerA [] s₁ (scrH K a ob ns) :=
    ⟨rfl, ⟨hKb, nsK hns, ⟨mb, nsK hb, hbb⟩, ⟨mc, nsK h1, h2⟩⟩, fun b o e => of_hidT e, Nat.le_of_eq (hidT_size _ _), trivial, fun b hb => absurd (show b ∈ ([] : List Addr) from hb) (by simp), hok, .of_eq hg⟩
  refine codeAny_mono ((F _ hKb (nsK hns)).run callerA [] s₁ _ ⟨[.ref a], []⟩ [.ref a] [.ref a] _ _ rfl hr e0 (hbind s₁ (.ref a)) (.cons rfl .nil) (hsp _ hO hS)) fun r s' h => ?_
  match r, h with
  | .error e, h => exact False.elim h
  | .ok (.ret u), h =>
    obtain ⟨v, H', os, bare, un, hok', r', q⟩ := h
    have q' : v = .bl true := q
    subst q'
    obtain rfl : u = Value.bool true := r'
    refine ⟨rfl, OldK.of_keep fun b o e => ?_, os, bare⟩
    cases q : scrH K a ob ns b with
    | none => exact un.keep b o e q (by intro z; exact absurd (show b ∈ ([] : List Addr) from z) (by simp)) (by simp)
    | some u =>
      obtain ⟨_, rfl, rfl⟩ := scrH_some q
      rw [ha] at e
      cases e
      exact (hok' _ _ (un.frzs _ _ _ q)).1
theorem walk_G {l : PySem.W.OpenLaw} {n k : Nat} {q : Program} {loose : List Str} {XP : (Str → Option Value) → Heap → Prop} {YP : World → Heap → Prop} {d : DefRec} {x : Str}
    (hn : l.most = some n) (hn2 : n ≤ sizeLine) (hdf : d.params.defaults = []) (hr : Room k callerA)
    (F : ∀ (w : World) (mg : Str → Option Value) (fa : Addr) (h : Heap), YP w h → h.Ns mainGlobals mg → mg d.name = some (.ref fa) →
      ∃ (K : PySem.W.Frag) (fd : FuncData) (sp : Sp), K.In h ∧ (∀ (s : Shared) (u : Value), BindsTo s fd ⟨[u], []⟩ [(x, u)]) ∧
        (∀ (H : Hp) (a : Addr) (ns : List Int), ns.length ≤ n → Only H → SqL K H a (ns.map V.int) → sp [.ref a] H (fun v _ => v = .bl true) fun _ _ _ => False) ∧
        ∀ base : Heap, K.In base → base.Ns mainGlobals mg → FnG l.prog w K mg base k fa fd [x] sp) :
    PySem.W.WalkO q loose XP YP l.row.toRowW d [] (fun f vs => PySem.call f vs) := by
  refine Att.attach_call hn hdf fun w s₀ s₁ mg mb fa o pm cd doc a vs ns G Y ho hd hcd hmg hobj hints hlen hg => ?_
  obtain ⟨K, fd, sp, KX, hb, hsp, hF⟩ := F w mg fa _ Y G.T.g hmg
  exact top_G KX G.T.g G.T.b G.T.builtins G.T.nolimit hg hobj hints (Nat.le_trans hlen hn2) hr hF hb fun H hO hS => hsp H a ns hlen hO hS
end Mi

set_option Elab.async false
set_option linter.all false
set_option maxRecDepth 100000
set_option maxHeartbeats 4000000
/-! MiGc: o.m(k = v), tuple(reversed(x)), x op= y by own methods, defs where no repr is under way. -/
namespace Mi
open PySem PySem.Spec PyProof.Rows L2 He
variable [TB : Tabl]
abbrev FOG (cs : List Str) (P : Program) (w : World) (K : PySem.W.Frag) (mg : Str → Option Value) (base : Heap) (k : Nat) (pl : Pl) (ps : List Str) (n : Nat) (mf : List D → M D) : Prop := FnG P w K mg base k (pl.ad K) (fdOf K (pl.ad K)) ps (spM (WW cs K) n mf)
/-! ### o.m(k = v, ..) -/
section
variable {X : Cx} {c : Cf} {k np : Nat} {f C : Addr} {fd : FuncData} {ps ks : List Str} {pos apos : Pos} {o : Expr} {kws : List Keyword} {mk : MA} {mf : List D → M D} {perm : List Nat} {m : Str} {pl : Sem Bool}
end
/-! ### tuple(reversed(x)) -/
section
variable {X : Cx} {c : Cf} {a : Expr} {ma : ME} {p0 p2 pos pos2 : Pos}
end
/-! ### x op= y by an own method -/
section
open PySem.W
variable {prog : Program} {w : World} {Mo : Model} {A : Around} {E : Value → Shared → Prop} {s : Shared} {K : PySem.W.Frag} {x C L f : Addr} {h₀ : Heap} {m : Str → Option Value} {ox : Obj} {od : Option Obj} {nm : String}
theorem fillsI_no {h : Heap} {cd : ClassData} {add : Bool} (X : K.In h) (hc : clsIn K C = some cd) (hm : cd.mro = [.ref C, .type "object"]) (h1 : findIn K (.ref C) (dunderI nm) = some none) (h2 : findIn K (.type "object") (dunderI nm) = some none) : Looks Mo h (fillsInplaceSlot (.ref C) nm add) false := by
  intro A Q E s k q
  have Lm : Looks Mo h (mroOf (.ref C)) cd.mro := (looks_clsIn X hc).andThen (f := fun cd => pure cd.mro) .now
  have Lm' := Lm.keeps k
  obtain ⟨hh, g, d, tt, os⟩ := s
  have X' : K.In hh := X.keeps k
  have L1 : Looks Mo hh (typeLookup (.ref C) (dunderI nm)) none := looks_findIn X' h1
  have L2 : Looks Mo hh (typeLookup (.type "object") (dunderI nm)) none := looks_findIn X' h2
  unfold fillsInplaceSlot
  refine wpAny_bind (Lm'.at ?_)
  rw [hm, List.anyM_cons, List.anyM_cons]
  refine wpAny_bind ?_
  repeat lk
  exact q
theorem inpl_K {op : Operator} {b : Value} {cd : ClassData} {Q : Value → Shared → Prop} (F : Fr h₀ L s.heap m) (X₀ : K.In h₀) (I : InstAt s.heap x ox C od) (hb : Looks (model prog w) s.heap (typeOf b) (.ref C)) (hcd : clsIn K C = some cd) (hm : cd.mro = [.ref C, .type "object"])
    (hs : findIn K (.ref C) (PySem.dunder op.info.2) = some (some (.ref f))) (hf : isFn K (.ref f) = true) (h1 : findIn K (.ref C) (dunderI op.info.2) = some none) (h2 : findIn K (.type "object") (dunderI op.info.2) = some none)
    (h : wpAny (model prog w) A (call (.ref f) [.ref x, b]) (PySem.W.CmpBack Q) E s) : wpAny (model prog w) A (inplaceOp op (.ref x) b) Q E s := by
  have X := X₀.keeps F.keep
  unfold inplaceOp
  refine wpAny_holding ?_
  refine wpAny_bind (I.type.here (wpAny_bind ((fillsI_no X hcd hm h1 h2).here ?_)))
  simp only [Bool.false_eq_true, if_false]
  refine wpAny_bind ?_
  unfold binaryOp1
  refine wpAny_bind (I.type.here (wpAny_bind (hb.here (wpAny_bind ((fills_K X hcd hm hs).here ?_)))))
  simp only [beq_self_eq_true, if_true]
  refine wpAny_bind (wpAny_pure ?_)
  simp only [Bool.and_false, Bool.false_eq_true, if_false, Bool.false_and]
  refine wpAny_bind (wpAny_pure ?_)
  simp only [Bool.false_eq_true, if_false]
  refine wpAny_bind (m := tryMethod (.ref x) _ b) ?_
  unfold tryMethod
  refine wpAny_bind (special_fn X I hs (beq_iff_eq.mp hf) (wpAny_mono h (fun v s' hv => ?_) fun _ _ e => e))
  cases v <;> first | exact hv.elim | exact wpAny_pure (wpAny_pure (wpAny_pure hv))
end
/-- no own in-place method -/
structure NoI (K : PySem.W.Frag) (C : Addr) (ni : Str) : Prop where
  cls : ∃ cd, PySem.W.clsIn K C = some cd ∧ cd.mro = [.ref C, .type "object"]
  no : PySem.W.findIn K (.ref C) ni = some none
  obj : PySem.W.findIn K (.type "object") ni = some none
theorem noI_ok {K : PySem.W.Frag} {c ni : Str} (h : noIB c ni K = true) : NoI K (ga K c) ni := by
  obtain ⟨h1, h⟩ := ba h
  obtain ⟨h2, h3⟩ := ba h
  refine ⟨?_, ?_, ?_⟩
  · split at h1
    · rename_i cd e; exact ⟨cd, e, beq_iff_eq.mp h1⟩
    · cases h1
  · split at h2
    · assumption
    · cases h2
  · split at h3
    · assumption
    · cases h3
theorem ownNS_ok {K : PySem.W.Frag} {c n ni : Str} (h : (Ft.raw (ownNSB c n ni)).ok K = true) : OwnM K (ga K c) ((Pl.meth c n).ad K) n ∧ NoI K (ga K c) ni := by
  obtain ⟨h1, h2⟩ := ba h
  exact ⟨own_ok h1, noI_ok h2⟩
def mAugOO (i : Nat) (k : Str) (mf : List D → M D) (m : ME) : MS := fun ρ => M.bind (lft (vSh ρ i)) fun x => M.bind (m ρ) fun y => match x, y with
  | .obj c ks ds, .obj c' ks' ds' => if c = k ∧ c' = k then M.bind (mf [.obj c ks ds, .obj c' ks' ds']) fun z => M.pure (.nx (ρ.set i (.sh z))) else lft none
  | _, _ => lft none
section
variable {X : Cx} {k : Nat} {f C : Addr} {fd : FuncData} {ps : List Str} {sp : Sp}
theorem ip_binO {op : Operator} {n ni : Str} (hn : PySem.dunder op.info.2 = n) (hi : dunderI op.info.2 = ni) (G : FnOk X.prog X.w X.K X.mg X.base CX0 k f fd ps sp) (hr : Room k X.A) (hb : Binds X.K fd ps []) (hc : OwnM X.K C f n) (hno : NoI X.K C ni) : PIp X op (rBinO C (isIns C) sp) := by
  intro pins s σ H x y v u Q I rx ry h
  obtain ⟨a, dx, fs, rfl, ha, ⟨b, dy, gs, rfl, hb'⟩, q⟩ := h
  cases rx
  cases ry
  obtain ⟨mA, J, _⟩ := ins_get I.hok ha
  obtain ⟨mB, J', _⟩ := ins_get I.hok hb'
  obtain ⟨od, J, _⟩ := J.look
  obtain ⟨od', J', _⟩ := J'.look
  obtain ⟨m, hF⟩ := I.fr
  obtain ⟨cd, hcd, hm⟩ := hno.cls
  refine inpl_K hF I.ok.mod.kin J J'.type hcd hm (by rw [hn]; exact hc.has) hc.fn (by rw [hi]; exact hno.no) (by rw [hi]; exact hno.obj) ?_
  exact wpAny_mono (call_at (vs := [.ref a, .ref b]) G hr rfl hb I (.cons rfl (.cons rfl .nil)) q) (fun v s' z => ep_back z) fun _ _ z => z
end
section
variable {X : Cx} {c : Cf} {k i : Nat} {f : Addr} {fd : FuncData} {ps : List Str} {mf : List D → M D} {ck x : Str} {e : Expr} {me : ME} {pos pos' : Pos}
theorem dAugOO {op : Operator} {n ni : Str} (hn : PySem.dunder op.info.2 = n) (hii : dunderI op.info.2 = ni) (G : FnOk X.prog X.w X.K X.mg X.base CX0 k f fd ps (spM c.W 2 mf)) (hr : Room k X.A) (hb : Binds X.K fd ps []) (hc : OwnM X.K (c.W.cl ck) f n ∧ NoI X.K (c.W.cl ck) ni)
    (hN : X.N.Nodup) (hi : X.N[i]? = some x) (hx : Loc X.env.scope x) (he : DE X c e me) (hf : X.fn x = true ∨ X.env.scope.names.lookup x = some .local := by first | exact .inl rfl | exact .inr rfl | assumption) : DS X c (.AugAssign (.Name x pos') op e pos) (mAugOO i ck mf me) :=
  (ps_aug hN hi hx he (ip_binO hn hii G hr hb hc.1 hc.2) hf).imp fun Dn σ H ⟨F, u, ρ, S, h⟩ => by
    obtain ⟨x0, e0, h⟩ := flowO.lft S h
    obtain ⟨v0, e1, r0⟩ := S.var e0
    refine ⟨v0, e1, F, u, ρ, S, (flowO.after S h).imp fun y u1 F1 H1 _ s1 g1 h1 w rw => ?_⟩
    have r0 := r0.mono s1.ef
    obtain ⟨S1, h1⟩ := h1
    split at h1
    · split at h1
      · rename_i hh
        obtain ⟨rfl, e2⟩ := hh
        subst e2
        obtain ⟨p1, dx, vs, rfl, h3, _⟩ := id r0.obj_
        obtain ⟨p2, dy, ws, rfl, h4, _⟩ := id rw.obj_
        refine ⟨p1, dx, _, rfl, g1.ex _ _ h3, ⟨p2, dy, _, rfl, g1.ex _ _ h4⟩, rfl, c.p, F1, u1, [_, _], g1, Reps.cons r0 (Reps.cons rw Reps.nil), (flowO.after S1 h1).imp fun z u2 F2 H2 _ s2 g2 h2 v rv => ?_⟩
        exact h2.2 _ F2 H2 (Same.refl _) (h2.1.set rv)
      · exact False.elim h1
    · exact False.elim h1
end
@[simp] theorem ok_augOO {ρ : Env} {u : PuS} {i : Nat} {k : Str} {mf : List D → M D} {m : ME} {P : Fl → PuS → Prop} : Ok (mAugOO i k mf m ρ) u P ↔ ∃ x, vSh ρ i = some x ∧ Ok (m ρ) u fun y u1 => ∃ ks ds ks' ds', x = .obj k ks ds ∧ y = .obj k ks' ds' ∧ Ok (mf [x, y]) u1 fun z u2 => P (.nx (ρ.set i (.sh z))) u2 := by
  unfold mAugOO; simp only [ok_bind, ok_lft]
  constructor
  · rintro ⟨x, e, z⟩
    refine ⟨x, e, z.mono fun y u1 z1 => ?_⟩
    split at z1
    · simp only [ok_ite] at z1
      split at z1
      · rename_i hh
        obtain ⟨rfl, hh2⟩ := hh
        subst hh2
        exact ⟨_, _, _, _, rfl, rfl, (ok_bind.mp z1).mono fun _ _ z => ok_pure.mp z⟩
      · exact (ok_none.mp z1).elim
    · exact (ok_none.mp z1).elim
  · rintro ⟨x, e, z⟩
    refine ⟨x, e, z.mono fun y u1 z1 => ?_⟩
    obtain ⟨ks, ds, ks', ds', rfl, rfl, z⟩ := z1
    simp only [ok_ite]
    rw [if_pos (by first | exact ⟨rfl, rfl⟩ | exact ⟨trivial, trivial⟩)]
    exact ok_bind.mpr (z.mono fun _ _ z => ok_pure.mpr z)
end Mi

set_option Elab.async false
set_option linter.all false
set_option maxRecDepth 100000
set_option maxHeartbeats 4000000
/-! MiEa: own errors of one field, of any base, are made. -/
namespace Mi
open PySem PySem.W PySem.Spec PySem.Calls PyProof.Rows L2 PySem.Builtin PySem.Builtin.ObjectAttr
/-- the text of an error's __init__: self.f = f -/
def eA (f : Str) (p1 p2 : Pos) : Arguments := { posonlyargs := [], args := [{ arg := "self", annotation := none, pos := p1 }, { arg := f, annotation := none, pos := p2 }], vararg := none, kwonlyargs := [], kw_defaults := [], kwarg := none, defaults := [] }
def eS (f : Str) : Scope := { kind := .function, names := [(PySem.Str.ofString "self", .local), (f, .local)], isGenerator := false, isCoroutine := false, more := [] }
section
variable {prog : Program} {w : World} {A : Around} {E : Value → Shared → Prop} {R : Result → Shared → Prop} {K : Frag} {C fI : Addr} {f : Str}
end
end Mi




set_option Elab.async false
set_option linter.all false
set_option maxRecDepth 100000
set_option maxHeartbeats 4000000
/-! MiEb: what may raise: mirrors that answer a value or an error. -/
namespace Mi
open PySem PySem.Spec PyProof.Rows L2
variable [TB : Tabl]
inductive RX where
  | ok (d : D) | er (c : Str) (ks : List Str) (ds : List D)
abbrev MX := Env → M RX
/-! ### raise -/
/-! ### statements whose expression may raise -/
section
variable {X : Cx} {c : Cf} {pos : Pos} {e : Expr} {m : MX} {i : Nat}
end
/-! ### a def that may raise -/
section
variable {P : Program} {w : World} {K : PySem.W.Frag} {mg : Str → Option Value} {base : Heap} {x qual : Str} {params : Arguments} {body : List Stmt} {scope : Scope} {dvs : List V} {kws : List (Str × V)} {f : Addr} {fd : FuncData} {W : Wo} {N ps : List Str} {k : Nat} {mb : MS}
end
/-! ### calls -/
section
variable {X : Cx} {c : Cf} {k n : Nat} {f : Addr} {fd : FuncData} {ps : List Str} {x m : Str} {p pos apos : Pos} {e o : Expr} {es : List Expr} {ms : MA} {mo : ME} {mf : List D → M RX}
end
end Mi


set_option Elab.async false
set_option linter.all false
set_option maxRecDepth 100000
set_option maxHeartbeats 4000000
/-! MiEd: try with one clause of three classes; the caught error is known to the abstract heap. -/
namespace Mi
open PySem PySem.Spec PyProof.Rows L2
/-- a thing that stands as it is -/
def anyO (a : Addr) (oe : Obj) : HO := .ext fun h => h.get? a = some oe
theorem any_ok {P : Program} {w : World} {H : Hp} {h : Heap} {a : Addr} {oe : Obj} (e : h.get? a = some oe) : ObjOk P w H h a (.frz oe (anyO a oe)) := ⟨e, e, ⟨oe, e⟩, fun _ _ z k => k _ z⟩
section
variable {X : Cx} {pins : List (Addr × Obj)} {σ : L2.St} {H : Hp} {s : Shared} {a : Addr} {oe : Obj}
/-- a thing of the heap that is not tracked yet becomes known -/
theorem Inv.known (I : L2.Inv X pins σ H s) (he : s.heap.get? a = some oe) (hn : H a = none) (h0 : X.s_0.heap.get? a = none) (hL : a ≠ X.env.locals) (hc : ∀ x c, X.env.cells.lookup x = some c → c ≠ a) (hp : ∀ p ∈ X.pn ++ pins, p.1 ≠ a) : L2.Inv X pins σ (upd H a (.frz oe (anyO a oe))) s := by
  have ne : ∀ {b : Addr} {o : HO}, H b = some o → b ≠ a := fun e z => by rw [z, hn] at e; cases e
  refine ⟨I.ok, I.os, I.bare, ⟨I.base.keep, I.base.slot, fun b o e n x => ?_, I.base.there, fun b xs e => ?_, fun b o u e => ?_, fun b ps e => ?_⟩, I.loc, I.cell, ?_, fun x c e => ?_, fun p h => ?_, fun b o e => ?_, I.len⟩
  · rw [upd_ne (fun z => by rw [z, h0] at e; cases e)]; exact I.base.free b o e n x
  · have := I.base.tups b xs e; rw [upd_ne (ne this)]; exact this
  · have := I.base.frzs b o u e; rw [upd_ne (ne this)]; exact this
  · obtain ⟨more, this⟩ := I.base.tbls b ps e; exact ⟨more, by rw [upd_ne (ne this)]; exact this⟩
  · rw [upd_ne (Ne.symm hL)]; exact I.free
  · rw [upd_ne (hc x c e)]; exact I.freeC x c e
  · obtain ⟨z1, z2, z3⟩ := I.pin p h
    exact ⟨z1, by rw [upd_ne (hp p h)]; exact z2, z3⟩
  · by_cases hb : b = a
    · subst hb
      rw [upd_same] at e
      cases e
      exact any_ok he
    · rw [upd_ne hb] at e
      exact (I.hok b o e).stay (fun c u _ q => q) (fun c q => by rw [upd_ne (ne q)]; exact q) fun c xs q => by rw [upd_ne (ne q)]; exact q
end
section
variable {X : Cx} {x1 x2 x3 n : Str} {c1 c2 c3 : Value} {i kk : Nat} {body suite : List Stmt} {b₀ : Stmt} {p1 p2 p3 tp pos pos' : Pos} {tb : WX → TS} {ts : Addr → Obj → TS}
end
end Mi

set_option Elab.async false
set_option linter.all false
set_option maxRecDepth 100000
set_option maxHeartbeats 4000000
/-! MiEe: a lambda handed to a def that calls it within a try. -/
namespace Mi
open PySem PySem.Spec PyProof.Rows L2 LamX
section
variable {X : Cx} {pins : List (Addr × Obj)} {σ : L2.St} {H : Hp} {s : Shared}
end
/-- the table stays or grows by a new code object -/
def Grown (H H1 : Hp) : Prop := H1 = H ∨ ∃ (P : Addr) (ps qs : Array Value) (c : Addr) (q : Str), H P = some (.tbl ps) ∧ H c = none ∧ H1 = upd (upd H P (.tbl qs)) c (CodeO c q)
theorem Grown.tb {H H1 : Hp} (g : Grown H H1) : ∀ a ps, H a = some (.tbl ps) → ∃ qs, H1 a = some (.tbl qs) := fun a ps e => by
  rcases g with rfl | ⟨P, p0, qs, c, q, hP, hc, rfl⟩
  · exact ⟨ps, e⟩
  · have n1 : a ≠ c := fun z => by rw [z, hc] at e; cases e
    by_cases h : a = P
    · exact ⟨qs, by rw [upd_ne n1, h, upd_same]⟩
    · exact ⟨ps, by rw [upd_ne n1, upd_ne h]; exact e⟩
theorem Grown.ext {H H1 : Hp} (g : Grown H H1) : ExtN H H1 := fun a o e n => by
  rcases g with rfl | ⟨P, p0, qs, c, q, hP, hc, rfl⟩
  · exact e
  · rw [upd_ne (fun z => by rw [z, hc] at e; cases e), upd_ne (fun z => by rw [z, hP] at e; exact n _ (Option.some.inj e).symm)]
    exact e
theorem Grown.nw {H H1 : Hp} (g : Grown H H1) {a : Addr} (h : H1 a = none) : H a = none := by
  cases e : H a with
  | none => rfl
  | some o =>
    rcases tbl_or o with ⟨ps, rfl⟩ | n
    · obtain ⟨qs, z⟩ := g.tb a ps e
      rw [z] at h; cases h
    · rw [g.ext a o e n] at h; cases h
section
variable {X : Cx} {pins : List (Addr × Obj)} {σ : L2.St} {H : Hp} {s : Shared}
end
section
variable {X : Cx}
end
end Mi

set_option Elab.async false
set_option linter.all false
set_option maxRecDepth 100000
set_option maxHeartbeats 4000000
/-! MiEf: the mirrors of a try around a call of a lambda, of such a def's call. -/
namespace Mi
open PySem PySem.Spec PyProof.Rows L2 LamX
variable [TB : Tabl]
/-- what is known of the error that is handled -/
structure HotO (A : Around) (H : Hp) (p a : Addr) (oe : Obj) : Prop where
  hd : A.handled = some (.ref a)
  at_ : H a = some (.frz oe (anyO a oe))
  ne : a ≠ p
  fld : ∃ vs, oe.data = .fields vs ∧ vs[2]? = some .none
section
variable {X : Cx} {c : Cf} {x1 x2 x3 n y a q : Str} {c1 c2 c3 : Value} {i j kk : Nat} {suite : List Stmt} {b₀ : Stmt} {p1 p2 p3 tp pos pos' py pa pb pas : Pos} {f c' : Addr} {act : M RX} {tl : XK → Hp → VK → Prop} {ok : Str → Bool} {ms : MS}
end
/-! ### the def that calls a lambda -/
section
variable {X : Cx} {c : Cf}
end
end Mi




set_option Elab.async false
set_option linter.all false
set_option maxRecDepth 100000
set_option maxHeartbeats 4000000
/-! MiEi: defs called while an error is handled; repr of anything. -/
namespace Mi
open PySem PySem.Spec PyProof.Rows L2
variable [TB : Tabl]
/-- what a def promises while the error at a is handled and no repr is under way -/
structure FnHt (P : Program) (w : World) (K : PySem.W.Frag) (mg : Str → Option Value) (base : Heap) (k : Nat) (f : Addr) (fd : FuncData) (ps : List Str) (sp : Addr → Sp) : Prop where
  len : ∀ a vs H Q E, sp a vs H Q E → vs.length = ps.length
  run : ∀ (A : Around) (outer : List PySem.Env) (s : Shared) (H : Hp) (args : Args) (us : List Value) (vs : List V) (Q : VK) (E : XK) (a : Addr) (oe : Obj), A.guards = some [] → L2H.RoomH k A → A.handled = some (.ref a) → H a = some (.frz oe (anyO a oe)) → (∃ gs, oe.data = .fields gs ∧ gs[2]? = some .none) →
    Env0 P w K mg base A outer s H → BindsTo s fd args (ps.zip us) → Vals vs us → sp a vs H Q E → codeAny (model P w) A (.call (.ref f) args) (CR CX0 outer P w H s Q E) s
/-- the same frames without the handled error -/
def still (A : Around) : Around := { A with handled := none }
section
variable {P : Program} {w : World} {K : PySem.W.Frag} {mg : Str → Option Value} {base : Heap} {x qual : Str} {params : Arguments} {body : List Stmt} {scope : Scope} {dvs : List V} {kws : List (Str × V)} {f : Addr} {fd : FuncData} {W : Wo} {N ps : List Str} {k : Nat} {mb : MS}
end
/-! ### a call there -/
section
variable {X : Cx} {c : Cf} {k n : Nat} {f : Addr} {fd : FuncData} {ps : List Str} {x : Str} {p pos : Pos} {e : Expr} {es : List Expr} {ms : MA} {mf : List D → M D} {a : Addr} {oe : Obj}
theorem HotO.now {u : PuS} {F H : Hp} {σ : L2.St} {ρ : Env} (h : HotO X.A c.H0 c.p a oe) (S : Sta c u F H σ ρ) : H a = some (.frz oe (anyO a oe)) := S.ent.eh a _ h.ne h.at_ (.inr (by intro _ z; cases z))
theorem HotO.step {u : PuS} {F H F' H' : Hp} {σ : L2.St} {ρ : Env} (h : HotO X.A c.H0 c.p a oe) (S : Sta c u F H σ ρ) (s : Stp c.p F H F' H') : H' a = some (.frz oe (anyO a oe)) := s.eh a _ h.ne (h.now S) (.inr (by intro _ z; cases z))
end
/-! ### repr of plain data -/
end Mi

set_option Elab.async false
set_option linter.all false
set_option maxRecDepth 100000
set_option maxHeartbeats 4000000
/-! MiEj: repr of anything. -/
namespace Mi
open PySem PySem.Spec PyProof.Rows L2
variable [TB : Tabl]
section
variable {X : Cx} {c : Cf} {e : Expr} {m : ME} {pos : Pos} {t : List (Str × (List D → M D))}
/-! ### .. while an error is handled -/
theorem RoomH.in1 {k : Nat} {A : Around} (r : L2H.RoomH (k + 1) A) : L2H.RoomH k A.in1 := ⟨by have := r.dp; show A.depth + 3 * k + 5 < _; omega, by have := r.un; show A.units + 1 + 16 * k + 200 < _; omega⟩
end
end Mi



set_option Elab.async false
set_option linter.all false
set_option maxRecDepth 100000
set_option maxHeartbeats 4000000
/-! MiEl: choices between what may raise; defs with a star parameter that may raise; {}; the written part's facts about errors. -/
namespace Mi
open PySem PySem.Spec PyProof.Rows L2 He StX
variable [TB : Tabl]
section
variable {X : Cx} {c : Cf} {t : MT} {ma mb : MX} {k a b : Expr} {pos : Pos}
end
/-! ### a def with a star parameter that may raise -/
section
variable {P : Program} {w : World} {K : PySem.W.Frag} {mg : Str → Option Value} {base : Heap} {x qual : Str} {params : Arguments} {body : List Stmt} {scope : Scope} {dvs : List V} {kws : List (Str × V)} {f : Addr} {fd : FuncData} {W : Wo} {N ps : List Str} {pv : Str} {k : Nat} {mb : MS}
end
section
variable {X : Cx} {c : Cf} {k n : Nat} {p g : Addr} {mc : Value} {o e : Expr} {es : List Expr} {m ck : Str} {pos apos : Pos} {mo : ME} {ms : MA} {pl : Sem Bool} {mf : List D → M RX} {E : XK}
end
/-! ### what the written part says of errors -/
/-- own reprs while an error is handled: room -/
theorem _root_.L2H.RoomH.units {k : Nat} {A : Around} (r : L2H.RoomH k A) : A.units + 64 < cLine := by have := r.un; omega
/-- tables of reprs -/
theorem _root_.L2.FnOk.more {P : Program} {w : World} {K : PySem.W.Frag} {mg : Str → Option Value} {base : Heap} {CX : CXT} {j k : Nat} {f : Addr} {fd : FuncData} {ps : List Str} {sp : Sp} (G : FnOk P w K mg base CX j f fd ps sp) (h : j ≤ k) : FnOk P w K mg base CX k f fd ps sp :=
  ⟨G.len, fun A outer s H args us vs Q E hr e0 hb r hsp => G.run A outer s H args us vs Q E (hr.mono h) e0 hb r hsp⟩
theorem FnHt.more {P : Program} {w : World} {K : PySem.W.Frag} {mg : Str → Option Value} {base : Heap} {j k : Nat} {f : Addr} {fd : FuncData} {ps : List Str} {sp : Addr → Sp} (G : FnHt P w K mg base j f fd ps sp) (h : j ≤ k) : FnHt P w K mg base k f fd ps sp :=
  ⟨G.len, fun A outer s H args us vs Q E a oe hg hr hh ha hv e0 hb r hsp => G.run A outer s H args us vs Q E a oe hg (hr.mono h) hh ha hv e0 hb r hsp⟩
abbrev RT := List (Str × (List D → M D))
section
variable {X : Cx} {W : Wo} {k j : Nat} {t : RT} {ck : Str} {mf : List D → M D} {f : Addr} {fd : FuncData} {ps : List Str}
end
/-! ### the tables of the law -/
end Mi

set_option Elab.async false
set_option linter.all false
set_option maxRecDepth 100000
set_option maxHeartbeats 4000000
/-! MiRl: repr of a list of objects with an own __repr__. -/
namespace Mi
open PySem PySem.W PySem.Spec PySem.Calls PyProof.Rows L2 PySem.Builtin
variable [TB : Tabl]
section
variable {X : Cx} {k n : Nat} {f C a P : Addr} {fd : FuncData} {ps : List Str} {sp : Sp} {A1 : Around} {pins : List (Addr × Obj)} {σ : L2.St} {H : Hp} {s : Shared}
/-- one element: its own __repr__ runs -/
theorem under_own {Q : VK} {base : Nat} {dx : Addr} {fs : List (Str × V)} {E : Value → Shared → Prop} (sb : L2.Sub X n A1) (G : FnOk X.prog X.w X.K X.mg X.base CX0 n f fd ps sp) (hb : L2.Binds X.K fd ps []) (hc : OwnM X.K C f "__repr__") (I : L2.Inv X pins σ H s) (ha : H a = some (.ins C dx fs)) (hbase : base ≤ sizeLine)
    (hsp : sp [.ref a] H (fun v H' => ∃ t, v = .str t ∧ Q (.str t) H') E0) : wpAny (model X.prog X.w) A1 (pyReprUnder base (.ref a)) (fun t s' => ∃ H', L2.Inv X pins σ H' s' ∧ Q (.str t) H') E s := by
  obtain ⟨mA, J, _⟩ := ins_get I.hok ha
  obtain ⟨od, J, _⟩ := J.look
  have XK := I.kIn
  refine wpAny_pyReprUnder_ref hbase ?_
  unfold pyReprObjUnder pyReprObjBy
  refine wpAny_bind (wpAny_cRoomFor sb.room.units0 ?_)
  refine wpAny_bind (wpAny_bind (J.type.here ((looks_findIn XK hc.has).here ?_)))
  show wpAny _ _ (if (some (Value.ref f)).isNone = true then _ else _) _ _ _
  rw [if_neg (by simp)]
  have fin : wpAny (model X.prog X.w) A1 (call (.ref f) [.ref a]) (fun v s' => ∃ x u, v = .str x u ∧ ∃ H', L2.Inv X pins σ H' s' ∧ Q (.str x) H') E s := by
    refine wpAny_mono (call_at (vs := [.ref a]) G sb.room sb.fr hb I (.cons rfl .nil) hsp) (fun v s' z => ?_) fun _ _ z => z
    obtain ⟨w, H', I', rw, t, ew, q⟩ := z
    subst ew
    obtain ⟨tk, rfl⟩ := rw
    exact ⟨t, tk, rfl, H', I', q⟩
  refine wpAny_bind ?_
  simp only [callSpecialIfBoundBy?, bindSpecialIfBound?]
  refine wpAny_holding (wpAny_bind (wpAny_bind (wpAny_bind (J.type.here ((looks_findIn XK hc.has).here ?_)))))
  have fin2 : wpAny (model X.prog X.w) A1 (do let __do_lift ← call (.ref f) ([.ref a] ++ []); pure (some __do_lift)) (fun a s' =>
          wpAny (model X.prog X.w) A1
            (match a with
            | some r => do
              let __do_lift ← isInstance r (Value.type "str")
              if __do_lift = true then pure r
                else do
                  let __do_lift ← PySem.typeNameOf r
                  raiseErrorMade "TypeError"
                      (toString "__repr__ returned non-string (type " ++ toString __do_lift ++ toString ")")
            | none => unsupported "repr:special-get-raises")
            (fun v s' => ∃ x u, v = Value.str x u ∧ ∃ H', L2.Inv X pins σ H' s' ∧ Q (V.str x) H') E s') E s := by
    refine wpAny_bind (wpAny_mono fin (fun v s' hv => wpAny_pure ?_) fun _ _ z => z)
    obtain ⟨x, u, rfl, q⟩ := hv
    exact wpAny_bind (wpAny_isInstance (T := "str") (b := true) rfl isSubtype_str_str (wpAny_pure ⟨_, _, rfl, q⟩))
  refine wpAny_bind (wpAny_askSetting (wpAny_ite ?_))
  split
  · exact wpAny_bind ((bind_fn XK _ (beq_iff_eq.mp hc.fn)).here (wpAny_pure (by exact fin2)))
  · exact wpAny_tryCatch (wpAny_bind ((bind_fn XK _ (beq_iff_eq.mp hc.fn)).here (wpAny_pure (by exact fin2))))
/-- the texts of the elements -/
def mTexts (ck : Str) (mf : List D → M D) : List D → M (List Str)
  | [] => M.pure []
  | d :: ds => match d with
    | .obj c ks es => if c = ck then M.bind (mf [.obj c ks es]) fun r => (match r with
      | .str t => M.bind (mTexts ck mf ds) fun ts => M.pure (t :: ts)
      | _ => lft none) else lft none
    | _ => lft none
theorem sub_loop (sb : L2.Sub X (n + 1) A1) (args : Args) : L2.Sub X n (A1.under (.builtin "list.__repr__.loop" args)) := by
  have hr := sb.room
  have hu := PySem.units_under_list_loop A1 args
  have hd : (A1.under (.builtin "list.__repr__.loop" args)).depth ≤ A1.depth + 1 := by
    first | exact Nat.le_refl _ | (simp [Around.under, Code.weight, Code.isCreation, Code.isGuard, Code.isCaller, Code.frames, Code.isFrame, guardIds])
  refine ⟨⟨?_, ?_, ?_⟩, ?_⟩
  · show A1.handled = none
    exact hr.hd
  · have := hr.dp; omega
  · have := hr.un; omega
  · refine Eq.trans ?_ sb.fr
    first | rfl | simp [Around.under, Code.envs, Code.isFrame, pushEnvs, Code.frames]
theorem vals_strs : ∀ {ts : List Str} {its : List Value}, Vals (ts.map V.str) its → ∃ l : List (Str × Tok), its = strValues l ∧ l.map (·.1) = ts
  | [], its, h => by cases h; exact ⟨[], rfl, rfl⟩
  | t :: ts, its, h => by
    cases h with
    | cons e r =>
      obtain ⟨l, rfl, e2⟩ := vals_strs r
      obtain ⟨tk, rfl⟩ := e
      exact ⟨(t, tk) :: l, rfl, by rw [List.map_cons, e2]⟩
theorem vals_ref : ∀ {vs : List V} {its : List Value} {i : Nat} {x : Addr}, Vals vs its → vs[i]? = some (.ref x) → its[i]? = some (.ref x)
  | _, _, i, x, .nil, e => by simp at e
  | _, _, 0, x, .cons e r, h => by
    simp at h
    subst h
    cases e
    rfl
  | _, _, i + 1, x, .cons e r, h => by
    simp at h ⊢
    exact vals_ref r h
theorem rl_loop {W : Wo} {p : Addr} {F0 H0 : Hp} {ck : Str} {mf : List D → M D} {vs : List V} (hK : X.K = W.K) (G : FnOk X.prog X.w X.K X.mg X.base CX0 n f fd ps (spM W 1 mf)) (hb : L2.Binds X.K fd ps []) (hc : OwnM X.K (W.cl ck) f "__repr__") (sb : L2.Sub X (n + 1) A1) (hP0 : H0 P = none) (hPp : P ≠ p) (hFa : F0 a = some (.lst vs)) {R : Result → Shared → Prop} {u' : PuS} {tsA : List Str} (hsz : (listText tsA).length ≤ 100000)
    (hR : ∀ F H s tk, Stp p F0 H0 F H → Gd p u' F H → L2.Inv X pins σ H s → R (.ok (.ret (.str (listText tsA) tk))) s) :
    ∀ (ds : List D) (done : List Str) (vs1 vs2 : List V) (ts2 : List Str) (F H : Hp) (u : PuS) (s : Shared), vs = vs1 ++ vs2 → vs1.length = done.length → tsA = done ++ ts2 → Reps W p F vs2 ds → mTexts ck mf ds u = some (ts2, u') → Stp p F0 H0 F H → Gd p u F H → H P = some (.lst (done.map V.str)) → F P = none → L2.Inv X pins σ H s →
    codeAny (model X.prog X.w) A1 (.builtin "list.__repr__.loop" ⟨[.ref a, rawInt (done.length : Nat), .ref P, rawInt ((piled done : Nat) : Int)], []⟩) R s := by
  intro ds
  have szl : sizeLine = 16777216 := sizeLine_eq
  have hX : (listText tsA).length = (textFrom 0 "[" tsA).length + 1 := by
    show (textFrom 0 "[" tsA ++ "]").length = _
    rw [strLen_append]; rfl
  have hL := textFrom_len tsA 0 "["
  have hp3 := piled_le_listText tsA
  induction ds with
  | nil =>
    intro done vs1 vs2 ts2 F H u s e1 e2 e3 r e4 st g hP hFP I
    obtain rfl := r.none
    cases e4
    rw [List.append_nil] at e1 e3
    subst e1 e3
    have hHa : H a = some (.lst vs) := g.ex a _ (st.ef a _ hFa)
    obtain ⟨za, itsA, nA, rA, hlA, eA⟩ := I.lstM hHa
    obtain ⟨zP, itsP, nP, rP, hlP, eP⟩ := I.lstM hP
    refine codeAny_builtin PySem.F.entry_list_repr_loop ?_
    show wpAny _ _ (Builtin.«list.__repr__.loop» ⟨[.ref a, .int (tsA.length : Nat) 0, .ref P, .int ((piled tsA : Nat) : Int) 0], []⟩) _ _ s
    rw [repr_loop_tree]
    refine wpAny_bind (wpAny_listItems eA rfl ?_)
    have hnone : itsA.toArray[((tsA.length : Nat) : Int).toNat]? = none := by simp; omega
    simp only [hnone]
    unfold reprEnd
    refine wpAny_bind (wpAny_listItems eP rfl ?_)
    obtain ⟨l, rfl, el⟩ := vals_strs rP
    have e5 : (strValues l).toArray.toList = strValues l := by simp
    rw [e5, repr_fold]
    refine wpAny_bind (wpAny_pure ?_)
    rw [el]
    refine wpAny_bind (wpAny_mkStr (wpAny_pure ?_) (by show (listText tsA).length ≤ _; omega))
    exact hR F H _ _ st g (I.tok _)
  | cons d ds ih =>
    intro done vs1 vs2 ts2 F H u s e1 e2 e3 r e4 st g hP hFP I
    obtain ⟨v, vr, rfl, rv, rr⟩ := r.uncons
    unfold mTexts at e4
    split at e4
    · rename_i c ks es
      split at e4
      · rename_i hck
        subst hck
        unfold M.bind at e4
        cases e6 : mf [.obj c ks es] u with
        | none => rw [e6] at e4; cases e4
        | some y =>
          obtain ⟨r6, u1⟩ := y
          rw [e6] at e4
          cases r6 with
          | str t =>
            simp only at e4
            cases e7 : mTexts c mf ds u1 with
            | none => rw [e7] at e4; cases e4
            | some z =>
              obtain ⟨ts', u2⟩ := z
              rw [e7] at e4
              cases e4
              obtain ⟨x, dx, ws, rfl, hx, lk, rs⟩ := id rv.obj_
              have hHa : H a = some (.lst vs) := g.ex a _ (st.ef a _ hFa)
              obtain ⟨za, itsA, nA, rA, hlA, eA⟩ := I.lstM hHa
              have hat : vs[done.length]? = some (.ref x) := by rw [e1, List.getElem?_append_right (by omega), e2, Nat.sub_self]; rfl
              have hit := vals_ref rA hat
              have hil := (List.getElem?_eq_some_iff.mp hit).1
              have hpil := piled_append done (t :: ts')
              rw [piled_cons] at hpil
              rw [← e3] at hpil
              have htl := hL.2.1 t (by rw [e3]; simp)
              refine codeAny_builtin PySem.F.entry_list_repr_loop ?_
              show wpAny _ _ (Builtin.«list.__repr__.loop» ⟨[.ref a, .int (done.length : Nat) 0, .ref P, .int ((piled done : Nat) : Int) 0], []⟩) _ _ s
              rw [repr_loop_tree]
              refine wpAny_bind (wpAny_listItems eA rfl ?_)
              have hsome : itsA.toArray[((done.length : Nat) : Int).toNat]? = some (.ref x) := by rw [Int.toNat_natCast]; simpa using hit
              simp only [hsome]
              rw [Int.toNat_natCast]
              refine wpAny_bind (wpAny_holding (wpAny_mono (under_own (Q := fun v H' => v = .str t ∧ ∃ F1, Stp p F H F1 H' ∧ Gd p u1 F1 H') (sub_loop sb _) G hb hc I (g.ex _ _ hx) (by omega) ?_) (fun t' s' hq => ?_) fun _ _ z => z))
              · refine ⟨rfl, p, F, u, [.obj c ks es], g, Reps.cons rv Reps.nil, ?_⟩
                rw [e6]
                intro F' H' st' g' v rv'
                exact ⟨t, rv'.str_, rfl, F', st', g'⟩
              · obtain ⟨H1, I1, et, F1, st1, g1⟩ := hq
                cases et
                have hP1 := st1.eh P _ hPp hP (.inr (by intro _ z; cases z))
                have hF1 := st1.off hFP (by rw [hP]; simp)
                obtain ⟨zP, itsP, nP, rP, hlP, eP⟩ := I1.lstM hP1
                refine wpAny_bind (wpAny_mkStr ?_ (by omega))
                refine wpAny_bind ?_
                show wpAny _ _ (updateSeq P _) _ _ _
                rw [List.length_map] at hlP zP
                refine wpAny_updateSeq eP rfl (wpAny_pure ⟨PySem.F.quiet_list_repr_loop _, ?_⟩) (by rw [List.size_toArray]; omega)
                have e8 : ((done.length : Nat) : Int) + 1 = (((done ++ [t]).length : Nat) : Int) := by rw [List.length_append]; rfl
                have e9 : piled done + (t.length + 2) = piled (done ++ [t]) := by rw [piled_append, piled_cons, piled_nil]
                have e10 : done.map V.str ++ [V.str t] = (done ++ [t]).map V.str := by rw [List.map_append]; rfl
                have st2 := st.trans g.ne st1
                rw [e8, e9]
                have hlen2 : done.length ≤ tsA.length := by rw [e3, List.length_append]; omega
                have vt : Vals [V.str t] [Value.str t s'.toks] := .cons ⟨_, rfl⟩ .nil
                have I2 := I1.lset (its' := itsP ++ [.str t s'.toks]) (t' := s'.toks + 1) hP1 eP (f := fun x => x.push (Value.str t s'.toks)) (by simp) (rP.append vt) (by rw [List.length_append, List.length_map, List.length_singleton]; have := hL.1; rw [if_neg (Nat.lt_irrefl 0)] at this; omega)
                rw [e10] at I2
                refine ih (done ++ [t]) (vs1 ++ [.ref x]) vr ts' F1 (upd H1 P (.lst ((done ++ [t]).map V.str))) u1 _ (by rw [e1]; simp) (by rw [List.length_append, List.length_append, e2]; rfl) (by rw [e3]; simp) (rr.mono st1.ef) e7 ?_ ?_ upd_same hF1 I2
                · refine ⟨st2.ef, fun b o hb e n => ?_, fun b q hb e => ?_, st2.nw⟩
                  · rw [upd_ne (fun z => by rw [z, hP0] at e; cases e)]
                    exact st2.eh b o hb e n
                  · rw [upd_ne (fun z => by rw [z, hP0] at e; cases e)]
                    exact st2.et b q hb e
                · refine ⟨fun b o e => ?_, ?_, g1.off, g1.nt, tabs_over hP1 g1.tb, g1.hp⟩
                  · rw [upd_ne (fun z => by rw [z, hF1] at e; cases e)]
                    exact g1.ex b o e
                  · rw [upd_ne (Ne.symm hPp)]
                    exact g1.pu
          | _ => simp only [lft] at e4; cases e4
      · cases e4
    · cases e4
def mRlT (ck : Str) (mf : List D → M D) (ds : List D) : M Str := M.bind (mTexts ck mf ds) fun ts => lft (if (listText ts).length ≤ 100000 then some (listText ts) else none)
/-- what repr of a list of objects asks -/
def rRl (W : Wo) (ck : Str) (mf : List D → M D) : List V → Hp → VK → Prop := fun xs H Q => ∃ p F u a vs ds, xs = [.ref a] ∧ Gd p u F H ∧ F a = some (.lst vs) ∧ vs ≠ [] ∧ Reps W p F vs ds ∧ After p F H (mRlT ck mf ds u) fun t _ _ H' => Q (.str t) H'
theorem call_rl {W : Wo} {ck : Str} {mf : List D → M D} (hgd : X.A.guards = some []) (G : FnOk X.prog X.w X.K X.mg X.base CX0 n f fd ps (spM W 1 mf)) (hr : Room (n + 2) X.A) (hb : L2.Binds X.K fd ps []) (hc : OwnM X.K (W.cl ck) f "__repr__") (hK : X.K = W.K) : CallR X (.builtin "repr") (rRl W ck mf) := by
  intro pins s σ H xs us Q I r h
  obtain ⟨p, F, u, a, vs, ds, rfl, g, ha, hne, rs, h⟩ := h
  obtain ⟨u1, rfl, ru⟩ := Vals.one r
  cases ru
  have hHa : H a = some (.lst vs) := g.ex a _ ha
  obtain ⟨za, itsA, nA, rA, hlA, eA⟩ := I.lstM hHa
  obtain ⟨x, l, rfl⟩ : ∃ x l, itsA = x :: l := by
    cases itsA with
    | nil => exact absurd (List.length_eq_zero_iff.mp hlA) hne
    | cons x l => exact ⟨x, l, rfl⟩
  have hT : s.TypeIs (.ref a) "list" := ⟨_, eA, rfl⟩
  unfold mRlT M.bind at h
  cases e : mTexts ck mf ds u with
  | none => rw [e] at h; exact False.elim h
  | some y =>
    obtain ⟨ts, u2⟩ := y
    rw [e] at h
    by_cases hsz : (listText ts).length ≤ 100000
    · simp only [if_pos hsz] at h
      have h : ∀ F' H', Stp p F H F' H' → Gd p u2 F' H' → Q (.str (listText ts)) H' := h
      have hu := hr.un
      refine call_repr_slot (by omega) hT PySem.F.slot_list_repr.toG ?_
      refine wpAny_call (codeAny_call_builtin (R := callEnd (fun r s₁ => ∃ x t, r = .str x t ∧ EP X pins σ Q r s₁) X.xe) PySem.F.slot_list_repr.plain PySem.F.entry_list_repr (PySem.F.slot_list_repr.check _ _ _ _ _ _ _ _ hT (PySem.F.args_list_repr_1 _) ?_))
      show wpAny (model X.prog X.w) X.A.in1.in1 (Builtin.listReprAt 0 ⟨[.ref a], []⟩) _ _ s
      have hH0 : H s.heap.objs.size = none := I.hok.fresh (Nat.le_refl _)
      have hPp : s.heap.objs.size ≠ p := fun z => by rw [z] at hH0; exact g.ne hH0
      refine wpAny_list_repr_head (A := X.A.in1.in1) (g := []) hgd (fun v rest kw hm => by cases hm) eA rfl ?_
      refine wpAny_bind (m := newList []) (wpAny_newObj_type ?_)
      refine wpAny_pure ⟨PySem.F.quiet_list_repr_loop _, ?_⟩
      have I2 := I.lnew (its := []) (ys := []) (t' := s.toks) .nil (Nat.zero_le _)
      have sb : L2.Sub X (n + 1) X.A.in1 := ⟨hr.in1, rfl⟩
      exact rl_loop hK G hb hc sb hH0 hPp ha hsz (R := callEnd (fun r s₁ => ∃ x t, r = .str x t ∧ EP X pins σ Q r s₁) X.xe) (fun F' H' s' tk st' g' I' => ⟨_, _, rfl, .str _, H', I', ⟨_, rfl⟩, h F' H' st' g'⟩) ds [] [] vs ts F (upd H s.heap.objs.size (.lst [])) u _ rfl rfl rfl rs e (Stp.own hH0) (g.own hH0) upd_same (g.fresh hH0) I2
    · simp only [if_neg hsz] at h
      exact False.elim h
end
/-- repr of a list of objects -/
def mRepOL (ck : Str) (mf : List D → M D) (mo : ME) : ME := fun ρ => M.bind (mo ρ) fun d => match d with
  | .lst ds => if ds ≠ [] then M.bind (mRlT ck mf ds) fun t => M.pure (.str t) else lft none
  | _ => lft none
section
variable {X : Cx} {c : Cf} {k : Nat} {f : Addr} {fd : FuncData} {ps : List Str} {mf : List D → M D} {ck : Str} {a : Expr} {ma : ME} {pos p0 : Pos}
theorem dRepOL (hgd : X.A.guards = some []) (G : FnOk X.prog X.w X.K X.mg X.base CX0 k f fd ps (spM c.W 1 mf)) (hr : Room (k + 2) X.A) (hb : L2.Binds X.K fd ps []) (hc : OwnM X.K (c.W.cl ck) f "__repr__") (hK : X.K = c.W.K) (hg : Gl X "repr") (hm : X.mg "repr" = none) (ha : DE X c a ma) (he : starEach [a] X.env = (false, eval a X.env) :: starEach [] X.env := by rfl) : DE X c (.Call (.Name "repr" p0) [a] [] pos) (mRepOL ck mf ma) :=
  (pe_callB (call_rl hgd G hr hb hc hK) hg hm bb_repr (pa_cons ha pa_nil he) (by decide) (by decide) he rfl).imp fun σ H Q ⟨F, u, ρ, S, h⟩ =>
    ⟨F, u, ρ, S, (After.split h).imp fun x u1 F1 H1 _ s1 g1 h1 v rv => by
      cases x with
      | lst ds =>
        by_cases hds : ds ≠ []
        · have h2 : After c.p F1 H1 (M.bind (mRlT ck mf ds) (fun t => M.pure (D.str t)) u1) (fun d _ F' H' => ∀ v, Rep c.W c.p F' v d → Q v H') := by
            have h1 := h1
            simp only [if_pos hds] at h1
            exact h1
          obtain ⟨q, vs, rfl, hq, hl, hrs⟩ := rv.lst_
          refine ⟨c.p, F1, u1, q, vs, ds, rfl, g1, hq, fun z => hds (List.length_eq_zero_iff.mp (by rw [← hl, z]; rfl)), ⟨hl, hrs⟩, (After.split h2).imp fun t u3 F3 H3 _ s3 g3 h5 => ?_⟩
          have h6 : After c.p F3 H3 (some (D.str t, u3)) (fun d _ F' H' => ∀ v, Rep c.W c.p F' v d → Q v H') := h5
          exact After.now g3 h6 _ (.str t)
        · simp only [if_neg hds] at h1
          exact False.elim h1
      | _ => exact False.elim h1⟩
end
theorem ok_repOL {ck : Str} {mf : List D → M D} {mo : ME} {ρ : Env} {u : PuS} {P : D → PuS → Prop} : Ok (mRepOL ck mf mo ρ) u P ↔ Ok (mo ρ) u fun d u1 => ∃ ds, d = .lst ds ∧ ds ≠ [] ∧ Ok (mRlT ck mf ds) u1 fun t u2 => P (.str t) u2 := by
  unfold mRepOL
  rw [ok_bind]
  constructor
  · refine fun h => h.mono fun d u1 z => ?_
    cases d with
    | lst ds =>
      by_cases hds : ds ≠ []
      · simp only [if_pos hds] at z
        rw [ok_bind] at z
        exact ⟨ds, rfl, hds, z.mono fun t u2 q => by rwa [ok_pure] at q⟩
      · simp only [if_neg hds] at z
        obtain ⟨_, _, e, _⟩ := z
        cases e
    | _ => obtain ⟨_, _, e, _⟩ := z; cases e
  · refine fun h => h.mono fun d u1 z => ?_
    obtain ⟨ds, rfl, hds, z⟩ := z
    simp only [if_pos hds]
    rw [ok_bind]
    exact z.mono fun t u2 q => by rwa [ok_pure]
/-- the elements' texts, told one by one -/
theorem ok_texts {α : Type} {ck : Str} {mf : List D → M D} {f : α → D} {g : α → Str} {u : PuS} : ∀ (xs : List α), (∀ x ∈ xs, ∃ ks ds, f x = .obj ck ks ds) → (∀ x ∈ xs, ∀ {P : D → PuS → Prop}, P (.str (g x)) u → Ok (mf [f x]) u P) → mTexts ck mf (xs.map f) u = some (xs.map g, u)
  | [], _, _ => rfl
  | x :: xs, h1, h2 => by
    obtain ⟨ks, ds, e⟩ := h1 x List.mem_cons_self
    obtain ⟨d, u1, e1, e2, e3⟩ := h2 x List.mem_cons_self (P := fun d u' => d = .str (g x) ∧ u' = u) ⟨rfl, rfl⟩
    subst e2 e3
    have ih := ok_texts xs (fun y hy => h1 y (List.mem_cons_of_mem _ hy)) (fun y hy => h2 y (List.mem_cons_of_mem _ hy))
    rw [List.map_cons, List.map_cons, e]
    unfold mTexts
    rw [e] at e1
    simp only [if_true, M.bind, e1, ih]
    rfl
theorem ok_rlT {α : Type} {ck : Str} {mf : List D → M D} {f : α → D} {g : α → Str} {u : PuS} (xs : List α) (h1 : ∀ x ∈ xs, ∃ ks ds, f x = .obj ck ks ds) (h2 : ∀ x ∈ xs, ∀ {P : D → PuS → Prop}, P (.str (g x)) u → Ok (mf [f x]) u P) (hl : (listText (xs.map g)).length ≤ 100000) {P : Str → PuS → Prop} (h : P (listText (xs.map g)) u) : Ok (mRlT ck mf (xs.map f)) u P := by
  unfold mRlT
  refine ⟨_, _, ?_, h⟩
  unfold M.bind
  rw [ok_texts xs h1 h2]
  simp only [if_pos hl]
  rfl
end Mi

set_option Elab.async false
set_option linter.all false
set_option maxRecDepth 100000
set_option maxHeartbeats 4000000
namespace Sh
open PySem PySem.Spec PyProof.Rows L2 Mi He
@[reducible] def mb_is_integer : MS := mRet (mAndV (mCB isiD (mCons (mVar 0) (mCons (mC (.ty "int")) (mNil)))) (mNotV (mCB isiD (mCons (mVar 0) (mCons (mC (.ty "bool")) (mNil))))))
def mf_is_integer : List D → M D := mFn 1 mb_is_integer
@[reducible] def mb_is_natural : MS := mRet (mAndV (mCall 1 mf_is_integer (mCons (mVar 0) (mNil))) (mBin geD (mVar 0) (mC (.int 0))))
def mf_is_natural : List D → M D := mFn 1 mb_is_natural
@[reducible] def lb_wrong_number_1 : MS := mSeq (mIfS (mOr (mNot (mB (mCall 1 mf_is_natural (mCons (mVar 2) (mNil))))) (mOr (mB (mBin eqMD (mVar 2) (mC (.int 0)))) (mB (mBin eqMD (mVar 1) (mC (.int 24)))))) (mRet (mVar 1)) (mNext)) (mIfS (mAnd (mB (mBin gtD (mVar 1) (mC (.int 0)))) (mB (mBin gtD (mVar 2) (mBin ixD (mVar 0) (mBin subD (mVar 1) (mC (.int 1))))))) (mRet (mVar 1)) (mNext))
@[reducible] def mb_wrong_number : MS := mSeq (mFor (mIof enumA (mCons (mVar 0) (mNil))) (mGt 2 (mGcons (mGn 1) (mGcons (mGn 2) (mGnil)))) (lb_wrong_number_1)) (mRet (mC .non))
def mf_wrong_number : List D → M D := mFn 3 mb_wrong_number
@[reducible] def mb_Form___init__ : MS := mSeq (mIfS (mNot (mB (mCB isiD (mCons (mVar 1) (mCons (mC (.ty "tuple")) (mNil)))))) (mStuck) (mNext)) (mSeq (mSet 2 (mCall 1 mf_wrong_number (mCons (mVar 1) (mNil)))) (mSeq (mIfS (mB (mBin isntD (mVar 2) (mC .non))) (mStuck) (mNext)) (mSelfSet 0 "Form" "numbers" (mVar 1))))
def mf_Form___init__ : List D → M (List Str × List D) := mInit 3 "Form" mb_Form___init__
@[reducible] def ce_least_row_1 : ME := mUn negD (mBin fdivD (mBin subD (mVar 2) (mBin ixD (mVar 0) (mVar 6))) (mBin addD (mBin subD (mVar 6) (mVar 3)) (mC (.int 1))))
@[reducible] def lb_least_row_2 : MS := mSeq (mSet 4 (mFz (mBorLs [] (mLcO [6] (mIof rng2 (mCons (mVar 3) (mCons (mCB lenD (mCons (mVar 0) (mNil))) (mNil)))) (mGn 6) (mYes) (ce_least_row_1))))) (mSeq (mSet 5 (mCB maxD (mCons (mVar 4) (mNil)))) (mSeq (mIfS (mB (mBin leD (mVar 5) (mC (.int 0)))) (mBrk) (mNext)) (mSeq (mApp 1 (mVar 5)) (mSet 2 (mBin addD (mVar 2) (mVar 5))))))
@[reducible] def mb_least_row : MS := mSeq (mSetO 1 (mLstO (mNil))) (mSeq (mSet 2 (mC (.int 0))) (mSeq (mFor (mIof rng1 (mCons (mCB lenD (mCons (mVar 0) (mNil))) (mNil))) (mGn 3) (lb_least_row_2)) (mFrz 1 (mRet (mCB tupD (mCons (mVar 1) (mNil)))))))
def mf_least_row : List D → M D := mFn 7 mb_least_row
@[reducible] def mb_Form___len__ : MS := mRet (mCB lenD (mCons (mUn (fldD "Form" ["numbers"] 0) (mVar 0)) (mNil)))
def mf_Form___len__ : List D → M D := mFn 1 mb_Form___len__
@[reducible] def mb_Form_row : MS := mRet (mUn (fldD "Form" ["numbers"] 0) (mVar 0))
def mf_Form_row : List D → M D := mFn 1 mb_Form_row
@[reducible] def mb_Form___eq__ : MS := mRet (mAndV (mCB isiD (mCons (mVar 1) (mCons (mC (.cls "Form")) (mNil)))) (mBin eqMD (mUn (fldD "Form" ["numbers"] 0) (mVar 0)) (mUn (fldD "Form" ["numbers"] 0) (mVar 1))))
def mf_Form___eq__ : List D → M D := mFn 2 mb_Form___eq__
@[reducible] def lb_sums_of_1 : MS := mApp 1 (mBin addD (mIxO 1 (mUn negD (mC (.int 1)))) (mVar 2))
@[reducible] def mb_sums_of : MS := mSeq (mSetO 1 (mLstO (mCons (mC (.int 0)) (mNil)))) (mSeq (mFor (mIany (mVar 0)) (mGn 2) (lb_sums_of_1)) (mFrz 1 (mRet (mVar 1))))
def mf_sums_of : List D → M D := mFn 3 mb_sums_of
end Sh

set_option Elab.async false
set_option linter.all false
set_option maxRecDepth 100000
set_option maxHeartbeats 4000000
namespace S1
open PySem PySem.Spec PyProof.Rows L2 Mi He Sh
@[reducible] def mb__law_draw : MS := mSeq (mPutP 0 (mBin addD (mIxP 0 (mC (.int 2))) (mC (.int 1))) (mC (.int 2))) (mSeq (mIfS (mB (mBin gtD (mIxP 0 (mC (.int 0))) (mC (.int 0)))) (mSeq (mDmP 0 (mC (.int 0)) 2 (mCB dmD (mCons (mIxP 0 (mC (.int 0))) (mCons (mVar 1) (mNil))))) (mRet (mVar 2))) (mNext)) (mSeq (mSet 3 (mBin modD (mCB int1D (mCons (mBin addD (mBin mulD (mIxP 0 (mC (.int 1))) (mC (.int 44017))) (mBin mulD (mC (.int 60013)) (mIxP 0 (mC (.int 2))))) (mNil))) (mC (.int 2147483587)))) (mSeq (mPutP 0 (mBin modD (mCB int1D (mCons (mBin addD (mBin mulD (mVar 3) (mBin addD (mBin modD (mCB int1D (mCons (mVar 3) (mNil))) (mC (.int 20021))) (mC (.int 10007)))) (mBin mulD (mC (.int 977)) (mIxP 0 (mC (.int 2))))) (mNil))) (mC (.int 2147483549))) (mC (.int 1))) (mRet (mBin modD (mCB int1D (mCons (mBin fdivD (mIxP 0 (mC (.int 1))) (mC (.int 64))) (mNil))) (mVar 1))))))
def mf__law_draw : List D → M D := mFn 4 mb__law_draw
@[reducible] def lb__law_large_1 : MS := mSet 1 (mBin addD (mBin mulD (mVar 1) (mBin powD (mC (.int 10)) (mC (.int 6)))) (mCall 2 mf__law_draw (mCons (mVar 0) (mCons (mBin powD (mC (.int 10)) (mC (.int 6))) (mNil)))))
@[reducible] def mb__law_large : MS := mSeq (mSet 1 (mC (.int 0))) (mSeq (mFor (mIof rng1 (mCons (mCall 2 mf__law_draw (mCons (mVar 0) (mCons (mC (.int 6)) (mNil)))) (mNil))) (mGn 2) (lb__law_large_1)) (mRet (mVar 1)))
def mf__law_large : List D → M D := mFn 3 mb__law_large
@[reducible] def lb__law_sums_1 : MS := mApp 2 (mBin addD (mIxO 2 (mUn negD (mC (.int 1)))) (mIf (mB (mBin ltD (mVar 3) (mCB lenD (mCons (mVar 0) (mNil))))) (mBin ixD (mVar 0) (mVar 3)) (mC (.int 0))))
@[reducible] def mb__law_sums : MS := mSeq (mSetO 2 (mLstO (mCons (mC (.int 0)) (mNil)))) (mSeq (mFor (mIof rng1 (mCons (mVar 1) (mNil))) (mGn 3) (lb__law_sums_1)) (mFrz 2 (mRet (mVar 2))))
def mf__law_sums : List D → M D := mFn 4 mb__law_sums
@[reducible] def lb__law_row_1 : MS := mSeq (mApp 2 (mVar 3)) (mSeq (mSet 5 (mCall 2 mf__law_draw (mCons (mVar 0) (mCons (mC (.int 5)) (mNil))))) (mIfS (mB (mBin gtD (mVar 5) (mC (.int 1)))) (mSet 3 (mBin addD (mVar 3) (mIf (mB (mBin ltD (mVar 5) (mC (.int 4)))) (mCall 2 mf__law_draw (mCons (mVar 0) (mCons (mC (.int 8)) (mNil)))) (mCall 1 mf__law_large (mCons (mVar 0) (mNil)))))) (mNext)))
@[reducible] def mb__law_row : MS := mSeq (mPar [2, 3] (mMow (mLstO (mNil)) (mMsh (mBin addD (mC (.int 1)) (mIf (mB (mBin gtD (mCall 2 mf__law_draw (mCons (mVar 0) (mCons (mC (.int 3)) (mNil)))) (mC (.int 0)))) (mCall 2 mf__law_draw (mCons (mVar 0) (mCons (mC (.int 9)) (mNil)))) (mCall 1 mf__law_large (mCons (mVar 0) (mNil))))) (mMnil)))) (mSeq (mFor (mIof rng1 (mCons (mVar 1) (mNil))) (mGn 4) (lb__law_row_1)) (mFrz 2 (mRet (mCB tupD (mCons (mUn revD (mVar 2)) (mNil))))))
def mf__law_row : List D → M D := mFn 6 mb__law_row
@[reducible] def ct__law_below_1 : MT := mB (mBin gtD (mBin ixD (mVar 0) (mVar 2)) (mBin ixD (mVar 1) (mVar 2)))
@[reducible] def mb__law_below : MS := mRet (mBin eqMD (mFz (mLcO [2] (mIof rng1 (mCons (mCB lenD (mCons (mVar 0) (mNil))) (mNil))) (mGn 2) (ct__law_below_1) (mVar 2))) (mFz (mLstO (mNil))))
def mf__law_below : List D → M D := mFn 3 mb__law_below
@[reducible] def mbL__law_purse : MS := mRetL (mLstO (mCons (mIf (mB (mBin geD (mVar 0) (mBin powD (mC (.int 10)) (mC (.int 18))))) (mVar 0) (mC (.int 0))) (mCons (mBin modD (mCB int1D (mCons (mVar 0) (mNil))) (mC (.int 2147483629))) (mCons (mC (.int 0)) (mNil)))))
def mfL__law_purse : List D → M (List D) := mFnL 1 mbL__law_purse
@[reducible] def lb__law_cell_1 : MS := mSet 2 (mBin modD (mCB int1D (mCons (mBin addD (mBin mulD (mVar 2) (mC (.int 30323))) (mVar 3)) (mNil))) (mC (.int 2147483029)))
@[reducible] def mb__law_cell : MS := mSeq (mIfS (mB (mBin ltD (mVar 1) (mCB lenD (mCons (mVar 0) (mNil))))) (mRet (mBin ixD (mVar 0) (mVar 1))) (mNext)) (mSeq (mSet 2 (mBin modD (mCB int1D (mCons (mBin mulD (mBin mulD (mC (.int 41203)) (mBin addD (mVar 1) (mC (.int 3)))) (mBin addD (mVar 1) (mC (.int 11)))) (mNil))) (mC (.int 2147483029)))) (mSeq (mFor (mIany (mSl (mVar 0) (mOn) (mOs (mC (.int 3))))) (mGn 3) (lb__law_cell_1)) (mRet (mVar 2))))
def mf__law_cell : List D → M D := mFn 4 mb__law_cell
end S1

set_option Elab.async false
set_option linter.all false
set_option maxRecDepth 100000
set_option maxHeartbeats 4000000
namespace S1
open PySem PySem.Spec PyProof.Rows L2 Mi He Sh
@[reducible] def ce__law_falling_1 (r : List D → M D) : ME := mBin addD (mTup (mCons (mVar 3) (mNil))) (mVar 4)
@[reducible] def lb__law_falling_2 (r : List D → M D) : MS := mSet 2 (mBin addD (mVar 2) (mFz (mLcO [4] (mIany (mCall 2 r (mCons (mBin subD (mVar 0) (mVar 3)) (mCons (mVar 3) (mNil))))) (mGn 4) (mYes) ((ce__law_falling_1 r)))))
@[reducible] def mb__law_falling (r : List D → M D) : MS := mSeq (mIfS (mB (mBin eqMD (mVar 0) (mC (.int 0)))) (mRet (mFz (mLstO (mCons (mTup (mNil)) (mNil))))) (mNext)) (mSeq (mSet 2 (mFz (mLstO (mNil)))) (mSeq (mFor (mIof rng2 (mCons (mC (.int 1)) (mCons (mBin addD (mCB minD (mCons (mVar 0) (mCons (mVar 1) (mNil)))) (mC (.int 1))) (mNil)))) (mGn 3) ((lb__law_falling_2 r))) (mRet (mVar 2))))
def mfr__law_falling : Nat → List D → M D
  | 0 => fun _ _ => none
  | n + 1 => mFn 5 (mb__law_falling (mfr__law_falling n))
def mf__law_falling : List D → M D := mfr__law_falling 12
@[reducible] def lb__law_small_rows_1 : MS := mSet 1 (mBin addD (mVar 1) (mCall 2 mf__law_falling (mCons (mVar 2) (mCons (mVar 2) (mNil)))))
@[reducible] def mb__law_small_rows : MS := mSeq (mSet 1 (mFz (mLstO (mNil)))) (mSeq (mFor (mIof rng1 (mCons (mBin addD (mVar 0) (mC (.int 1))) (mNil))) (mGn 2) (lb__law_small_rows_1)) (mRet (mVar 1)))
def mf__law_small_rows : List D → M D := mFn 3 mb__law_small_rows
end S1



set_option Elab.async false
set_option linter.all false
set_option maxRecDepth 100000
set_option maxHeartbeats 4000000
namespace Sh
open PySem PySem.Spec PyProof.Rows L2 Mi He
@[reducible] def mb_check_form : MS := mIfS (mNot (mB (mCB isiD (mCons (mVar 0) (mCons (mC (.cls "Form")) (mNil)))))) (mStuck) (mNext)
def mf_check_form : List D → M D := mFn 1 mb_check_form
@[reducible] def mb_number_at : MS := mRet (mIf (mB (mBin ltD (mVar 1) (mCB lenD (mCons (mVar 0) (mNil))))) (mBin ixD (mVar 0) (mVar 1)) (mC (.int 0)))
def mf_number_at : List D → M D := mFn 2 mb_number_at
@[reducible] def ce_sums_for_1 : ME := mCall 2 mf_number_at (mCons (mVar 0) (mCons (mVar 2) (mNil)))
@[reducible] def mb_sums_for : MS := mRet (mCall 1 mf_sums_of (mCons (mFz (mLcO [2] (mIof rng1 (mCons (mVar 1) (mNil))) (mGn 2) (mYes) (ce_sums_for_1))) (mNil)))
def mf_sums_for : List D → M D := mFn 3 mb_sums_for
@[reducible] def mb_both_sums : MS := mSeq (mSet 2 (mCB maxD (mCons (mCB lenD (mCons (mVar 0) (mNil))) (mCons (mCB lenD (mCons (mVar 1) (mNil))) (mNil))))) (mRet (mCB zpL (mCons (mCall 2 mf_sums_for (mCons (mVar 0) (mCons (mVar 2) (mNil)))) (mCons (mCall 2 mf_sums_for (mCons (mVar 1) (mCons (mVar 2) (mNil)))) (mNil)))))
def mf_both_sums : List D → M D := mFn 3 mb_both_sums
end Sh

set_option Elab.async false
set_option linter.all false
set_option maxRecDepth 100000
set_option maxHeartbeats 4000000
namespace Sh
open PySem PySem.Spec PyProof.Rows L2 Mi He
@[reducible] def ce_is_bills_1 : ME := mCall 1 mf_is_natural (mCons (mVar 1) (mNil))
@[reducible] def mb_is_bills : MS := mRet (mAndV (mCB isiD (mCons (mVar 0) (mCons (mC (.ty "tuple")) (mNil)))) (mCB allD (mCons (mFz (mLcO [1] (mIany (mVar 0)) (mGn 1) (mYes) (ce_is_bills_1))) (mNil))))
def mf_is_bills : List D → M D := mFn 2 mb_is_bills
@[reducible] def lb_pays_bills_1 : MS := mSeq (mPar [2, 3] (mMsh (mBin addD (mVar 2) (mVar 5)) (mMsh (mBin addD (mVar 3) (mCall 2 mf_number_at (mCons (mVar 0) (mCons (mVar 4) (mNil))))) (mMnil)))) (mIfS (mB (mBin gtD (mVar 2) (mVar 3))) (mRet (mC (.bl false))) (mNext))
@[reducible] def mb_pays_bills : MS := mSeq (mAsg2 (mC (.int 0)) (mGn 2) (mGn 3)) (mSeq (mFor (mIof enumA (mCons (mFz (mCBO (srtT true) (mCons (mVar 1) (mNil)))) (mNil))) (mGt 2 (mGcons (mGn 4) (mGcons (mGn 5) (mGnil)))) (lb_pays_bills_1)) (mRet (mC (.bl true))))
def mf_pays_bills : List D → M D := mFn 6 mb_pays_bills
@[reducible] def mb_Form___contains__ : MS := mRet (mAndV (mCall 1 mf_is_bills (mCons (mVar 1) (mNil))) (mCall 2 mf_pays_bills (mCons (mUn (fldD "Form" ["numbers"] 0) (mVar 0)) (mCons (mVar 1) (mNil)))))
def mf_Form___contains__ : List D → M D := mFn 2 mb_Form___contains__
end Sh



set_option Elab.async false
set_option linter.all false
set_option maxRecDepth 100000
set_option maxHeartbeats 4000000
namespace Sh
open PySem PySem.Spec PyProof.Rows L2 Mi He
@[reducible] def mb_row_with : MS := mSeq (mSet 1 (mFz (mBorLs [] (mLcO [2, 3] (mIof zipA2 (mCons (mVar 0) (mCons (mSl (mVar 0) (mOs (mC (.int 1))) (mOn)) (mNil)))) (mGt 2 (mGcons (mGn 2) (mGcons (mGn 3) (mGnil)))) (mYes) (mBin subD (mVar 3) (mVar 2)))))) (mRet (mCB tupD (mCons (mFz (mLcO [4] (mIany (mVar 1)) (mGn 4) (mB (mBin gtD (mVar 4) (mC (.int 0)))) (mVar 4))) (mNil))))
def mf_row_with : List D → M D := mFn 5 mb_row_with
@[reducible] def ce_Form___and___1 : ME := mCB minD (mCons (mVar 3) (mCons (mVar 4) (mNil)))
@[reducible] def mb_Form___and__ : MS := mSeq (mDrop (mCall 1 mf_check_form (mCons (mVar 1) (mNil)))) (mSeq (mSet 2 (mCall 2 mf_both_sums (mCons (mUn (fldD "Form" ["numbers"] 0) (mVar 0)) (mCons (mUn (fldD "Form" ["numbers"] 0) (mVar 1)) (mNil))))) (mRet (mMake "Form" 1 mf_Form___init__ (mCons (mCall 1 mf_row_with (mCons (mFz (mLcO [3, 4] (mIany (mVar 2)) (mGt 2 (mGcons (mGn 3) (mGcons (mGn 4) (mGnil)))) (mYes) (ce_Form___and___1))) (mNil))) (mNil)))))
def mf_Form___and__ : List D → M D := mFn 5 mb_Form___and__
@[reducible] def ce_Form___or___1 : ME := mCB maxD (mCons (mVar 3) (mCons (mVar 4) (mNil)))
@[reducible] def mb_Form___or__ : MS := mSeq (mDrop (mCall 1 mf_check_form (mCons (mVar 1) (mNil)))) (mSeq (mSet 2 (mCall 2 mf_both_sums (mCons (mUn (fldD "Form" ["numbers"] 0) (mVar 0)) (mCons (mUn (fldD "Form" ["numbers"] 0) (mVar 1)) (mNil))))) (mRet (mMake "Form" 1 mf_Form___init__ (mCons (mCall 1 mf_least_row (mCons (mFz (mLcO [3, 4] (mIany (mSl (mVar 2) (mOs (mC (.int 1))) (mOn))) (mGt 2 (mGcons (mGn 3) (mGcons (mGn 4) (mGnil)))) (mYes) (ce_Form___or___1))) (mNil))) (mNil)))))
def mf_Form___or__ : List D → M D := mFn 5 mb_Form___or__
end Sh

set_option Elab.async false
set_option linter.all false
set_option maxRecDepth 100000
set_option maxHeartbeats 4000000
/-! MiQh: comprehensions over tuples, str(object) while an error is handled. -/
namespace MiHot
open PySem PySem.Spec PyProof.Rows HotX
section
variable {prog : Program} {w : World} {A : Around} {E : Value → Shared → Prop} {s : Shared}
end
end MiHot
namespace Mi
open PySem PySem.Spec PyProof.Rows L2
variable [TB : Tabl]
section
variable {X : Cx} {a : Addr} {oe : Obj}
end
/-! ### mirrors -/
section
variable {X : Cx} {c : Cf} {a : Addr} {oe : Obj} {elt tg e : Expr} {ifs : List Expr} {scope : Scope} {own : List (Str × Nat)} {pos : Pos} {is : List Nat} {m me : ME} {g : MG} {mt : MT}
end
@[simp] theorem ok_Itup {m : ME} {ρ : Env} {u : PuS} {P : List D → PuS → Prop} : Ok (mItup m ρ) u P ↔ Ok (m ρ) u fun d u1 => ∃ ds, d = .tup ds ∧ P ds u1 := by
  unfold mItup
  rw [ok_bind]
  constructor
  · refine fun h => h.mono fun d u1 z => ?_
    rw [ok_lft] at z
    obtain ⟨ds, e, p⟩ := z
    cases d <;> first | (cases e; exact ⟨_, rfl, p⟩) | cases e
  · refine fun h => h.mono fun d u1 z => ?_
    obtain ⟨ds, rfl, p⟩ := z
    rw [ok_lft]
    exact ⟨_, rfl, p⟩
section
variable {X : Cx} {c : Cf} {k : Nat} {f C a : Addr} {oe : Obj} {fd : FuncData} {ps : List Str} {mf : List D → M D} {ck : Str} {e : Expr} {ma : ME} {pos : Pos}
end
end Mi

set_option Elab.async false
set_option linter.all false
set_option maxRecDepth 100000
set_option maxHeartbeats 4000000
namespace S1
open PySem PySem.Spec PyProof.Rows L2 Mi He Sh
@[reducible] def mb_Form___str__ : MS := mRet (mJoin (mC (.str " ")) (mFz (mLcO [1] (mIany (mUn (fldD "Form" ["numbers"] 0) (mVar 0))) (mGn 1) (mYes) (mCB strID (mCons (mVar 1) (mNil))))))
def mf_Form___str__ : List D → M D := mFn 2 mb_Form___str__
@[reducible] def mb_Form___repr__ : MS := mRet (mFs [mC (.str "Form "), mFmt (mStrO "Form" mf_Form___str__ (mVar 0))])
def mf_Form___repr__ : List D → M D := mFn 1 mb_Form___repr__
end S1

set_option Elab.async false
set_option linter.all false
set_option maxRecDepth 100000
set_option maxHeartbeats 4000000
namespace G18
open PySem PySem.Spec PyProof.Rows L2 Mi He Sh S1
noncomputable section
@[reducible] def ce__law_small_right_1 : ME := mCall 2 mf__law_sums (mCons (mVar 7) (mCons (mC (.int 8)) (mNil)))
@[reducible] def lb__law_small_right_2 : MS := mSeq (mSet 8 (mCall 2 mf__law_sums (mCons (mVar 7) (mCons (mC (.int 8)) (mNil))))) (mSeq (mIfS (mB (mBin neMD (mAndV (mCall 2 mf__law_below (mCons (mVar 8) (mCons (mBin ixD (mVar 6) (mC (.int 0))) (mNil)))) (mCall 2 mf__law_below (mCons (mVar 8) (mCons (mBin ixD (mVar 6) (mC (.int 1))) (mNil))))) (mCall 2 mf__law_below (mCons (mVar 8) (mCons (mBin ixD (mVar 6) (mC (.int 2))) (mNil)))))) (mRet (mC (.bl false))) (mNext)) (mSeq (mIfS (mB (mBin neMD (mAndV (mCall 2 mf__law_below (mCons (mBin ixD (mVar 6) (mC (.int 0))) (mCons (mVar 8) (mNil)))) (mCall 2 mf__law_below (mCons (mBin ixD (mVar 6) (mC (.int 1))) (mCons (mVar 8) (mNil))))) (mCall 2 mf__law_below (mCons (mBin ixD (mVar 6) (mC (.int 3))) (mCons (mVar 8) (mNil)))))) (mRet (mC (.bl false))) (mNext)) (mSeq (mSet 9 (mAndV (mInO "Form" id mf_Form___contains__ (mVar 7) (mMake "Form" 1 mf_Form___init__ (mCons (mVar 2) (mNil)))) (mInO "Form" id mf_Form___contains__ (mVar 7) (mMake "Form" 1 mf_Form___init__ (mCons (mVar 3) (mNil)))))) (mIfS (mAnd (mB (mBin ltD (mBin ixD (mVar 8) (mC (.int 8))) (mC (.int 6)))) (mB (mBin neMD (mInO "Form" id mf_Form___contains__ (mVar 7) (mVar 4)) (mVar 9)))) (mRet (mC (.bl false))) (mNext)))))
@[reducible] def mb__law_small_right : MS := mSeq (mSet 2 (mBin ixD (mVar 1) (mCall 2 mf__law_draw (mCons (mVar 0) (mCons (mCB lenD (mCons (mVar 1) (mNil))) (mNil)))))) (mSeq (mSet 3 (mBin ixD (mVar 1) (mCall 2 mf__law_draw (mCons (mVar 0) (mCons (mCB lenD (mCons (mVar 1) (mNil))) (mNil)))))) (mSeq (mPar [4, 5] (mMsh (mBinOO "Form" mf_Form___and__ (mMake "Form" 1 mf_Form___init__ (mCons (mVar 2) (mNil))) (mMake "Form" 1 mf_Form___init__ (mCons (mVar 3) (mNil)))) (mMsh (mBinOO "Form" mf_Form___or__ (mMake "Form" 1 mf_Form___init__ (mCons (mVar 2) (mNil))) (mMake "Form" 1 mf_Form___init__ (mCons (mVar 3) (mNil)))) (mMnil)))) (mSeq (mSet 6 (mFz (mBorLs [] (mLcO [7] (mIany (mFz (mLstO (mCons (mVar 2) (mCons (mVar 3) (mCons (mSelf "Form" mf_Form_row (mVar 4)) (mCons (mSelf "Form" mf_Form_row (mVar 5)) (mNil)))))))) (mGn 7) (mYes) (ce__law_small_right_1))))) (mSeq (mIfS (mOr (mB (mBin gtD (mLenOb "Form" mf_Form___len__ (mVar 4)) (mC (.int 8)))) (mB (mBin gtD (mLenOb "Form" mf_Form___len__ (mVar 5)) (mC (.int 8))))) (mRet (mC (.bl false))) (mNext)) (mSeq (mIfS (mB (mBin neSD (mRepOL "Form" mf_Form___repr__ (mFz (mLstO (mCons (mVar 4) (mCons (mVar 5) (mNil)))))) (mRepOL "Form" mf_Form___repr__ (mFz (mLstO (mCons (mMake "Form" 1 mf_Form___init__ (mCons (mSelf "Form" mf_Form_row (mVar 4)) (mNil))) (mCons (mMake "Form" 1 mf_Form___init__ (mCons (mSelf "Form" mf_Form_row (mVar 5)) (mNil))) (mNil)))))))) (mRet (mC (.bl false))) (mNext)) (mSeq (mFor (mIany (mVar 1)) (mGn 7) (lb__law_small_right_2)) (mRet (mC (.bl true)))))))))
def mf__law_small_right : List D → M D := mFn 10 mb__law_small_right
@[reducible] def mb__law_bound_anew : MS := mSeq (mSet 4 (mVar 0)) (mSeq (mAugOO 4 "Form" mf_Form___and__ (mVar 1)) (mSeq (mIfS (mB (mNeO "Form" mf_Form___eq__ (mVar 4) (mVar 2))) (mRet (mC (.bl false))) (mNext)) (mSeq (mSet 4 (mVar 0)) (mSeq (mAugOO 4 "Form" mf_Form___or__ (mVar 1)) (mRet (mAndV (mEqO "Form" mf_Form___eq__ (mVar 4) (mVar 3)) (mAndV (mEqO "Form" mf_Form___eq__ (mVar 3) (mBinOO "Form" mf_Form___or__ (mVar 1) (mVar 0))) (mEqO "Form" mf_Form___eq__ (mVar 2) (mBinOO "Form" mf_Form___and__ (mVar 1) (mVar 0))))))))))
def mf__law_bound_anew : List D → M D := mFn 5 mb__law_bound_anew
@[reducible] def ct__law_tight_1 : MT := mB (mBin ltD (mBin addD (mVar 2) (mBin mulD (mBin subD (mVar 5) (mVar 3)) (mBin subD (mBin ixD (mVar 0) (mVar 3)) (mC (.int 1))))) (mBin ixD (mVar 1) (mVar 5)))
@[reducible] def lb__law_tight_2 : MS := mSeq (mSet 4 (mFz (mBorLs [] (mLcO [5] (mIof rng2 (mCons (mBin addD (mVar 3) (mC (.int 1))) (mCons (mCB lenD (mCons (mVar 1) (mNil))) (mNil)))) (mGn 5) (ct__law_tight_1) (mVar 5))))) (mSeq (mIfS (mB (mBin eqMD (mVar 4) (mFz (mLstO (mNil))))) (mRet (mC (.bl false))) (mNext)) (mSet 2 (mBin addD (mVar 2) (mBin ixD (mVar 0) (mVar 3)))))
@[reducible] def mb__law_tight : MS := mSeq (mSet 2 (mC (.int 0))) (mSeq (mFor (mIof rng1 (mCons (mCB lenD (mCons (mVar 0) (mNil))) (mNil))) (mGn 3) (lb__law_tight_2)) (mRet (mC (.bl true))))
def mf__law_tight : List D → M D := mFn 6 mb__law_tight
@[reducible] def ce__law_great_right_1 : ME := mCB minD (mCons (mBin ixD (mVar 7) (mVar 12)) (mCons (mBin ixD (mVar 8) (mVar 12)) (mNil)))
@[reducible] def ce__law_great_right_2 : ME := mCB maxD (mCons (mBin ixD (mVar 7) (mVar 12)) (mCons (mBin ixD (mVar 8) (mVar 12)) (mNil)))
@[reducible] def ct__law_great_right_3 : MT := mB (mBin gtD (mBin ixD (mSelf "Form" mf_Form_row (mVar 6)) (mVar 12)) (mBin ixD (mSelf "Form" mf_Form_row (mVar 6)) (mBin subD (mVar 12) (mC (.int 1)))))
@[reducible] def mb__law_great_right : MS := mSeq (mPar [1, 2] (mMsh (mCall 2 mf__law_row (mCons (mVar 0) (mCons (mCall 2 mf__law_draw (mCons (mVar 0) (mCons (mC (.int 25)) (mNil)))) (mNil)))) (mMsh (mCall 2 mf__law_row (mCons (mVar 0) (mCons (mCall 2 mf__law_draw (mCons (mVar 0) (mCons (mC (.int 25)) (mNil)))) (mNil)))) (mMnil)))) (mSeq (mPar [3, 4] (mMsh (mMake "Form" 1 mf_Form___init__ (mCons (mVar 1) (mNil))) (mMsh (mMake "Form" 1 mf_Form___init__ (mCons (mVar 2) (mNil))) (mMnil)))) (mSeq (mAsg (mTup (mCons (mBinOO "Form" mf_Form___and__ (mVar 3) (mVar 4)) (mCons (mBinOO "Form" mf_Form___or__ (mVar 3) (mVar 4)) (mNil)))) (mGt 2 (mGcons (mGn 5) (mGcons (mGn 6) (mGnil))))) (mSeq (mIfS (mOr (mNot (mB (mCall 4 mf__law_bound_anew (mCons (mVar 3) (mCons (mVar 4) (mCons (mVar 5) (mCons (mVar 6) (mNil)))))))) (mB (mBin neSD (mUn repLD (mFz (mLstO (mCons (mSelf "Form" mf_Form_row (mVar 3)) (mCons (mSelf "Form" mf_Form_row (mVar 4)) (mNil)))))) (mUn repLD (mFz (mLstO (mCons (mVar 1) (mCons (mVar 2) (mNil))))))))) (mRet (mC (.bl false))) (mNext)) (mSeq (mAsg (mTup (mCons (mCall 2 mf__law_sums (mCons (mVar 1) (mCons (mC (.int 24)) (mNil)))) (mCons (mCall 2 mf__law_sums (mCons (mVar 2) (mCons (mC (.int 24)) (mNil)))) (mNil)))) (mGt 2 (mGcons (mGn 7) (mGcons (mGn 8) (mGnil))))) (mSeq (mSet 9 (mFz (mBorLs [] (mLcO [12] (mIof rng1 (mCons (mC (.int 25)) (mNil))) (mGn 12) (mYes) (ce__law_great_right_1))))) (mSeq (mIfS (mOr (mB (mBin gtD (mLenOb "Form" mf_Form___len__ (mVar 5)) (mC (.int 24)))) (mB (mBin neMD (mCall 2 mf__law_sums (mCons (mSelf "Form" mf_Form_row (mVar 5)) (mCons (mC (.int 24)) (mNil)))) (mVar 9)))) (mRet (mC (.bl false))) (mNext)) (mSeq (mSet 10 (mFz (mBorLs [] (mLcO [12] (mIof rng1 (mCons (mC (.int 25)) (mNil))) (mGn 12) (mYes) (ce__law_great_right_2))))) (mSeq (mIfS (mOr (mB (mBin gtD (mLenOb "Form" mf_Form___len__ (mVar 6)) (mC (.int 24)))) (mNot (mB (mCall 2 mf__law_below (mCons (mVar 10) (mCons (mCall 2 mf__law_sums (mCons (mSelf "Form" mf_Form_row (mVar 6)) (mCons (mC (.int 24)) (mNil)))) (mNil))))))) (mRet (mC (.bl false))) (mNext)) (mSeq (mSet 11 (mFz (mBorLs [] (mLcO [12] (mIof rng2 (mCons (mC (.int 1)) (mCons (mLenOb "Form" mf_Form___len__ (mVar 6)) (mNil)))) (mGn 12) (ct__law_great_right_3) (mVar 12))))) (mSeq (mIfS (mOr (mB (mBin neMD (mVar 11) (mFz (mLstO (mNil))))) (mB (mBin neMD (mFz (mLcO [13] (mIany (mSelf "Form" mf_Form_row (mVar 6))) (mGn 13) (mB (mBin ltD (mVar 13) (mC (.int 1)))) (mVar 13))) (mFz (mLstO (mNil)))))) (mRet (mC (.bl false))) (mNext)) (mRet (mCall 2 mf__law_tight (mCons (mSelf "Form" mf_Form_row (mVar 6)) (mCons (mVar 10) (mNil)))))))))))))))
def mf__law_great_right : List D → M D := mFn 14 mb__law_great_right
@[reducible] def mb__law_right : MS := mSeq (mPar [1, 2] (mMsh (mCall 1 mf__law_small_rows (mCons (mC (.int 8)) (mNil))) (mMsh (mCall 2 mf__law_draw (mCons (mVar 0) (mCons (mC (.int 3)) (mNil)))) (mMnil)))) (mSeq (mIfS (mOr (mNot (mB (mCall 2 mf__law_small_right (mCons (mVar 0) (mCons (mVar 1) (mNil)))))) (mNot (mB (mCall 1 mf__law_great_right (mCons (mVar 0) (mNil)))))) (mRet (mC (.bl false))) (mNext)) (mRet (mOrV (mBin gtD (mVar 2) (mC (.int 0))) (mCall 2 mf__law_small_right (mCons (mVar 0) (mCons (mVar 1) (mNil)))))))
def mf__law_right : List D → M D := mFn 3 mb__law_right
@[reducible] def ce_law_1 : ME := mWith mf__law_right (mCallL 1 mfL__law_purse (mCons (mCall 2 mf__law_cell (mCons (mVar 0) (mCons (mVar 1) (mNil)))) (mNil)))
@[reducible] def mb_law : MS := mRet (mCB allD (mCons (mFz (mLcO [1] (mIof rng1 (mCons (mCB maxD (mCons (mC (.int 2)) (mCons (mCB minD (mCons (mCB lenD (mCons (mVar 0) (mNil))) (mCons (mC (.int 3)) (mNil)))) (mNil)))) (mNil))) (mGn 1) (mYes) (ce_law_1))) (mNil)))
def mf_law : List D → M D := mFn 2 mb_law
end
end G18

set_option maxHeartbeats 4000000
namespace G18
open PySem PySem.Spec PyProof.Rows L2 Mi He Sh S1
section
variable [TB : Tabl]
variable {P : Program} {w : World} {K : PySem.W.Frag} {mg : Str → Option Value} {base : Heap}

theorem bi__law_draw {K : PySem.W.Frag} {mg : Str → Option Value} (C : HF fa fn K mg) : Binds K (fdOf K (Pl.ad K (.glob "_law_draw"))) ["_law_purse_here", "_law_many"] [] := (C.fun_ 0 (d := d__law_draw) rfl).bindsN fun _ _ _ _ _ _ us hl => match us, hl with | [_, _], _ => rfl
theorem ok__law_draw (C : HF fa fn K mg) : FO cs P w K mg base 1 (.glob "_law_draw") ["_law_purse_here", "_law_many"] 2 mf__law_draw := by
  have f_divmod := C.free 5 rfl
  have f_int := C.free 6 rfl
  have sc := sc__law_draw
  refine fn_mir (C.fun_ 0 (d := d__law_draw) rfl) sc__law_draw fun cdv A outer s H E p F0 hr => ?_
  exact dBcons (dPutP 0 (dBin op_addA m_add (dIxP 0 (dInt)) (dInt)) (dInt)) (dBcons (dIfS (dTcmp op_gt m_gt (dIxP 0 (dInt)) (dInt) (nomark _)) (dBcons (dDmP 0 2 rfl (dCallB m_dm call_divmodW rfl f_divmod bb_divmod (dCons (dIxP 0 (dInt)) (dCons (dVar 1) (dNil)))) (dInt) sc.nd rfl (by first | exact Or.inl rfl | exact Or.inr rfl)) (dBone (dRet (dVar 2)))) (dBnil)) (dBcons (dSet (i := 3) sc.nd rfl (by first | exact Or.inl rfl | exact Or.inr rfl) (dBin op_mod m_mod (dCallT m_int1 call_int1 rfl f_int bb_int (dCons (dBin op_addA m_add (dBin op_mulA m_mul (dIxP 0 (dInt)) (dInt)) (dBin op_mulA m_mul (dInt) (dIxP 0 (dInt)))) (dNil))) (dInt))) (dBcons (dPutP 0 (dBin op_mod m_mod (dCallT m_int1 call_int1 rfl f_int bb_int (dCons (dBin op_addA m_add (dBin op_mulA m_mul (dVar 3) (dBin op_addA m_add (dBin op_mod m_mod (dCallT m_int1 call_int1 rfl f_int bb_int (dCons (dVar 3) (dNil))) (dInt)) (dInt))) (dBin op_mulA m_mul (dInt) (dIxP 0 (dInt)))) (dNil))) (dInt)) (dInt)) (dBone (dRet (dBin op_mod m_mod (dCallT m_int1 call_int1 rfl f_int bb_int (dCons (dBin op_fdivW m_fdiv (dIxP 0 (dInt)) (dInt)) (dNil))) (dVar 1)))))))
theorem bi__law_falling {K : PySem.W.Frag} {mg : Str → Option Value} (C : HF fa fn K mg) : Binds K (fdOf K (Pl.ad K (.glob "_law_falling"))) ["_law_total", "_law_most"] [] := (C.fun_ 1 (d := d__law_falling) rfl).bindsN fun _ _ _ _ _ _ us hl => match us, hl with | [_, _], _ => rfl
theorem okr__law_falling (C : HF fa fn K mg) : ∀ nn, FO cs P w K mg base (1 + nn) (.glob "_law_falling") ["_law_total", "_law_most"] 2 (mfr__law_falling nn)
  | 0 => fo_none rfl
  | nn + 1 => by
    have f_min := C.free 2 rfl
    have f_range := C.free 4 rfl
    have G__law_falling := okr__law_falling C nn
    have F__law_falling := C.fun_ 1 (d := d__law_falling) rfl
    have B__law_falling := bi__law_falling C
    have g__law_falling := C.glo 8 rfl
    have sc := sc__law_falling
    refine fn_mir (C.fun_ 1 (d := d__law_falling) rfl) sc__law_falling fun cdv A outer s H E p F0 hr => ?_
    exact dBcons (dIfS (dTcmp (op_eqD hr.units) m_eq (dVar 0) (dInt) (nomark _)) (dBone (dRet (dFz (dLstO (dCons (dTup (dNil)) (dNil)))))) (dBnil)) (dBcons (dSet (i := 2) sc.nd rfl (by first | exact Or.inl rfl | exact Or.inr rfl) (dFz (dLstO (dNil)))) (dBcons (dFor PassesOwn.never rfl (dIrng2 rfl f_range (dCons (dInt) (dCons (dBin op_addA m_add (dCallB m_min (cr_minA rfl) rfl f_min bb_min (dCons (dVar 0) (dCons (dVar 1) (dNil)))) (dInt)) (dNil)))) (dGn (i := 3) sc.nd rfl (by first | exact Or.inl rfl | exact Or.inr rfl)) (dBone (dSet (i := 2) sc.nd rfl (by first | exact Or.inl rfl | exact Or.inr rfl) (dBin op_addA m_add (dVar 2) (dFz (dLcO (own := [("_law_rest", 4)]) rfl sc.nd (dIany (dCall G__law_falling (hr.mono (by first | exact Nat.le_refl _ | (show _ ≤ 1 + nn; omega))) rfl g__law_falling F__law_falling.kp B__law_falling (dCons (dBin op_sub m_sub (dVar 0) (dVar 3)) (dCons (dVar 3) (dNil))))) (blkOk_by (by kernel_rfl)) (fun _ _ _ _ _ => dGn (i := 4) sc.nd rfl (by first | exact Or.inl rfl | exact Or.inr rfl)) (fun _ _ _ _ _ => dYes) (fun _ _ _ _ _ => dBin op_addA m_add (dTup (dCons (dVar 3) (dNil))) (dVar 4)))))))) (dBone (dRet (dVar 2)))))
theorem ok__law_falling (C : HF fa fn K mg) : FO cs P w K mg base 13 (.glob "_law_falling") ["_law_total", "_law_most"] 2 mf__law_falling := okr__law_falling C 12
theorem bi__law_small_rows {K : PySem.W.Frag} {mg : Str → Option Value} (C : HF fa fn K mg) : Binds K (fdOf K (Pl.ad K (.glob "_law_small_rows"))) ["_law_most"] [] := (C.fun_ 2 (d := d__law_small_rows) rfl).bindsN fun _ _ _ _ _ _ us hl => match us, hl with | [_], _ => rfl
theorem ok__law_small_rows (C : HF fa fn K mg) : FO cs P w K mg base 14 (.glob "_law_small_rows") ["_law_most"] 1 mf__law_small_rows := by
  have f_range := C.free 4 rfl
  have G__law_falling := ok__law_falling (P := P) (w := w) (base := base) C
  have F__law_falling := C.fun_ 1 (d := d__law_falling) rfl
  have B__law_falling := bi__law_falling C
  have g__law_falling := C.glo 8 rfl
  have sc := sc__law_small_rows
  refine fn_mir (C.fun_ 2 (d := d__law_small_rows) rfl) sc__law_small_rows fun cdv A outer s H E p F0 hr => ?_
  exact dBcons (dSet (i := 1) sc.nd rfl (by first | exact Or.inl rfl | exact Or.inr rfl) (dFz (dLstO (dNil)))) (dBcons (dFor PassesOwn.never rfl (dIrng1 rfl f_range (dCons (dBin op_addA m_add (dVar 0) (dInt)) (dNil))) (dGn (i := 2) sc.nd rfl (by first | exact Or.inl rfl | exact Or.inr rfl)) (dBone (dSet (i := 1) sc.nd rfl (by first | exact Or.inl rfl | exact Or.inr rfl) (dBin op_addA m_add (dVar 1) (dCall G__law_falling (hr.mono (by decide)) rfl g__law_falling F__law_falling.kp B__law_falling (dCons (dVar 2) (dCons (dVar 2) (dNil)))))))) (dBone (dRet (dVar 1))))
theorem bi_check_form {K : PySem.W.Frag} {mg : Str → Option Value} (C : HF fa fn K mg) : Binds K (fdOf K (Pl.ad K (.glob "check_form"))) ["value"] [] := (C.fun_ 3 (d := d_check_form) rfl).bindsN fun _ _ _ _ _ _ us hl => match us, hl with | [_], _ => rfl
theorem ok_check_form (C : HF fa fn K mg) : FO cs P w K mg base 1 (.glob "check_form") ["value"] 1 mf_check_form := by
  have isi := isi_ok (C.fact 0 rfl)
  have g_Form := C.glo 10 rfl
  have f_isinstance := C.free 11 rfl
  have sc := sc_check_form
  refine fn_mir (C.fun_ 3 (d := d_check_form) rfl) sc_check_form fun cdv A outer s H E p F0 hr => ?_
  exact dBone (dIfS (dNotT (dTst (dCallB (m_isi isi) call_isi rfl f_isinstance bb_isinstance (dCons (dVar 0) (dCons (dGC (k := "Form") hc_Form rfl g_Form) (dNil)))))) (dBone (dNever)) (dBnil))
theorem bi_sums_of {K : PySem.W.Frag} {mg : Str → Option Value} (C : HF fa fn K mg) : Binds K (fdOf K (Pl.ad K (.glob "sums_of"))) ["row"] [] := (C.fun_ 4 (d := d_sums_of) rfl).bindsN fun _ _ _ _ _ _ us hl => match us, hl with | [_], _ => rfl
theorem ok_sums_of (C : HF fa fn K mg) : FO cs P w K mg base 1 (.glob "sums_of") ["row"] 1 mf_sums_of := by
  have sc := sc_sums_of
  refine fn_mir (C.fun_ 4 (d := d_sums_of) rfl) sc_sums_of fun cdv A outer s H E p F0 hr => ?_
  exact dBcons (dSetO (i := 1) sc.nd rfl (by first | exact Or.inl rfl | exact Or.inr rfl) (dLstO (dCons (dInt) (dNil)))) (dBcons (dFor PassesOwn.never rfl (dIany (dVar 0)) (dGn (i := 2) sc.nd rfl (by first | exact Or.inl rfl | exact Or.inr rfl)) (dBone (dApp 1 (dBin op_addA m_add (dIxO 1 (dUn un_neg m_neg (dInt))) (dVar 2))))) (dBone (dFrzS 1 (dRet (dVar 1)))))
theorem bi_number_at {K : PySem.W.Frag} {mg : Str → Option Value} (C : HF fa fn K mg) : Binds K (fdOf K (Pl.ad K (.glob "number_at"))) ["row", "index"] [] := (C.fun_ 5 (d := d_number_at) rfl).bindsN fun _ _ _ _ _ _ us hl => match us, hl with | [_, _], _ => rfl
theorem ok_number_at (C : HF fa fn K mg) : FO cs P w K mg base 1 (.glob "number_at") ["row", "index"] 2 mf_number_at := by
  have f_len := C.free 1 rfl
  have sc := sc_number_at
  refine fn_mir (C.fun_ 5 (d := d_number_at) rfl) sc_number_at fun cdv A outer s H E p F0 hr => ?_
  exact dBone (dRet (dIf (dTcmp op_lt m_lt (dVar 1) (dCallB m_len call_lenA rfl f_len bb_len (dCons (dVar 0) (dNil))) (nomark _)) (dIx ix_seq m_ix (dVar 0) (dVar 1)) (dInt)))
theorem bi_sums_for {K : PySem.W.Frag} {mg : Str → Option Value} (C : HF fa fn K mg) : Binds K (fdOf K (Pl.ad K (.glob "sums_for"))) ["row", "days"] [] := (C.fun_ 6 (d := d_sums_for) rfl).bindsN fun _ _ _ _ _ _ us hl => match us, hl with | [_, _], _ => rfl
theorem ok_sums_for (C : HF fa fn K mg) : FO cs P w K mg base 2 (.glob "sums_for") ["row", "days"] 2 mf_sums_for := by
  have G_sums_of := ok_sums_of (P := P) (w := w) (base := base) C
  have F_sums_of := C.fun_ 4 (d := d_sums_of) rfl
  have B_sums_of := bi_sums_of C
  have f_range := C.free 4 rfl
  have G_number_at := ok_number_at (P := P) (w := w) (base := base) C
  have F_number_at := C.fun_ 5 (d := d_number_at) rfl
  have B_number_at := bi_number_at C
  have g_number_at := C.glo 13 rfl
  have g_sums_of := C.glo 14 rfl
  have sc := sc_sums_for
  refine fn_mir (C.fun_ 6 (d := d_sums_for) rfl) sc_sums_for fun cdv A outer s H E p F0 hr => ?_
  exact dBone (dRet (dCall G_sums_of (hr.mono (by decide)) rfl g_sums_of F_sums_of.kp B_sums_of (dCons (dFz (dLcO (own := [("day", 2)]) rfl sc.nd (dIrng1 rfl f_range (dCons (dVar 1) (dNil))) (blkOk_by (by kernel_rfl)) (fun _ _ _ _ _ => dGn (i := 2) sc.nd rfl (by first | exact Or.inl rfl | exact Or.inr rfl)) (fun _ _ _ _ _ => dYes) (fun _ _ _ _ _ => dCall G_number_at (hr.mono (by decide)) rfl g_number_at F_number_at.kp B_number_at (dCons (dVar 0) (dCons (dVar 2) (dNil)))))) (dNil))))
theorem bi_both_sums {K : PySem.W.Frag} {mg : Str → Option Value} (C : HF fa fn K mg) : Binds K (fdOf K (Pl.ad K (.glob "both_sums"))) ["one", "other"] [] := (C.fun_ 7 (d := d_both_sums) rfl).bindsN fun _ _ _ _ _ _ us hl => match us, hl with | [_, _], _ => rfl
theorem ok_both_sums (C : HF fa fn K mg) : FO cs P w K mg base 3 (.glob "both_sums") ["one", "other"] 2 mf_both_sums := by
  have f_len := C.free 1 rfl
  have f_max := C.free 3 rfl
  have G_sums_for := ok_sums_for (P := P) (w := w) (base := base) C
  have F_sums_for := C.fun_ 6 (d := d_sums_for) rfl
  have B_sums_for := bi_sums_for C
  have g_sums_for := C.glo 15 rfl
  have f_list := C.free 16 rfl
  have f_zip := C.free 17 rfl
  have sc := sc_both_sums
  refine fn_mir (C.fun_ 7 (d := d_both_sums) rfl) sc_both_sums fun cdv A outer s H E p F0 hr => ?_
  exact dBcons (dSet (i := 2) sc.nd rfl (by first | exact Or.inl rfl | exact Or.inr rfl) (dCallB m_max (cr_maxA rfl) rfl f_max bb_max (dCons (dCallB m_len call_lenA rfl f_len bb_len (dCons (dVar 0) (dNil))) (dCons (dCallB m_len call_lenA rfl f_len bb_len (dCons (dVar 1) (dNil))) (dNil))))) (dBone (dRet (dLstZip rfl rfl f_list rfl f_zip (dCons (dCall G_sums_for (hr.mono (by decide)) rfl g_sums_for F_sums_for.kp B_sums_for (dCons (dVar 0) (dCons (dVar 2) (dNil)))) (dCons (dCall G_sums_for (hr.mono (by decide)) rfl g_sums_for F_sums_for.kp B_sums_for (dCons (dVar 1) (dCons (dVar 2) (dNil)))) (dNil))))))
theorem bi_is_integer {K : PySem.W.Frag} {mg : Str → Option Value} (C : HF fa fn K mg) : Binds K (fdOf K (Pl.ad K (.glob "is_integer"))) ["value"] [] := (C.fun_ 8 (d := d_is_integer) rfl).bindsN fun _ _ _ _ _ _ us hl => match us, hl with | [_], _ => rfl
theorem ok_is_integer (C : HF fa fn K mg) : FO cs P w K mg base 1 (.glob "is_integer") ["value"] 1 mf_is_integer := by
  have isi := isi_ok (C.fact 0 rfl)
  have f_int := C.free 6 rfl
  have f_isinstance := C.free 11 rfl
  have f_bool := C.free 23 rfl
  have sc := sc_is_integer
  refine fn_mir (C.fun_ 8 (d := d_is_integer) rfl) sc_is_integer fun cdv A outer s H E p F0 hr => ?_
  exact dBone (dRet (dAndV (dCallB (m_isi isi) call_isi rfl f_isinstance bb_isinstance (dCons (dVar 0) (dCons (dTy rfl f_int bb_int) (dNil)))) (dOneV (dNotV (dCallB (m_isi isi) call_isi rfl f_isinstance bb_isinstance (dCons (dVar 0) (dCons (dTy rfl f_bool bb_bool) (dNil))))))))
theorem bi_is_natural {K : PySem.W.Frag} {mg : Str → Option Value} (C : HF fa fn K mg) : Binds K (fdOf K (Pl.ad K (.glob "is_natural"))) ["value"] [] := (C.fun_ 9 (d := d_is_natural) rfl).bindsN fun _ _ _ _ _ _ us hl => match us, hl with | [_], _ => rfl
theorem ok_is_natural (C : HF fa fn K mg) : FO cs P w K mg base 2 (.glob "is_natural") ["value"] 1 mf_is_natural := by
  have G_is_integer := ok_is_integer (P := P) (w := w) (base := base) C
  have F_is_integer := C.fun_ 8 (d := d_is_integer) rfl
  have B_is_integer := bi_is_integer C
  have g_is_integer := C.glo 24 rfl
  have sc := sc_is_natural
  refine fn_mir (C.fun_ 9 (d := d_is_natural) rfl) sc_is_natural fun cdv A outer s H E p F0 hr => ?_
  exact dBone (dRet (dAndV (dCall G_is_integer (hr.mono (by decide)) rfl g_is_integer F_is_integer.kp B_is_integer (dCons (dVar 0) (dNil))) (dOneV (dCmp op_ge m_ge (dVar 0) (dInt) (nomark _)))))
theorem bi_wrong_number {K : PySem.W.Frag} {mg : Str → Option Value} (C : HF fa fn K mg) : Binds K (fdOf K (Pl.ad K (.glob "wrong_number"))) ["row"] [] := (C.fun_ 10 (d := d_wrong_number) rfl).bindsN fun _ _ _ _ _ _ us hl => match us, hl with | [_], _ => rfl
theorem ok_wrong_number (C : HF fa fn K mg) : FO cs P w K mg base 3 (.glob "wrong_number") ["row"] 1 mf_wrong_number := by
  have f_enumerate := C.free 22 rfl
  have G_is_natural := ok_is_natural (P := P) (w := w) (base := base) C
  have F_is_natural := C.fun_ 9 (d := d_is_natural) rfl
  have B_is_natural := bi_is_natural C
  have g_is_natural := C.glo 25 rfl
  obtain ⟨_, k_MOST_DAYS⟩ := C.int 26 rfl
  have sc := sc_wrong_number
  refine fn_mir (C.fun_ 10 (d := d_wrong_number) rfl) sc_wrong_number fun cdv A outer s H E p F0 hr => ?_
  exact dBcons (dFor PassesOwn.never rfl (dIenumA rfl f_enumerate (dCons (dVar 0) (dNil))) (dGt (n := 2) rfl (dGcons (dGn (i := 1) sc.nd rfl (by first | exact Or.inl rfl | exact Or.inr rfl)) (dGcons (dGn (i := 2) sc.nd rfl (by first | exact Or.inl rfl | exact Or.inr rfl)) (dGnil)))) (dBcons (dIfS (PW.pt (dOrT (dNotT (dTst (dCall G_is_natural (hr.mono (by decide)) rfl g_is_natural F_is_natural.kp B_is_natural (dCons (dVar 2) (dNil))))) (dOrT (dTcmp (op_eqD hr.units) m_eq (dVar 2) (dInt) (nomark _)) (dOr1 (dTcmp (op_eqD hr.units) m_eq (dVar 1) (dGI rfl k_MOST_DAYS) (nomark _)))))) (dBone (dRet (dVar 1))) (dBnil)) (dBone (dIfS (PW.pt (dAndT (dTcmp op_gt m_gt (dVar 1) (dInt) (nomark _)) (dAnd1 (dTcmp op_gt m_gt (dVar 2) (dIx ix_seq m_ix (dVar 0) (dBin op_sub m_sub (dVar 1) (dInt))) (nomark _))))) (dBone (dRet (dVar 1))) (dBnil))))) (dBone (dRet (dNon)))
theorem bi_Form___init__ {K : PySem.W.Frag} {mg : Str → Option Value} (C : HF fa fn K mg) : Binds K (fdOf K (Pl.ad K (.meth "Form" "__init__"))) ["self", "row"] [] := (C.fun_ 11 (d := d_Form___init__) rfl).bindsN fun _ _ _ _ _ _ us hl => match us, hl with | [_, _], _ => rfl
theorem ok_Form___init__ (C : HF fa fn K mg) : FnOk P w K mg base CX0 4 (Pl.ad K (.meth "Form" "__init__")) (fdOf K (Pl.ad K (.meth "Form" "__init__"))) ["self", "row"] (spI (WW cs K) "Form" 1 mf_Form___init__) := by
  have isi := isi_ok (C.fact 0 rfl)
  have f_tuple := C.free 21 rfl
  have f_isinstance := C.free 11 rfl
  have G_wrong_number := ok_wrong_number (P := P) (w := w) (base := base) C
  have F_wrong_number := C.fun_ 10 (d := d_wrong_number) rfl
  have B_wrong_number := bi_wrong_number C
  have g_wrong_number := C.glo 27 rfl
  have n_Form_numbers := C.noat 18 rfl
  have c_Form := C.cls 19 rfl
  have sc := sc_Form___init__
  refine fn_init (ck := "Form") (nm := "self") (N := ["row", "wrong"]) (n := 1) (C.fun_ 11 (d := d_Form___init__) rfl) sc_Form___init__ rfl fun cdv A outer s H E p F0 H0 sf hr => ?_
  exact dBcons (dIfS (dNotT (dTst (dCallB (m_isi isi) call_isi rfl f_isinstance bb_isinstance (dCons (dVar 1) (dCons (dTy rfl f_tuple bb_tuple) (dNil)))))) (dBone (dNever)) (dBnil)) (dBcons (dSet (i := 2) sc.nd rfl (by first | exact Or.inl rfl | exact Or.inr rfl) (dCall G_wrong_number (hr.mono (by decide)) rfl g_wrong_number F_wrong_number.kp B_wrong_number (dCons (dVar 1) (dNil)))) (dBcons (dIfS (dTcmp op_isntA m_isnt (dVar 2) (dNon) (nomark _)) (dBone (dNever)) (dBnil)) (dBone (dSelfSet (ck := "Form") 0 c_Form n_Form_numbers (dVar 1)))))
theorem bi_least_row {K : PySem.W.Frag} {mg : Str → Option Value} (C : HF fa fn K mg) : Binds K (fdOf K (Pl.ad K (.glob "least_row"))) ["sums"] [] := (C.fun_ 12 (d := d_least_row) rfl).bindsN fun _ _ _ _ _ _ us hl => match us, hl with | [_], _ => rfl
theorem ok_least_row (C : HF fa fn K mg) : FO cs P w K mg base 1 (.glob "least_row") ["sums"] 1 mf_least_row := by
  have f_len := C.free 1 rfl
  have f_range := C.free 4 rfl
  have f_max := C.free 3 rfl
  have f_tuple := C.free 21 rfl
  have sc := sc_least_row
  refine fn_mir (C.fun_ 12 (d := d_least_row) rfl) sc_least_row fun cdv A outer s H E p F0 hr => ?_
  exact dBcons (dSetO (i := 1) sc.nd rfl (by first | exact Or.inl rfl | exact Or.inr rfl) (dLstO (dNil))) (dBcons (dSet (i := 2) sc.nd rfl (by first | exact Or.inl rfl | exact Or.inr rfl) (dInt)) (dBcons (dFor PassesOwn.never rfl (dIrng1 rfl f_range (dCons (dCallB m_len call_lenA rfl f_len bb_len (dCons (dVar 0) (dNil))) (dNil))) (dGn (i := 3) sc.nd rfl (by first | exact Or.inl rfl | exact Or.inr rfl)) (dBcons (dLcSet 4 [] (own := [("later", 6)]) rfl sc.nd rfl rfl (sw_true rfl rfl rfl (by kernel_rfl)) (dIrng2 rfl f_range (dCons (dVar 3) (dCons (dCallB m_len call_lenA rfl f_len bb_len (dCons (dVar 0) (dNil))) (dNil)))) (blkOk_by (by kernel_rfl)) (fun _ _ _ _ _ => dGn (i := 6) sc.nd rfl (by first | exact Or.inl rfl | exact Or.inr rfl)) (fun _ _ _ _ _ => dYes) (fun _ _ _ _ _ => dUn un_neg m_neg (dBin op_fdivW m_fdiv (dBin op_sub m_sub (dVar 2) (dIx ix_seq m_ix (dVar 0) (dVar 6))) (dBin op_addA m_add (dBin op_sub m_sub (dVar 6) (dVar 3)) (dInt))))) (dBcons (dSet (i := 5) sc.nd rfl (by first | exact Or.inl rfl | exact Or.inr rfl) (dCallB m_max (cr_maxA rfl) rfl f_max bb_max (dCons (dVar 4) (dNil)))) (dBcons (dIfS (dTcmp op_le m_le (dVar 5) (dInt) (nomark _)) (dBone (dBrk)) (dBnil)) (dBcons (dApp 1 (dVar 5)) (dBone (dSet (i := 2) sc.nd rfl (by first | exact Or.inl rfl | exact Or.inr rfl) (dBin op_addA m_add (dVar 2) (dVar 5))))))))) (dBone (dFrzS 1 (dRet (dCallT m_tup call_tuple_of rfl f_tuple bb_tuple (dCons (dVar 1) (dNil))))))))
theorem bi_Form___or__ {K : PySem.W.Frag} {mg : Str → Option Value} (C : HF fa fn K mg) : Binds K (fdOf K (Pl.ad K (.meth "Form" "__or__"))) ["self", "other"] [] := (C.fun_ 13 (d := d_Form___or__) rfl).bindsN fun _ _ _ _ _ _ us hl => match us, hl with | [_, _], _ => rfl
theorem ok_Form___or__ (C : HF fa fn K mg) : FO cs P w K mg base 6 (.meth "Form" "__or__") ["self", "other"] 2 mf_Form___or__ := by
  have G_check_form := ok_check_form (P := P) (w := w) (base := base) C
  have F_check_form := C.fun_ 3 (d := d_check_form) rfl
  have B_check_form := bi_check_form C
  have g_check_form := C.glo 12 rfl
  have G_both_sums := ok_both_sums (P := P) (w := w) (base := base) C
  have F_both_sums := C.fun_ 7 (d := d_both_sums) rfl
  have B_both_sums := bi_both_sums C
  have n_Form_numbers := C.noat 18 rfl
  have c_Form := C.cls 19 rfl
  have g_both_sums := C.glo 20 rfl
  have G_Form___init__ := ok_Form___init__ (P := P) (w := w) (base := base) C
  have F_Form___init__ := C.fun_ 11 (d := d_Form___init__) rfl
  have B_Form___init__ := bi_Form___init__ C
  have m_Form := C.mkr 28 rfl
  have G_least_row := ok_least_row (P := P) (w := w) (base := base) C
  have F_least_row := C.fun_ 12 (d := d_least_row) rfl
  have B_least_row := bi_least_row C
  have f_max := C.free 3 rfl
  have g_least_row := C.glo 29 rfl
  have g_Form := C.glo 10 rfl
  have sc := sc_Form___or__
  refine fn_mir (C.fun_ 13 (d := d_Form___or__) rfl) sc_Form___or__ fun cdv A outer s H E p F0 hr => ?_
  exact dBcons (dExpr (dCall G_check_form (hr.mono (by decide)) rfl g_check_form F_check_form.kp B_check_form (dCons (dVar 1) (dNil)))) (dBcons (dSet (i := 2) sc.nd rfl (by first | exact Or.inl rfl | exact Or.inr rfl) (dCall G_both_sums (hr.mono (by decide)) rfl g_both_sums F_both_sums.kp B_both_sums (dCons (dFld (ck := "Form") (ks := ["numbers"]) 0 rfl (by decide) c_Form n_Form_numbers (dVar 0)) (dCons (dFld (ck := "Form") (ks := ["numbers"]) 0 rfl (by decide) c_Form n_Form_numbers (dVar 1)) (dNil))))) (dBone (dRet (dMake (ck := "Form") hc_Form m_Form G_Form___init__ (hr.mono (by decide)) rfl g_Form B_Form___init__ (dCons (dCall G_least_row (hr.mono (by decide)) rfl g_least_row F_least_row.kp B_least_row (dCons (dFz (dLcO (own := [("mine", 3), ("theirs", 4)]) rfl sc.nd (dIany (dSl (dVar 2) (dOs (dInt)) (dOn))) (blkOk_by (by kernel_rfl)) (fun _ _ _ _ _ => dGt (n := 2) rfl (dGcons (dGn (i := 3) sc.nd rfl (by first | exact Or.inl rfl | exact Or.inr rfl)) (dGcons (dGn (i := 4) sc.nd rfl (by first | exact Or.inl rfl | exact Or.inr rfl)) (dGnil)))) (fun _ _ _ _ _ => dYes) (fun _ _ _ _ _ => dCallB m_max (cr_maxA rfl) rfl f_max bb_max (dCons (dVar 3) (dCons (dVar 4) (dNil)))))) (dNil))) (dNil))))))
theorem bi_row_with {K : PySem.W.Frag} {mg : Str → Option Value} (C : HF fa fn K mg) : Binds K (fdOf K (Pl.ad K (.glob "row_with"))) ["sums"] [] := (C.fun_ 14 (d := d_row_with) rfl).bindsN fun _ _ _ _ _ _ us hl => match us, hl with | [_], _ => rfl
theorem ok_row_with (C : HF fa fn K mg) : FO cs P w K mg base 1 (.glob "row_with") ["sums"] 1 mf_row_with := by
  have f_zip := C.free 17 rfl
  have f_tuple := C.free 21 rfl
  have sc := sc_row_with
  refine fn_mir (C.fun_ 14 (d := d_row_with) rfl) sc_row_with fun cdv A outer s H E p F0 hr => ?_
  exact dBcons (dLcSet 1 [] (own := [("now", 2), ("later", 3)]) rfl sc.nd rfl rfl (sw_true rfl rfl rfl (by kernel_rfl)) (dIzipA rfl f_zip (dCons (dVar 0) (dCons (dSl (dVar 0) (dOs (dInt)) (dOn)) (dNil)))) (blkOk_by (by kernel_rfl)) (fun _ _ _ _ _ => dGt (n := 2) rfl (dGcons (dGn (i := 2) sc.nd rfl (by first | exact Or.inl rfl | exact Or.inr rfl)) (dGcons (dGn (i := 3) sc.nd rfl (by first | exact Or.inl rfl | exact Or.inr rfl)) (dGnil)))) (fun _ _ _ _ _ => dYes) (fun _ _ _ _ _ => dBin op_sub m_sub (dVar 3) (dVar 2))) (dBone (dRet (dCallT m_tup call_tuple_of rfl f_tuple bb_tuple (dCons (dFz (dLcO (own := [("number", 4)]) rfl sc.nd (dIany (dVar 1)) (blkOk_by (by kernel_rfl)) (fun _ _ _ _ _ => dGn (i := 4) sc.nd rfl (by first | exact Or.inl rfl | exact Or.inr rfl)) (fun _ _ _ _ _ => pts_one (dTcmp op_gt m_gt (dVar 4) (dInt) (nomark _))) (fun _ _ _ _ _ => dVar 4))) (dNil)))))
theorem bi_Form___and__ {K : PySem.W.Frag} {mg : Str → Option Value} (C : HF fa fn K mg) : Binds K (fdOf K (Pl.ad K (.meth "Form" "__and__"))) ["self", "other"] [] := (C.fun_ 15 (d := d_Form___and__) rfl).bindsN fun _ _ _ _ _ _ us hl => match us, hl with | [_, _], _ => rfl
theorem ok_Form___and__ (C : HF fa fn K mg) : FO cs P w K mg base 6 (.meth "Form" "__and__") ["self", "other"] 2 mf_Form___and__ := by
  have G_check_form := ok_check_form (P := P) (w := w) (base := base) C
  have F_check_form := C.fun_ 3 (d := d_check_form) rfl
  have B_check_form := bi_check_form C
  have g_check_form := C.glo 12 rfl
  have G_both_sums := ok_both_sums (P := P) (w := w) (base := base) C
  have F_both_sums := C.fun_ 7 (d := d_both_sums) rfl
  have B_both_sums := bi_both_sums C
  have n_Form_numbers := C.noat 18 rfl
  have c_Form := C.cls 19 rfl
  have g_both_sums := C.glo 20 rfl
  have G_Form___init__ := ok_Form___init__ (P := P) (w := w) (base := base) C
  have F_Form___init__ := C.fun_ 11 (d := d_Form___init__) rfl
  have B_Form___init__ := bi_Form___init__ C
  have m_Form := C.mkr 28 rfl
  have G_row_with := ok_row_with (P := P) (w := w) (base := base) C
  have F_row_with := C.fun_ 14 (d := d_row_with) rfl
  have B_row_with := bi_row_with C
  have f_min := C.free 2 rfl
  have g_row_with := C.glo 31 rfl
  have g_Form := C.glo 10 rfl
  have sc := sc_Form___and__
  refine fn_mir (C.fun_ 15 (d := d_Form___and__) rfl) sc_Form___and__ fun cdv A outer s H E p F0 hr => ?_
  exact dBcons (dExpr (dCall G_check_form (hr.mono (by decide)) rfl g_check_form F_check_form.kp B_check_form (dCons (dVar 1) (dNil)))) (dBcons (dSet (i := 2) sc.nd rfl (by first | exact Or.inl rfl | exact Or.inr rfl) (dCall G_both_sums (hr.mono (by decide)) rfl g_both_sums F_both_sums.kp B_both_sums (dCons (dFld (ck := "Form") (ks := ["numbers"]) 0 rfl (by decide) c_Form n_Form_numbers (dVar 0)) (dCons (dFld (ck := "Form") (ks := ["numbers"]) 0 rfl (by decide) c_Form n_Form_numbers (dVar 1)) (dNil))))) (dBone (dRet (dMake (ck := "Form") hc_Form m_Form G_Form___init__ (hr.mono (by decide)) rfl g_Form B_Form___init__ (dCons (dCall G_row_with (hr.mono (by decide)) rfl g_row_with F_row_with.kp B_row_with (dCons (dFz (dLcO (own := [("mine", 3), ("theirs", 4)]) rfl sc.nd (dIany (dVar 2)) (blkOk_by (by kernel_rfl)) (fun _ _ _ _ _ => dGt (n := 2) rfl (dGcons (dGn (i := 3) sc.nd rfl (by first | exact Or.inl rfl | exact Or.inr rfl)) (dGcons (dGn (i := 4) sc.nd rfl (by first | exact Or.inl rfl | exact Or.inr rfl)) (dGnil)))) (fun _ _ _ _ _ => dYes) (fun _ _ _ _ _ => dCallB m_min (cr_minA rfl) rfl f_min bb_min (dCons (dVar 3) (dCons (dVar 4) (dNil)))))) (dNil))) (dNil))))))
theorem bi_Form_row {K : PySem.W.Frag} {mg : Str → Option Value} (C : HF fa fn K mg) : Binds K (fdOf K (Pl.ad K (.prop "Form" "row"))) ["self"] [] := (C.fun_ 16 (d := d_Form_row) rfl).bindsN fun _ _ _ _ _ _ us hl => match us, hl with | [_], _ => rfl
theorem ok_Form_row (C : HF fa fn K mg) : FO cs P w K mg base 1 (.prop "Form" "row") ["self"] 1 mf_Form_row := by
  have n_Form_numbers := C.noat 18 rfl
  have c_Form := C.cls 19 rfl
  have sc := sc_Form_row
  refine fn_mir (C.fun_ 16 (d := d_Form_row) rfl) sc_Form_row fun cdv A outer s H E p F0 hr => ?_
  exact dBone (dRet (dFld (ck := "Form") (ks := ["numbers"]) 0 rfl (by decide) c_Form n_Form_numbers (dVar 0)))
theorem bi__law_sums {K : PySem.W.Frag} {mg : Str → Option Value} (C : HF fa fn K mg) : Binds K (fdOf K (Pl.ad K (.glob "_law_sums"))) ["_law_row_here", "_law_many"] [] := (C.fun_ 17 (d := d__law_sums) rfl).bindsN fun _ _ _ _ _ _ us hl => match us, hl with | [_, _], _ => rfl
theorem ok__law_sums (C : HF fa fn K mg) : FO cs P w K mg base 1 (.glob "_law_sums") ["_law_row_here", "_law_many"] 2 mf__law_sums := by
  have f_range := C.free 4 rfl
  have f_len := C.free 1 rfl
  have sc := sc__law_sums
  refine fn_mir (C.fun_ 17 (d := d__law_sums) rfl) sc__law_sums fun cdv A outer s H E p F0 hr => ?_
  exact dBcons (dSetO (i := 2) sc.nd rfl (by first | exact Or.inl rfl | exact Or.inr rfl) (dLstO (dCons (dInt) (dNil)))) (dBcons (dFor PassesOwn.never rfl (dIrng1 rfl f_range (dCons (dVar 1) (dNil))) (dGn (i := 3) sc.nd rfl (by first | exact Or.inl rfl | exact Or.inr rfl)) (dBone (dApp 2 (dBin op_addA m_add (dIxO 2 (dUn un_neg m_neg (dInt))) (dIf (dTcmp op_lt m_lt (dVar 3) (dCallB m_len call_lenA rfl f_len bb_len (dCons (dVar 0) (dNil))) (nomark _)) (dIx ix_seq m_ix (dVar 0) (dVar 3)) (dInt)))))) (dBone (dFrzS 2 (dRet (dVar 2)))))
theorem bi_Form___len__ {K : PySem.W.Frag} {mg : Str → Option Value} (C : HF fa fn K mg) : Binds K (fdOf K (Pl.ad K (.meth "Form" "__len__"))) ["self"] [] := (C.fun_ 18 (d := d_Form___len__) rfl).bindsN fun _ _ _ _ _ _ us hl => match us, hl with | [_], _ => rfl
theorem ok_Form___len__ (C : HF fa fn K mg) : FO cs P w K mg base 1 (.meth "Form" "__len__") ["self"] 1 mf_Form___len__ := by
  have n_Form_numbers := C.noat 18 rfl
  have c_Form := C.cls 19 rfl
  have f_len := C.free 1 rfl
  have sc := sc_Form___len__
  refine fn_mir (C.fun_ 18 (d := d_Form___len__) rfl) sc_Form___len__ fun cdv A outer s H E p F0 hr => ?_
  exact dBone (dRet (dCallB m_len call_lenA rfl f_len bb_len (dCons (dFld (ck := "Form") (ks := ["numbers"]) 0 rfl (by decide) c_Form n_Form_numbers (dVar 0)) (dNil))))
theorem bi_Form___str__ {K : PySem.W.Frag} {mg : Str → Option Value} (C : HF fa fn K mg) : Binds K (fdOf K (Pl.ad K (.meth "Form" "__str__"))) ["self"] [] := (C.fun_ 19 (d := d_Form___str__) rfl).bindsN fun _ _ _ _ _ _ us hl => match us, hl with | [_], _ => rfl
theorem ok_Form___str__ (C : HF fa fn K mg) : FO cs P w K mg base 1 (.meth "Form" "__str__") ["self"] 1 mf_Form___str__ := by
  have n_Form_numbers := C.noat 18 rfl
  have c_Form := C.cls 19 rfl
  have f_str := C.free 36 rfl
  have sc := sc_Form___str__
  refine fn_mir (C.fun_ 19 (d := d_Form___str__) rfl) sc_Form___str__ fun cdv A outer s H E p F0 hr => ?_
  exact dBone (dRet (dJoin (dStr) (dFz (dLcO (own := [("number", 1)]) rfl sc.nd (dIany (dFld (ck := "Form") (ks := ["numbers"]) 0 rfl (by decide) c_Form n_Form_numbers (dVar 0))) (blkOk_by (by kernel_rfl)) (fun _ _ _ _ _ => dGn (i := 1) sc.nd rfl (by first | exact Or.inl rfl | exact Or.inr rfl)) (fun _ _ _ _ _ => dYes) (fun _ _ _ _ _ => dCallT m_strI call_str_int rfl f_str bb_str (dCons (dVar 1) (dNil)))))))
theorem bi_Form___repr__ {K : PySem.W.Frag} {mg : Str → Option Value} (C : HF fa fn K mg) : Binds K (fdOf K (Pl.ad K (.meth "Form" "__repr__"))) ["self"] [] := (C.fun_ 20 (d := d_Form___repr__) rfl).bindsN fun _ _ _ _ _ _ us hl => match us, hl with | [_], _ => rfl
theorem ok_Form___repr__ (C : HF fa fn K mg) : FO cs P w K mg base 4 (.meth "Form" "__repr__") ["self"] 1 mf_Form___repr__ := by
  have G_Form___str__ := ok_Form___str__ (P := P) (w := w) (base := base) C
  have F_Form___str__ := C.fun_ 19 (d := d_Form___str__) rfl
  have B_Form___str__ := bi_Form___str__ C
  have oS_Form___str__ := own_ok (C.fact 37 rfl)
  have f_str := C.free 36 rfl
  have sc := sc_Form___repr__
  refine fn_mir (C.fun_ 20 (d := d_Form___repr__) rfl) sc_Form___repr__ fun cdv A outer s H E p F0 hr => ?_
  exact dBone (dRet (dFs (DJ.cons (dStr) (DJ.cons (dFmt (dStrO (ck := "Form") G_Form___str__ (hr.mono (by decide)) B_Form___str__ oS_Form___str__ rfl f_str (dVar 0))) (DJ.nil)))))
theorem bi__law_below {K : PySem.W.Frag} {mg : Str → Option Value} (C : HF fa fn K mg) : Binds K (fdOf K (Pl.ad K (.glob "_law_below"))) ["_law_sums_here", "_law_rooms"] [] := (C.fun_ 21 (d := d__law_below) rfl).bindsN fun _ _ _ _ _ _ us hl => match us, hl with | [_, _], _ => rfl
theorem ok__law_below (C : HF fa fn K mg) : FO cs P w K mg base 1 (.glob "_law_below") ["_law_sums_here", "_law_rooms"] 2 mf__law_below := by
  have f_len := C.free 1 rfl
  have f_range := C.free 4 rfl
  have sc := sc__law_below
  refine fn_mir (C.fun_ 21 (d := d__law_below) rfl) sc__law_below fun cdv A outer s H E p F0 hr => ?_
  exact dBone (dRet (dCmp (op_eqD hr.units) m_eq (dFz (dLcO (own := [("_law_k", 2)]) rfl sc.nd (dIrng1 rfl f_range (dCons (dCallB m_len call_lenA rfl f_len bb_len (dCons (dVar 0) (dNil))) (dNil))) (blkOk_by (by kernel_rfl)) (fun _ _ _ _ _ => dGn (i := 2) sc.nd rfl (by first | exact Or.inl rfl | exact Or.inr rfl)) (fun _ _ _ _ _ => pts_one (dTcmp op_gt m_gt (dIx ix_seq m_ix (dVar 0) (dVar 2)) (dIx ix_seq m_ix (dVar 1) (dVar 2)) (nomark _))) (fun _ _ _ _ _ => dVar 2))) (dFz (dLstO (dNil))) (nomark _)))
theorem bi_is_bills {K : PySem.W.Frag} {mg : Str → Option Value} (C : HF fa fn K mg) : Binds K (fdOf K (Pl.ad K (.glob "is_bills"))) ["value"] [] := (C.fun_ 22 (d := d_is_bills) rfl).bindsN fun _ _ _ _ _ _ us hl => match us, hl with | [_], _ => rfl
theorem ok_is_bills (C : HF fa fn K mg) : FO cs P w K mg base 3 (.glob "is_bills") ["value"] 1 mf_is_bills := by
  have isi := isi_ok (C.fact 0 rfl)
  have f_tuple := C.free 21 rfl
  have f_isinstance := C.free 11 rfl
  have G_is_natural := ok_is_natural (P := P) (w := w) (base := base) C
  have F_is_natural := C.fun_ 9 (d := d_is_natural) rfl
  have B_is_natural := bi_is_natural C
  have g_is_natural := C.glo 25 rfl
  have f_all := C.free 41 rfl
  have sc := sc_is_bills
  refine fn_mir (C.fun_ 22 (d := d_is_bills) rfl) sc_is_bills fun cdv A outer s H E p F0 hr => ?_
  exact dBone (dRet (dAndV (dCallB (m_isi isi) call_isi rfl f_isinstance bb_isinstance (dCons (dVar 0) (dCons (dTy rfl f_tuple bb_tuple) (dNil)))) (dOneV (dCallB m_all (cr_all rfl) rfl f_all bb_all (dCons (dFz (dLcO (own := [("bill_here", 1)]) rfl sc.nd (dIany (dVar 0)) (blkOk_by (by kernel_rfl)) (fun _ _ _ _ _ => dGn (i := 1) sc.nd rfl (by first | exact Or.inl rfl | exact Or.inr rfl)) (fun _ _ _ _ _ => dYes) (fun _ _ _ _ _ => dCall G_is_natural (hr.mono (by decide)) rfl g_is_natural F_is_natural.kp B_is_natural (dCons (dVar 1) (dNil))))) (dNil))))))
theorem bi_pays_bills {K : PySem.W.Frag} {mg : Str → Option Value} (C : HF fa fn K mg) : Binds K (fdOf K (Pl.ad K (.glob "pays_bills"))) ["row", "bills"] [] := (C.fun_ 23 (d := d_pays_bills) rfl).bindsN fun _ _ _ _ _ _ us hl => match us, hl with | [_, _], _ => rfl
theorem ok_pays_bills (C : HF fa fn K mg) : FO cs P w K mg base 2 (.glob "pays_bills") ["row", "bills"] 2 mf_pays_bills := by
  have f_sorted := C.free 43 rfl
  have f_enumerate := C.free 22 rfl
  have G_number_at := ok_number_at (P := P) (w := w) (base := base) C
  have F_number_at := C.fun_ 5 (d := d_number_at) rfl
  have B_number_at := bi_number_at C
  have g_number_at := C.glo 13 rfl
  have sc := sc_pays_bills
  refine fn_mir (C.fun_ 23 (d := d_pays_bills) rfl) sc_pays_bills fun cdv A outer s H E p F0 hr => ?_
  exact dBcons (dAsg2 (dInt) (dGn (i := 2) sc.nd rfl (by first | exact Or.inl rfl | exact Or.inr rfl)) (dGn (i := 3) sc.nd rfl (by first | exact Or.inl rfl | exact Or.inr rfl))) (dBcons (dFor PassesOwn.never rfl (dIenumA rfl f_enumerate (dCons (dFz (dSortRT rfl f_sorted (dCons (dVar 1) (dNil)))) (dNil))) (dGt (n := 2) rfl (dGcons (dGn (i := 4) sc.nd rfl (by first | exact Or.inl rfl | exact Or.inr rfl)) (dGcons (dGn (i := 5) sc.nd rfl (by first | exact Or.inl rfl | exact Or.inr rfl)) (dGnil)))) (dBcons (dPar (i := 2) (j := 3) rfl sc.nd rfl rfl (by decide) rfl rfl (dMsh (dBin op_addA m_add (dVar 2) (dVar 5)) (dMsh (dBin op_addA m_add (dVar 3) (dCall G_number_at (hr.mono (by decide)) rfl g_number_at F_number_at.kp B_number_at (dCons (dVar 0) (dCons (dVar 4) (dNil))))) (dMnil)))) (dBone (dIfS (dTcmp op_gt m_gt (dVar 2) (dVar 3) (nomark _)) (dBone (dRet (dBl))) (dBnil))))) (dBone (dRet (dBl))))
theorem bi_Form___contains__ {K : PySem.W.Frag} {mg : Str → Option Value} (C : HF fa fn K mg) : Binds K (fdOf K (Pl.ad K (.meth "Form" "__contains__"))) ["self", "row"] [] := (C.fun_ 24 (d := d_Form___contains__) rfl).bindsN fun _ _ _ _ _ _ us hl => match us, hl with | [_, _], _ => rfl
theorem ok_Form___contains__ (C : HF fa fn K mg) : FO cs P w K mg base 4 (.meth "Form" "__contains__") ["self", "row"] 2 mf_Form___contains__ := by
  have G_is_bills := ok_is_bills (P := P) (w := w) (base := base) C
  have F_is_bills := C.fun_ 22 (d := d_is_bills) rfl
  have B_is_bills := bi_is_bills C
  have g_is_bills := C.glo 42 rfl
  have G_pays_bills := ok_pays_bills (P := P) (w := w) (base := base) C
  have F_pays_bills := C.fun_ 23 (d := d_pays_bills) rfl
  have B_pays_bills := bi_pays_bills C
  have n_Form_numbers := C.noat 18 rfl
  have c_Form := C.cls 19 rfl
  have g_pays_bills := C.glo 44 rfl
  have sc := sc_Form___contains__
  refine fn_mir (C.fun_ 24 (d := d_Form___contains__) rfl) sc_Form___contains__ fun cdv A outer s H E p F0 hr => ?_
  exact dBone (dRet (dAndV (dCall G_is_bills (hr.mono (by decide)) rfl g_is_bills F_is_bills.kp B_is_bills (dCons (dVar 1) (dNil))) (dOneV (dCall G_pays_bills (hr.mono (by decide)) rfl g_pays_bills F_pays_bills.kp B_pays_bills (dCons (dFld (ck := "Form") (ks := ["numbers"]) 0 rfl (by decide) c_Form n_Form_numbers (dVar 0)) (dCons (dVar 1) (dNil)))))))
theorem bi__law_small_right {K : PySem.W.Frag} {mg : Str → Option Value} (C : HF fa fn K mg) : Binds K (fdOf K (Pl.ad K (.glob "_law_small_right"))) ["_law_purse_here", "_law_rows"] [] := (C.fun_ 25 (d := d__law_small_right) rfl).bindsN fun _ _ _ _ _ _ us hl => match us, hl with | [_, _], _ => rfl
theorem ok__law_small_right (C : HF fa fn K mg) : FOG cs P w K mg base 7 (.glob "_law_small_right") ["_law_purse_here", "_law_rows"] 2 mf__law_small_right := by
  have G__law_draw := ok__law_draw (P := P) (w := w) (base := base) C
  have F__law_draw := C.fun_ 0 (d := d__law_draw) rfl
  have B__law_draw := bi__law_draw C
  have f_len := C.free 1 rfl
  have g__law_draw := C.glo 7 rfl
  have G_Form___or__ := ok_Form___or__ (P := P) (w := w) (base := base) C
  have F_Form___or__ := C.fun_ 13 (d := d_Form___or__) rfl
  have B_Form___or__ := bi_Form___or__ C
  have G_Form___init__ := ok_Form___init__ (P := P) (w := w) (base := base) C
  have F_Form___init__ := C.fun_ 11 (d := d_Form___init__) rfl
  have B_Form___init__ := bi_Form___init__ C
  have m_Form := C.mkr 28 rfl
  have g_Form := C.glo 10 rfl
  have oS_Form___or__ := ownS_ok (C.fact 30 rfl)
  have G_Form___and__ := ok_Form___and__ (P := P) (w := w) (base := base) C
  have F_Form___and__ := C.fun_ 15 (d := d_Form___and__) rfl
  have B_Form___and__ := bi_Form___and__ C
  have oS_Form___and__ := ownS_ok (C.fact 32 rfl)
  have G_Form_row := ok_Form_row (P := P) (w := w) (base := base) C
  have F_Form_row := C.fun_ 16 (d := d_Form_row) rfl
  have B_Form_row := bi_Form_row C
  have p_Form_row := prop_ok (C.fact 33 rfl)
  have c_Form := C.cls 19 rfl
  have G__law_sums := ok__law_sums (P := P) (w := w) (base := base) C
  have F__law_sums := C.fun_ 17 (d := d__law_sums) rfl
  have B__law_sums := bi__law_sums C
  have g__law_sums := C.glo 34 rfl
  have G_Form___len__ := ok_Form___len__ (P := P) (w := w) (base := base) C
  have F_Form___len__ := C.fun_ 18 (d := d_Form___len__) rfl
  have B_Form___len__ := bi_Form___len__ C
  have l_Form := len_ok (C.fact 35 rfl)
  have G_Form___repr__ := ok_Form___repr__ (P := P) (w := w) (base := base) C
  have F_Form___repr__ := C.fun_ 20 (d := d_Form___repr__) rfl
  have B_Form___repr__ := bi_Form___repr__ C
  have oR_Form___repr__ := own_ok (C.fact 38 rfl)
  have f_repr := C.free 39 rfl
  have G__law_below := ok__law_below (P := P) (w := w) (base := base) C
  have F__law_below := C.fun_ 21 (d := d__law_below) rfl
  have B__law_below := bi__law_below C
  have g__law_below := C.glo 40 rfl
  have G_Form___contains__ := ok_Form___contains__ (P := P) (w := w) (base := base) C
  have F_Form___contains__ := C.fun_ 24 (d := d_Form___contains__) rfl
  have B_Form___contains__ := bi_Form___contains__ C
  have oC_Form___contains__ := own_ok (C.fact 45 rfl)
  have sc := sc__law_small_right
  refine fn_mirG (C.fun_ 25 (d := d__law_small_right) rfl) sc__law_small_right fun cdv A outer s H E p F0 hgd hr => ?_
  exact dBcons (dSet (i := 2) sc.nd rfl (by first | exact Or.inl rfl | exact Or.inr rfl) (dIx ix_seq m_ix (dVar 1) (dCall G__law_draw (hr.mono (by decide)) rfl g__law_draw F__law_draw.kp B__law_draw (dCons (dVar 0) (dCons (dCallB m_len call_lenA rfl f_len bb_len (dCons (dVar 1) (dNil))) (dNil)))))) (dBcons (dSet (i := 3) sc.nd rfl (by first | exact Or.inl rfl | exact Or.inr rfl) (dIx ix_seq m_ix (dVar 1) (dCall G__law_draw (hr.mono (by decide)) rfl g__law_draw F__law_draw.kp B__law_draw (dCons (dVar 0) (dCons (dCallB m_len call_lenA rfl f_len bb_len (dCons (dVar 1) (dNil))) (dNil)))))) (dBcons (dPar (i := 4) (j := 5) rfl sc.nd rfl rfl (by decide) rfl rfl (dMsh (dBinOO (ck := "Form") (n := "__and__") (by kernel_rfl) G_Form___and__ (hr.mono (by decide)) B_Form___and__ oS_Form___and__ (dMake (ck := "Form") hc_Form m_Form G_Form___init__ (hr.mono (by decide)) rfl g_Form B_Form___init__ (dCons (dVar 2) (dNil))) (dMake (ck := "Form") hc_Form m_Form G_Form___init__ (hr.mono (by decide)) rfl g_Form B_Form___init__ (dCons (dVar 3) (dNil)))) (dMsh (dBinOO (ck := "Form") (n := "__or__") (by kernel_rfl) G_Form___or__ (hr.mono (by decide)) B_Form___or__ oS_Form___or__ (dMake (ck := "Form") hc_Form m_Form G_Form___init__ (hr.mono (by decide)) rfl g_Form B_Form___init__ (dCons (dVar 2) (dNil))) (dMake (ck := "Form") hc_Form m_Form G_Form___init__ (hr.mono (by decide)) rfl g_Form B_Form___init__ (dCons (dVar 3) (dNil)))) (dMnil)))) (dBcons (dLcSet 6 [] (own := [("_law_row_here", 7)]) rfl sc.nd rfl rfl (sw_true rfl rfl rfl (by kernel_rfl)) (dIany (dFz (dLstO (dCons (dVar 2) (dCons (dVar 3) (dCons (dProp (ck := "Form") (dVar 4) c_Form p_Form_row G_Form_row (hr.mono (by decide)) B_Form_row) (dCons (dProp (ck := "Form") (dVar 5) c_Form p_Form_row G_Form_row (hr.mono (by decide)) B_Form_row) (dNil)))))))) (blkOk_by (by kernel_rfl)) (fun _ _ _ _ _ => dGn (i := 7) sc.nd rfl (by first | exact Or.inl rfl | exact Or.inr rfl)) (fun _ _ _ _ _ => dYes) (fun _ _ _ _ _ => dCall G__law_sums (hr.mono (by decide)) rfl g__law_sums F__law_sums.kp B__law_sums (dCons (dVar 7) (dCons (dInt) (dNil))))) (dBcons (dIfS (PW.pt (dOrT (dTcmp op_gt m_gt (dLenOb (x := "len") (ck := "Form") G_Form___len__ (hr.mono (by decide)) B_Form___len__ l_Form.1 l_Form.2 rfl f_len (dVar 4)) (dInt) (nomark _)) (dOr1 (dTcmp op_gt m_gt (dLenOb (x := "len") (ck := "Form") G_Form___len__ (hr.mono (by decide)) B_Form___len__ l_Form.1 l_Form.2 rfl f_len (dVar 5)) (dInt) (nomark _))))) (dBone (dRet (dBl))) (dBnil)) (dBcons (dIfS (dTcmp op_ne m_neS (dRepOL (ck := "Form") hgd G_Form___repr__ (hr.mono (by decide)) B_Form___repr__ oR_Form___repr__ rfl rfl f_repr (dFz (dLstO (dCons (dVar 4) (dCons (dVar 5) (dNil)))))) (dRepOL (ck := "Form") hgd G_Form___repr__ (hr.mono (by decide)) B_Form___repr__ oR_Form___repr__ rfl rfl f_repr (dFz (dLstO (dCons (dMake (ck := "Form") hc_Form m_Form G_Form___init__ (hr.mono (by decide)) rfl g_Form B_Form___init__ (dCons (dProp (ck := "Form") (dVar 4) c_Form p_Form_row G_Form_row (hr.mono (by decide)) B_Form_row) (dNil))) (dCons (dMake (ck := "Form") hc_Form m_Form G_Form___init__ (hr.mono (by decide)) rfl g_Form B_Form___init__ (dCons (dProp (ck := "Form") (dVar 5) c_Form p_Form_row G_Form_row (hr.mono (by decide)) B_Form_row) (dNil))) (dNil)))))) (nomark _)) (dBone (dRet (dBl))) (dBnil)) (dBcons (dFor PassesOwn.never rfl (dIany (dVar 1)) (dGn (i := 7) sc.nd rfl (by first | exact Or.inl rfl | exact Or.inr rfl)) (dBcons (dSet (i := 8) sc.nd rfl (by first | exact Or.inl rfl | exact Or.inr rfl) (dCall G__law_sums (hr.mono (by decide)) rfl g__law_sums F__law_sums.kp B__law_sums (dCons (dVar 7) (dCons (dInt) (dNil))))) (dBcons (dIfS (dTcmp (op_neD hr.units) m_ne (dAndV (dCall G__law_below (hr.mono (by decide)) rfl g__law_below F__law_below.kp B__law_below (dCons (dVar 8) (dCons (dIx ix_seq m_ix (dVar 6) (dInt)) (dNil)))) (dOneV (dCall G__law_below (hr.mono (by decide)) rfl g__law_below F__law_below.kp B__law_below (dCons (dVar 8) (dCons (dIx ix_seq m_ix (dVar 6) (dInt)) (dNil)))))) (dCall G__law_below (hr.mono (by decide)) rfl g__law_below F__law_below.kp B__law_below (dCons (dVar 8) (dCons (dIx ix_seq m_ix (dVar 6) (dInt)) (dNil)))) (nomark _)) (dBone (dRet (dBl))) (dBnil)) (dBcons (dIfS (dTcmp (op_neD hr.units) m_ne (dAndV (dCall G__law_below (hr.mono (by decide)) rfl g__law_below F__law_below.kp B__law_below (dCons (dIx ix_seq m_ix (dVar 6) (dInt)) (dCons (dVar 8) (dNil)))) (dOneV (dCall G__law_below (hr.mono (by decide)) rfl g__law_below F__law_below.kp B__law_below (dCons (dIx ix_seq m_ix (dVar 6) (dInt)) (dCons (dVar 8) (dNil)))))) (dCall G__law_below (hr.mono (by decide)) rfl g__law_below F__law_below.kp B__law_below (dCons (dIx ix_seq m_ix (dVar 6) (dInt)) (dCons (dVar 8) (dNil)))) (nomark _)) (dBone (dRet (dBl))) (dBnil)) (dBcons (dSet (i := 9) sc.nd rfl (by first | exact Or.inl rfl | exact Or.inr rfl) (dAndV (dInO (ck := "Form") G_Form___contains__ (hr.mono (by decide)) B_Form___contains__ oC_Form___contains__ (dVar 7) (dMake (ck := "Form") hc_Form m_Form G_Form___init__ (hr.mono (by decide)) rfl g_Form B_Form___init__ (dCons (dVar 2) (dNil))) rfl) (dOneV (dInO (ck := "Form") G_Form___contains__ (hr.mono (by decide)) B_Form___contains__ oC_Form___contains__ (dVar 7) (dMake (ck := "Form") hc_Form m_Form G_Form___init__ (hr.mono (by decide)) rfl g_Form B_Form___init__ (dCons (dVar 3) (dNil))) rfl)))) (dBone (dIfS (PW.pt (dAndT (dTcmp op_lt m_lt (dIx ix_seq m_ix (dVar 8) (dInt)) (dInt) (nomark _)) (dAnd1 (dTcmp (op_neD hr.units) m_ne (dInO (ck := "Form") G_Form___contains__ (hr.mono (by decide)) B_Form___contains__ oC_Form___contains__ (dVar 7) (dVar 4) rfl) (dVar 9) (nomark _))))) (dBone (dRet (dBl))) (dBnil)))))))) (dBone (dRet (dBl)))))))))
theorem bi__law_large {K : PySem.W.Frag} {mg : Str → Option Value} (C : HF fa fn K mg) : Binds K (fdOf K (Pl.ad K (.glob "_law_large"))) ["_law_purse_here"] [] := (C.fun_ 26 (d := d__law_large) rfl).bindsN fun _ _ _ _ _ _ us hl => match us, hl with | [_], _ => rfl
theorem ok__law_large (C : HF fa fn K mg) : FO cs P w K mg base 2 (.glob "_law_large") ["_law_purse_here"] 1 mf__law_large := by
  have G__law_draw := ok__law_draw (P := P) (w := w) (base := base) C
  have F__law_draw := C.fun_ 0 (d := d__law_draw) rfl
  have B__law_draw := bi__law_draw C
  have g__law_draw := C.glo 7 rfl
  have f_range := C.free 4 rfl
  have sc := sc__law_large
  refine fn_mir (C.fun_ 26 (d := d__law_large) rfl) sc__law_large fun cdv A outer s H E p F0 hr => ?_
  exact dBcons (dSet (i := 1) sc.nd rfl (by first | exact Or.inl rfl | exact Or.inr rfl) (dInt)) (dBcons (dFor PassesOwn.never rfl (dIrng1 rfl f_range (dCons (dCall G__law_draw (hr.mono (by decide)) rfl g__law_draw F__law_draw.kp B__law_draw (dCons (dVar 0) (dCons (dInt) (dNil)))) (dNil))) (dGn (i := 2) sc.nd rfl (by first | exact Or.inl rfl | exact Or.inr rfl)) (dBone (dSet (i := 1) sc.nd rfl (by first | exact Or.inl rfl | exact Or.inr rfl) (dBin op_addA m_add (dBin op_mulA m_mul (dVar 1) (dBin op_pow m_pow (dInt) (dInt))) (dCall G__law_draw (hr.mono (by decide)) rfl g__law_draw F__law_draw.kp B__law_draw (dCons (dVar 0) (dCons (dBin op_pow m_pow (dInt) (dInt)) (dNil)))))))) (dBone (dRet (dVar 1))))
theorem bi__law_row {K : PySem.W.Frag} {mg : Str → Option Value} (C : HF fa fn K mg) : Binds K (fdOf K (Pl.ad K (.glob "_law_row"))) ["_law_purse_here", "_law_many"] [] := (C.fun_ 27 (d := d__law_row) rfl).bindsN fun _ _ _ _ _ _ us hl => match us, hl with | [_, _], _ => rfl
theorem ok__law_row (C : HF fa fn K mg) : FO cs P w K mg base 3 (.glob "_law_row") ["_law_purse_here", "_law_many"] 2 mf__law_row := by
  have G__law_draw := ok__law_draw (P := P) (w := w) (base := base) C
  have F__law_draw := C.fun_ 0 (d := d__law_draw) rfl
  have B__law_draw := bi__law_draw C
  have g__law_draw := C.glo 7 rfl
  have G__law_large := ok__law_large (P := P) (w := w) (base := base) C
  have F__law_large := C.fun_ 26 (d := d__law_large) rfl
  have B__law_large := bi__law_large C
  have g__law_large := C.glo 47 rfl
  have f_range := C.free 4 rfl
  have f_tuple := C.free 21 rfl
  have sc := sc__law_row
  refine fn_mir (C.fun_ 27 (d := d__law_row) rfl) sc__law_row fun cdv A outer s H E p F0 hr => ?_
  exact dBcons (dPar (i := 2) (j := 3) rfl sc.nd rfl rfl (by decide) rfl rfl (dMow (dLstO (dNil)) (dMsh (dBin op_addA m_add (dInt) (dIf (dTcmp op_gt m_gt (dCall G__law_draw (hr.mono (by decide)) rfl g__law_draw F__law_draw.kp B__law_draw (dCons (dVar 0) (dCons (dInt) (dNil)))) (dInt) (nomark _)) (dCall G__law_draw (hr.mono (by decide)) rfl g__law_draw F__law_draw.kp B__law_draw (dCons (dVar 0) (dCons (dInt) (dNil)))) (dCall G__law_large (hr.mono (by decide)) rfl g__law_large F__law_large.kp B__law_large (dCons (dVar 0) (dNil))))) (dMnil)))) (dBcons (dFor PassesOwn.never rfl (dIrng1 rfl f_range (dCons (dVar 1) (dNil))) (dGn (i := 4) sc.nd rfl (by first | exact Or.inl rfl | exact Or.inr rfl)) (dBcons (dApp 2 (dVar 3)) (dBcons (dSet (i := 5) sc.nd rfl (by first | exact Or.inl rfl | exact Or.inr rfl) (dCall G__law_draw (hr.mono (by decide)) rfl g__law_draw F__law_draw.kp B__law_draw (dCons (dVar 0) (dCons (dInt) (dNil))))) (dBone (dIfS (dTcmp op_gt m_gt (dVar 5) (dInt) (nomark _)) (dBone (dSet (i := 3) sc.nd rfl (by first | exact Or.inl rfl | exact Or.inr rfl) (dBin op_addA m_add (dVar 3) (dIf (dTcmp op_lt m_lt (dVar 5) (dInt) (nomark _)) (dCall G__law_draw (hr.mono (by decide)) rfl g__law_draw F__law_draw.kp B__law_draw (dCons (dVar 0) (dCons (dInt) (dNil)))) (dCall G__law_large (hr.mono (by decide)) rfl g__law_large F__law_large.kp B__law_large (dCons (dVar 0) (dNil))))))) (dBnil)))))) (dBone (dFrzS 2 (dRet (dCallT m_tup call_tuple_of rfl f_tuple bb_tuple (dCons (dRevL (dVar 2)) (dNil)))))))
theorem bi_Form___eq__ {K : PySem.W.Frag} {mg : Str → Option Value} (C : HF fa fn K mg) : Binds K (fdOf K (Pl.ad K (.meth "Form" "__eq__"))) ["self", "other"] [] := (C.fun_ 28 (d := d_Form___eq__) rfl).bindsN fun _ _ _ _ _ _ us hl => match us, hl with | [_, _], _ => rfl
theorem ok_Form___eq__ (C : HF fa fn K mg) : FO cs P w K mg base 1 (.meth "Form" "__eq__") ["self", "other"] 2 mf_Form___eq__ := by
  have isi := isi_ok (C.fact 0 rfl)
  have g_Form := C.glo 10 rfl
  have f_isinstance := C.free 11 rfl
  have n_Form_numbers := C.noat 18 rfl
  have c_Form := C.cls 19 rfl
  have sc := sc_Form___eq__
  refine fn_mir (C.fun_ 28 (d := d_Form___eq__) rfl) sc_Form___eq__ fun cdv A outer s H E p F0 hr => ?_
  exact dBone (dRet (dAndV (dCallB (m_isi isi) call_isi rfl f_isinstance bb_isinstance (dCons (dVar 1) (dCons (dGC (k := "Form") hc_Form rfl g_Form) (dNil)))) (dOneV (dCmp (op_eqD hr.units) m_eq (dFld (ck := "Form") (ks := ["numbers"]) 0 rfl (by decide) c_Form n_Form_numbers (dVar 0)) (dFld (ck := "Form") (ks := ["numbers"]) 0 rfl (by decide) c_Form n_Form_numbers (dVar 1)) (nomark _)))))
theorem bi__law_bound_anew {K : PySem.W.Frag} {mg : Str → Option Value} (C : HF fa fn K mg) : Binds K (fdOf K (Pl.ad K (.glob "_law_bound_anew"))) ["_law_first", "_law_mate", "_law_both", "_law_least"] [] := (C.fun_ 29 (d := d__law_bound_anew) rfl).bindsN fun _ _ _ _ _ _ us hl => match us, hl with | [_, _, _, _], _ => rfl
theorem ok__law_bound_anew (C : HF fa fn K mg) : FO cs P w K mg base 7 (.glob "_law_bound_anew") ["_law_first", "_law_mate", "_law_both", "_law_least"] 4 mf__law_bound_anew := by
  have G_Form___and__ := ok_Form___and__ (P := P) (w := w) (base := base) C
  have F_Form___and__ := C.fun_ 15 (d := d_Form___and__) rfl
  have B_Form___and__ := bi_Form___and__ C
  have oN_Form___and__ := ownNS_ok (C.fact 49 rfl)
  have G_Form___eq__ := ok_Form___eq__ (P := P) (w := w) (base := base) C
  have F_Form___eq__ := C.fun_ 28 (d := d_Form___eq__) rfl
  have B_Form___eq__ := bi_Form___eq__ C
  have e_Form := eqc_ok (C.fact 50 rfl)
  have G_Form___or__ := ok_Form___or__ (P := P) (w := w) (base := base) C
  have F_Form___or__ := C.fun_ 13 (d := d_Form___or__) rfl
  have B_Form___or__ := bi_Form___or__ C
  have oN_Form___or__ := ownNS_ok (C.fact 51 rfl)
  have oS_Form___or__ := ownS_ok (C.fact 30 rfl)
  have oS_Form___and__ := ownS_ok (C.fact 32 rfl)
  have sc := sc__law_bound_anew
  refine fn_mir (C.fun_ 29 (d := d__law_bound_anew) rfl) sc__law_bound_anew fun cdv A outer s H E p F0 hr => ?_
  exact dBcons (dSet (i := 4) sc.nd rfl (by first | exact Or.inl rfl | exact Or.inr rfl) (dVar 0)) (dBcons (dAugOO (i := 4) (ck := "Form") (n := "__and__") (ni := "__iand__") (by kernel_rfl) (by kernel_rfl) G_Form___and__ (hr.mono (by decide)) B_Form___and__ oN_Form___and__ sc.nd rfl (by first | exact Or.inl rfl | exact Or.inr rfl) (dVar 1)) (dBcons (dIfS (dTneO (ck := "Form") G_Form___eq__ (hr.mono (by decide)) B_Form___eq__ e_Form (dVar 4) (dVar 2)) (dBone (dRet (dBl))) (dBnil)) (dBcons (dSet (i := 4) sc.nd rfl (by first | exact Or.inl rfl | exact Or.inr rfl) (dVar 0)) (dBcons (dAugOO (i := 4) (ck := "Form") (n := "__or__") (ni := "__ior__") (by kernel_rfl) (by kernel_rfl) G_Form___or__ (hr.mono (by decide)) B_Form___or__ oN_Form___or__ sc.nd rfl (by first | exact Or.inl rfl | exact Or.inr rfl) (dVar 1)) (dBone (dRet (dAndV (dEqO (ck := "Form") G_Form___eq__ (hr.mono (by decide)) B_Form___eq__ e_Form (dVar 4) (dVar 3)) (dAndV (dEqO (ck := "Form") G_Form___eq__ (hr.mono (by decide)) B_Form___eq__ e_Form (dVar 3) (dBinOO (ck := "Form") (n := "__or__") (by kernel_rfl) G_Form___or__ (hr.mono (by decide)) B_Form___or__ oS_Form___or__ (dVar 1) (dVar 0))) (dOneV (dEqO (ck := "Form") G_Form___eq__ (hr.mono (by decide)) B_Form___eq__ e_Form (dVar 2) (dBinOO (ck := "Form") (n := "__and__") (by kernel_rfl) G_Form___and__ (hr.mono (by decide)) B_Form___and__ oS_Form___and__ (dVar 1) (dVar 0))))))))))))
theorem bi__law_tight {K : PySem.W.Frag} {mg : Str → Option Value} (C : HF fa fn K mg) : Binds K (fdOf K (Pl.ad K (.glob "_law_tight"))) ["_law_row_here", "_law_sums_here"] [] := (C.fun_ 30 (d := d__law_tight) rfl).bindsN fun _ _ _ _ _ _ us hl => match us, hl with | [_, _], _ => rfl
theorem ok__law_tight (C : HF fa fn K mg) : FO cs P w K mg base 1 (.glob "_law_tight") ["_law_row_here", "_law_sums_here"] 2 mf__law_tight := by
  have f_len := C.free 1 rfl
  have f_range := C.free 4 rfl
  have sc := sc__law_tight
  refine fn_mir (C.fun_ 30 (d := d__law_tight) rfl) sc__law_tight fun cdv A outer s H E p F0 hr => ?_
  exact dBcons (dSet (i := 2) sc.nd rfl (by first | exact Or.inl rfl | exact Or.inr rfl) (dInt)) (dBcons (dFor PassesOwn.never rfl (dIrng1 rfl f_range (dCons (dCallB m_len call_lenA rfl f_len bb_len (dCons (dVar 0) (dNil))) (dNil))) (dGn (i := 3) sc.nd rfl (by first | exact Or.inl rfl | exact Or.inr rfl)) (dBcons (dLcSet 4 [] (own := [("_law_j", 5)]) rfl sc.nd rfl rfl (sw_true rfl rfl rfl (by kernel_rfl)) (dIrng2 rfl f_range (dCons (dBin op_addA m_add (dVar 3) (dInt)) (dCons (dCallB m_len call_lenA rfl f_len bb_len (dCons (dVar 1) (dNil))) (dNil)))) (blkOk_by (by kernel_rfl)) (fun _ _ _ _ _ => dGn (i := 5) sc.nd rfl (by first | exact Or.inl rfl | exact Or.inr rfl)) (fun _ _ _ _ _ => pts_one (dTcmp op_lt m_lt (dBin op_addA m_add (dVar 2) (dBin op_mulA m_mul (dBin op_sub m_sub (dVar 5) (dVar 3)) (dBin op_sub m_sub (dIx ix_seq m_ix (dVar 0) (dVar 3)) (dInt)))) (dIx ix_seq m_ix (dVar 1) (dVar 5)) (nomark _))) (fun _ _ _ _ _ => dVar 5)) (dBcons (dIfS (dTcmp (op_eqD hr.units) m_eq (dVar 4) (dFz (dLstO (dNil))) (nomark _)) (dBone (dRet (dBl))) (dBnil)) (dBone (dSet (i := 2) sc.nd rfl (by first | exact Or.inl rfl | exact Or.inr rfl) (dBin op_addA m_add (dVar 2) (dIx ix_seq m_ix (dVar 0) (dVar 3)))))))) (dBone (dRet (dBl))))
theorem bi__law_great_right {K : PySem.W.Frag} {mg : Str → Option Value} (C : HF fa fn K mg) : Binds K (fdOf K (Pl.ad K (.glob "_law_great_right"))) ["_law_purse_here"] [] := (C.fun_ 31 (d := d__law_great_right) rfl).bindsN fun _ _ _ _ _ _ us hl => match us, hl with | [_], _ => rfl
theorem ok__law_great_right (C : HF fa fn K mg) : FOG cs P w K mg base 8 (.glob "_law_great_right") ["_law_purse_here"] 1 mf__law_great_right := by
  have G__law_row := ok__law_row (P := P) (w := w) (base := base) C
  have F__law_row := C.fun_ 27 (d := d__law_row) rfl
  have B__law_row := bi__law_row C
  have G__law_draw := ok__law_draw (P := P) (w := w) (base := base) C
  have F__law_draw := C.fun_ 0 (d := d__law_draw) rfl
  have B__law_draw := bi__law_draw C
  have g__law_draw := C.glo 7 rfl
  have g__law_row := C.glo 48 rfl
  have G_Form___init__ := ok_Form___init__ (P := P) (w := w) (base := base) C
  have F_Form___init__ := C.fun_ 11 (d := d_Form___init__) rfl
  have B_Form___init__ := bi_Form___init__ C
  have m_Form := C.mkr 28 rfl
  have g_Form := C.glo 10 rfl
  have G_Form___or__ := ok_Form___or__ (P := P) (w := w) (base := base) C
  have F_Form___or__ := C.fun_ 13 (d := d_Form___or__) rfl
  have B_Form___or__ := bi_Form___or__ C
  have oS_Form___or__ := ownS_ok (C.fact 30 rfl)
  have G_Form___and__ := ok_Form___and__ (P := P) (w := w) (base := base) C
  have F_Form___and__ := C.fun_ 15 (d := d_Form___and__) rfl
  have B_Form___and__ := bi_Form___and__ C
  have oS_Form___and__ := ownS_ok (C.fact 32 rfl)
  have G__law_bound_anew := ok__law_bound_anew (P := P) (w := w) (base := base) C
  have F__law_bound_anew := C.fun_ 29 (d := d__law_bound_anew) rfl
  have B__law_bound_anew := bi__law_bound_anew C
  have g__law_bound_anew := C.glo 52 rfl
  have G_Form_row := ok_Form_row (P := P) (w := w) (base := base) C
  have F_Form_row := C.fun_ 16 (d := d_Form_row) rfl
  have B_Form_row := bi_Form_row C
  have p_Form_row := prop_ok (C.fact 33 rfl)
  have c_Form := C.cls 19 rfl
  have f_repr := C.free 39 rfl
  have G__law_sums := ok__law_sums (P := P) (w := w) (base := base) C
  have F__law_sums := C.fun_ 17 (d := d__law_sums) rfl
  have B__law_sums := bi__law_sums C
  have g__law_sums := C.glo 34 rfl
  have f_range := C.free 4 rfl
  have f_min := C.free 2 rfl
  have G_Form___len__ := ok_Form___len__ (P := P) (w := w) (base := base) C
  have F_Form___len__ := C.fun_ 18 (d := d_Form___len__) rfl
  have B_Form___len__ := bi_Form___len__ C
  have l_Form := len_ok (C.fact 35 rfl)
  have f_len := C.free 1 rfl
  have f_max := C.free 3 rfl
  have G__law_below := ok__law_below (P := P) (w := w) (base := base) C
  have F__law_below := C.fun_ 21 (d := d__law_below) rfl
  have B__law_below := bi__law_below C
  have g__law_below := C.glo 40 rfl
  have G__law_tight := ok__law_tight (P := P) (w := w) (base := base) C
  have F__law_tight := C.fun_ 30 (d := d__law_tight) rfl
  have B__law_tight := bi__law_tight C
  have g__law_tight := C.glo 53 rfl
  have sc := sc__law_great_right
  refine fn_mirG (C.fun_ 31 (d := d__law_great_right) rfl) sc__law_great_right fun cdv A outer s H E p F0 hgd hr => ?_
  exact dBcons (dPar (i := 1) (j := 2) rfl sc.nd rfl rfl (by decide) rfl rfl (dMsh (dCall G__law_row (hr.mono (by decide)) rfl g__law_row F__law_row.kp B__law_row (dCons (dVar 0) (dCons (dCall G__law_draw (hr.mono (by decide)) rfl g__law_draw F__law_draw.kp B__law_draw (dCons (dVar 0) (dCons (dInt) (dNil)))) (dNil)))) (dMsh (dCall G__law_row (hr.mono (by decide)) rfl g__law_row F__law_row.kp B__law_row (dCons (dVar 0) (dCons (dCall G__law_draw (hr.mono (by decide)) rfl g__law_draw F__law_draw.kp B__law_draw (dCons (dVar 0) (dCons (dInt) (dNil)))) (dNil)))) (dMnil)))) (dBcons (dPar (i := 3) (j := 4) rfl sc.nd rfl rfl (by decide) rfl rfl (dMsh (dMake (ck := "Form") hc_Form m_Form G_Form___init__ (hr.mono (by decide)) rfl g_Form B_Form___init__ (dCons (dVar 1) (dNil))) (dMsh (dMake (ck := "Form") hc_Form m_Form G_Form___init__ (hr.mono (by decide)) rfl g_Form B_Form___init__ (dCons (dVar 2) (dNil))) (dMnil)))) (dBcons (dAsg (dTup (dCons (dBinOO (ck := "Form") (n := "__and__") (by kernel_rfl) G_Form___and__ (hr.mono (by decide)) B_Form___and__ oS_Form___and__ (dVar 3) (dVar 4)) (dCons (dBinOO (ck := "Form") (n := "__or__") (by kernel_rfl) G_Form___or__ (hr.mono (by decide)) B_Form___or__ oS_Form___or__ (dVar 3) (dVar 4)) (dNil)))) (dGt (n := 2) rfl (dGcons (dGn (i := 5) sc.nd rfl (by first | exact Or.inl rfl | exact Or.inr rfl)) (dGcons (dGn (i := 6) sc.nd rfl (by first | exact Or.inl rfl | exact Or.inr rfl)) (dGnil))))) (dBcons (dIfS (PW.pt (dOrT (dNotT (dTst (dCall G__law_bound_anew (hr.mono (by decide)) rfl g__law_bound_anew F__law_bound_anew.kp B__law_bound_anew (dCons (dVar 3) (dCons (dVar 4) (dCons (dVar 5) (dCons (dVar 6) (dNil)))))))) (dOr1 (dTcmp op_ne m_neS (dRepL hgd (room65' hr) rfl f_repr (dFz (dLstO (dCons (dProp (ck := "Form") (dVar 3) c_Form p_Form_row G_Form_row (hr.mono (by decide)) B_Form_row) (dCons (dProp (ck := "Form") (dVar 4) c_Form p_Form_row G_Form_row (hr.mono (by decide)) B_Form_row) (dNil)))))) (dRepL hgd (room65' hr) rfl f_repr (dFz (dLstO (dCons (dVar 1) (dCons (dVar 2) (dNil)))))) (nomark _))))) (dBone (dRet (dBl))) (dBnil)) (dBcons (dAsg (dTup (dCons (dCall G__law_sums (hr.mono (by decide)) rfl g__law_sums F__law_sums.kp B__law_sums (dCons (dVar 1) (dCons (dInt) (dNil)))) (dCons (dCall G__law_sums (hr.mono (by decide)) rfl g__law_sums F__law_sums.kp B__law_sums (dCons (dVar 2) (dCons (dInt) (dNil)))) (dNil)))) (dGt (n := 2) rfl (dGcons (dGn (i := 7) sc.nd rfl (by first | exact Or.inl rfl | exact Or.inr rfl)) (dGcons (dGn (i := 8) sc.nd rfl (by first | exact Or.inl rfl | exact Or.inr rfl)) (dGnil))))) (dBcons (dLcSet 9 [] (own := [("_law_k", 12)]) rfl sc.nd rfl rfl (sw_true rfl rfl rfl (by kernel_rfl)) (dIrng1 rfl f_range (dCons (dInt) (dNil))) (blkOk_by (by kernel_rfl)) (fun _ _ _ _ _ => dGn (i := 12) sc.nd rfl (by first | exact Or.inl rfl | exact Or.inr rfl)) (fun _ _ _ _ _ => dYes) (fun _ _ _ _ _ => dCallB m_min (cr_minA rfl) rfl f_min bb_min (dCons (dIx ix_seq m_ix (dVar 7) (dVar 12)) (dCons (dIx ix_seq m_ix (dVar 8) (dVar 12)) (dNil))))) (dBcons (dIfS (PW.pt (dOrT (dTcmp op_gt m_gt (dLenOb (x := "len") (ck := "Form") G_Form___len__ (hr.mono (by decide)) B_Form___len__ l_Form.1 l_Form.2 rfl f_len (dVar 5)) (dInt) (nomark _)) (dOr1 (dTcmp (op_neD hr.units) m_ne (dCall G__law_sums (hr.mono (by decide)) rfl g__law_sums F__law_sums.kp B__law_sums (dCons (dProp (ck := "Form") (dVar 5) c_Form p_Form_row G_Form_row (hr.mono (by decide)) B_Form_row) (dCons (dInt) (dNil)))) (dVar 9) (nomark _))))) (dBone (dRet (dBl))) (dBnil)) (dBcons (dLcSet 10 [] (own := [("_law_k", 12)]) rfl sc.nd rfl rfl (sw_true rfl rfl rfl (by kernel_rfl)) (dIrng1 rfl f_range (dCons (dInt) (dNil))) (blkOk_by (by kernel_rfl)) (fun _ _ _ _ _ => dGn (i := 12) sc.nd rfl (by first | exact Or.inl rfl | exact Or.inr rfl)) (fun _ _ _ _ _ => dYes) (fun _ _ _ _ _ => dCallB m_max (cr_maxA rfl) rfl f_max bb_max (dCons (dIx ix_seq m_ix (dVar 7) (dVar 12)) (dCons (dIx ix_seq m_ix (dVar 8) (dVar 12)) (dNil))))) (dBcons (dIfS (PW.pt (dOrT (dTcmp op_gt m_gt (dLenOb (x := "len") (ck := "Form") G_Form___len__ (hr.mono (by decide)) B_Form___len__ l_Form.1 l_Form.2 rfl f_len (dVar 6)) (dInt) (nomark _)) (dOr1 (dNotT (dTst (dCall G__law_below (hr.mono (by decide)) rfl g__law_below F__law_below.kp B__law_below (dCons (dVar 10) (dCons (dCall G__law_sums (hr.mono (by decide)) rfl g__law_sums F__law_sums.kp B__law_sums (dCons (dProp (ck := "Form") (dVar 6) c_Form p_Form_row G_Form_row (hr.mono (by decide)) B_Form_row) (dCons (dInt) (dNil)))) (dNil))))))))) (dBone (dRet (dBl))) (dBnil)) (dBcons (dLcSet 11 [] (own := [("_law_k", 12)]) rfl sc.nd rfl rfl (sw_true rfl rfl rfl (by kernel_rfl)) (dIrng2 rfl f_range (dCons (dInt) (dCons (dLenOb (x := "len") (ck := "Form") G_Form___len__ (hr.mono (by decide)) B_Form___len__ l_Form.1 l_Form.2 rfl f_len (dVar 6)) (dNil)))) (blkOk_by (by kernel_rfl)) (fun _ _ _ _ _ => dGn (i := 12) sc.nd rfl (by first | exact Or.inl rfl | exact Or.inr rfl)) (fun _ _ _ _ _ => pts_one (dTcmp op_gt m_gt (dIx ix_seq m_ix (dProp (ck := "Form") (dVar 6) c_Form p_Form_row G_Form_row (hr.mono (by decide)) B_Form_row) (dVar 12)) (dIx ix_seq m_ix (dProp (ck := "Form") (dVar 6) c_Form p_Form_row G_Form_row (hr.mono (by decide)) B_Form_row) (dBin op_sub m_sub (dVar 12) (dInt))) (nomark _))) (fun _ _ _ _ _ => dVar 12)) (dBcons (dIfS (PW.pt (dOrT (dTcmp (op_neD hr.units) m_ne (dVar 11) (dFz (dLstO (dNil))) (nomark _)) (dOr1 (dTcmp (op_neD hr.units) m_ne (dFz (dLcO (own := [("_law_number", 13)]) rfl sc.nd (dIany (dProp (ck := "Form") (dVar 6) c_Form p_Form_row G_Form_row (hr.mono (by decide)) B_Form_row)) (blkOk_by (by kernel_rfl)) (fun _ _ _ _ _ => dGn (i := 13) sc.nd rfl (by first | exact Or.inl rfl | exact Or.inr rfl)) (fun _ _ _ _ _ => pts_one (dTcmp op_lt m_lt (dVar 13) (dInt) (nomark _))) (fun _ _ _ _ _ => dVar 13))) (dFz (dLstO (dNil))) (nomark _))))) (dBone (dRet (dBl))) (dBnil)) (dBone (dRet (dCall G__law_tight (hr.mono (by decide)) rfl g__law_tight F__law_tight.kp B__law_tight (dCons (dProp (ck := "Form") (dVar 6) c_Form p_Form_row G_Form_row (hr.mono (by decide)) B_Form_row) (dCons (dVar 10) (dNil))))))))))))))))
theorem bi__law_right {K : PySem.W.Frag} {mg : Str → Option Value} (C : HF fa fn K mg) : Binds K (fdOf K (Pl.ad K (.glob "_law_right"))) ["_law_purse_here"] [] := (C.fun_ 32 (d := d__law_right) rfl).bindsN fun _ _ _ _ _ _ us hl => match us, hl with | [_], _ => rfl
theorem ok__law_right (C : HF fa fn K mg) : FOG cs P w K mg base 15 (.glob "_law_right") ["_law_purse_here"] 1 mf__law_right := by
  have G__law_draw := ok__law_draw (P := P) (w := w) (base := base) C
  have F__law_draw := C.fun_ 0 (d := d__law_draw) rfl
  have B__law_draw := bi__law_draw C
  have g__law_draw := C.glo 7 rfl
  have G__law_small_rows := ok__law_small_rows (P := P) (w := w) (base := base) C
  have F__law_small_rows := C.fun_ 2 (d := d__law_small_rows) rfl
  have B__law_small_rows := bi__law_small_rows C
  have g__law_small_rows := C.glo 9 rfl
  have G__law_small_right := ok__law_small_right (P := P) (w := w) (base := base) C
  have F__law_small_right := C.fun_ 25 (d := d__law_small_right) rfl
  have B__law_small_right := bi__law_small_right C
  have g__law_small_right := C.glo 46 rfl
  have G__law_great_right := ok__law_great_right (P := P) (w := w) (base := base) C
  have F__law_great_right := C.fun_ 31 (d := d__law_great_right) rfl
  have B__law_great_right := bi__law_great_right C
  have g__law_great_right := C.glo 54 rfl
  have sc := sc__law_right
  refine fn_mirG (C.fun_ 32 (d := d__law_right) rfl) sc__law_right fun cdv A outer s H E p F0 hgd hr => ?_
  exact dBcons (dPar (i := 1) (j := 2) rfl sc.nd rfl rfl (by decide) rfl rfl (dMsh (dCall G__law_small_rows (hr.mono (by decide)) rfl g__law_small_rows F__law_small_rows.kp B__law_small_rows (dCons (dInt) (dNil))) (dMsh (dCall G__law_draw (hr.mono (by decide)) rfl g__law_draw F__law_draw.kp B__law_draw (dCons (dVar 0) (dCons (dInt) (dNil)))) (dMnil)))) (dBcons (dIfS (PW.pt (dOrT (dNotT (dTst (dCallG G__law_small_right hgd (hr.mono (by decide)) rfl g__law_small_right F__law_small_right.kp B__law_small_right (dCons (dVar 0) (dCons (dVar 1) (dNil)))))) (dOr1 (dNotT (dTst (dCallG G__law_great_right hgd (hr.mono (by decide)) rfl g__law_great_right F__law_great_right.kp B__law_great_right (dCons (dVar 0) (dNil)))))))) (dBone (dRet (dBl))) (dBnil)) (dBone (dRet (dOrV (dCmp op_gt m_gt (dVar 2) (dInt) (nomark _)) (dOneV (dCallG G__law_small_right hgd (hr.mono (by decide)) rfl g__law_small_right F__law_small_right.kp B__law_small_right (dCons (dVar 0) (dCons (dVar 1) (dNil)))))))))
theorem bi__law_purse {K : PySem.W.Frag} {mg : Str → Option Value} (C : HF fa fn K mg) : Binds K (fdOf K (Pl.ad K (.glob "_law_purse"))) ["_law_cell_here"] [] := (C.fun_ 33 (d := d__law_purse) rfl).bindsN fun _ _ _ _ _ _ us hl => match us, hl with | [_], _ => rfl
theorem okL__law_purse (C : HF fa fn K mg) : FnOk P w K mg base CX0 1 (Pl.ad K (.glob "_law_purse")) (fdOf K (Pl.ad K (.glob "_law_purse"))) ["_law_cell_here"] (spL (WW cs K) 1 mfL__law_purse) := by
  have f_int := C.free 6 rfl
  have sc := sc__law_purse
  refine fn_mirL (C.fun_ 33 (d := d__law_purse) rfl) sc__law_purse fun cdv A outer s H E p F0 hr => ?_
  exact dBone (dRetL (dLstO (dCons (dIf (dTcmp op_ge m_ge (dVar 0) (dBin op_pow m_pow (dInt) (dInt)) (nomark _)) (dVar 0) (dInt)) (dCons (dBin op_mod m_mod (dCallT m_int1 call_int1 rfl f_int bb_int (dCons (dVar 0) (dNil))) (dInt)) (dCons (dInt) (dNil))))))
theorem bi__law_cell {K : PySem.W.Frag} {mg : Str → Option Value} (C : HF fa fn K mg) : Binds K (fdOf K (Pl.ad K (.glob "_law_cell"))) ["_law_cells", "_law_k"] [] := (C.fun_ 34 (d := d__law_cell) rfl).bindsN fun _ _ _ _ _ _ us hl => match us, hl with | [_, _], _ => rfl
theorem ok__law_cell (C : HF fa fn K mg) : FO cs P w K mg base 1 (.glob "_law_cell") ["_law_cells", "_law_k"] 2 mf__law_cell := by
  have f_len := C.free 1 rfl
  have f_int := C.free 6 rfl
  have sc := sc__law_cell
  refine fn_mir (C.fun_ 34 (d := d__law_cell) rfl) sc__law_cell fun cdv A outer s H E p F0 hr => ?_
  exact dBcons (dIfS (dTcmp op_lt m_lt (dVar 1) (dCallB m_len call_lenA rfl f_len bb_len (dCons (dVar 0) (dNil))) (nomark _)) (dBone (dRet (dIx ix_seq m_ix (dVar 0) (dVar 1)))) (dBnil)) (dBcons (dSet (i := 2) sc.nd rfl (by first | exact Or.inl rfl | exact Or.inr rfl) (dBin op_mod m_mod (dCallT m_int1 call_int1 rfl f_int bb_int (dCons (dBin op_mulA m_mul (dBin op_mulA m_mul (dInt) (dBin op_addA m_add (dVar 1) (dInt))) (dBin op_addA m_add (dVar 1) (dInt))) (dNil))) (dInt))) (dBcons (dFor PassesOwn.never rfl (dIany (dSl (dVar 0) (dOn) (dOs (dInt)))) (dGn (i := 3) sc.nd rfl (by first | exact Or.inl rfl | exact Or.inr rfl)) (dBone (dSet (i := 2) sc.nd rfl (by first | exact Or.inl rfl | exact Or.inr rfl) (dBin op_mod m_mod (dCallT m_int1 call_int1 rfl f_int bb_int (dCons (dBin op_addA m_add (dBin op_mulA m_mul (dVar 2) (dInt)) (dVar 3)) (dNil))) (dInt))))) (dBone (dRet (dVar 2)))))
theorem bi_law {K : PySem.W.Frag} {mg : Str → Option Value} (C : HF fa fn K mg) : Binds K (fdOf K (Pl.ad K (.glob "law"))) ["_law_cells"] [] := (C.fun_ 35 (d := d_law) rfl).bindsN fun _ _ _ _ _ _ us hl => match us, hl with | [_], _ => rfl
theorem ok_law (C : HF fa fn K mg) : FOG cs P w K mg base 16 (.glob "law") ["_law_cells"] 1 mf_law := by
  have f_len := C.free 1 rfl
  have f_min := C.free 2 rfl
  have f_max := C.free 3 rfl
  have f_range := C.free 4 rfl
  have G__law_right := ok__law_right (P := P) (w := w) (base := base) C
  have F__law_right := C.fun_ 32 (d := d__law_right) rfl
  have B__law_right := bi__law_right C
  have GL__law_purse := okL__law_purse (P := P) (w := w) (base := base) C
  have F__law_purse := C.fun_ 33 (d := d__law_purse) rfl
  have B__law_purse := bi__law_purse C
  have G__law_cell := ok__law_cell (P := P) (w := w) (base := base) C
  have F__law_cell := C.fun_ 34 (d := d__law_cell) rfl
  have B__law_cell := bi__law_cell C
  have g__law_cell := C.glo 55 rfl
  have g__law_purse := C.glo 56 rfl
  have g__law_right := C.glo 57 rfl
  have f_all := C.free 41 rfl
  have sc := sc_law
  refine fn_mirG (C.fun_ 35 (d := d_law) rfl) sc_law fun cdv A outer s H E p F0 hgd hr => ?_
  exact dBone (dRet (dCallB m_all (cr_all rfl) rfl f_all bb_all (dCons (dFz (dLcO (own := [("_law_k", 1)]) rfl sc.nd (dIrng1 rfl f_range (dCons (dCallB m_max (cr_maxA rfl) rfl f_max bb_max (dCons (dInt) (dCons (dCallB m_min (cr_minA rfl) rfl f_min bb_min (dCons (dCallB m_len call_lenA rfl f_len bb_len (dCons (dVar 0) (dNil))) (dCons (dInt) (dNil)))) (dNil)))) (dNil))) (blkOk_by (by kernel_rfl)) (fun _ _ _ _ _ => dGn (i := 1) sc.nd rfl (by first | exact Or.inl rfl | exact Or.inr rfl)) (fun _ _ _ _ _ => dYes) (fun _ _ _ _ _ => dWithG G__law_right hgd (hr.mono (by decide)) rfl g__law_right F__law_right.kp B__law_right (dCallL GL__law_purse (hr.mono (by decide)) rfl g__law_purse F__law_purse.kp B__law_purse (dCons (dCall G__law_cell (hr.mono (by decide)) rfl g__law_cell F__law_cell.kp B__law_cell (dCons (dVar 0) (dCons (dVar 1) (dNil)))) (dNil)))))) (dNil))))
theorem glaw (C : HF fa fn K mg) : mg "law" = some (.ref (ga K "law")) := C.glo 58 rfl
theorem flaw (C : HF fa fn K mg) : FunP K d_law := C.fun_ 35 rfl
end
end G18

set_option Elab.async false
set_option linter.all false
set_option maxRecDepth 100000
set_option maxHeartbeats 4000000
/-! P20m: the least falling row above given sums, plain. -/
namespace P20
/-- what must still come on a day: the greatest of the rounded-up means -/
def need (total : Int) (i : Nat) (s : Int) : Int := -((total - s) / ((i : Int) + 1))
/-- k is the greatest of the needs -/
def IsMax (k total : Int) (ss : List Int) : Prop := (∃ i s, ss[i]? = some s ∧ k = need total i s) ∧ ∀ i s, ss[i]? = some s → need total i s ≤ k
theorem need_le {total s k : Int} {i : Nat} (h : need total i s ≤ k) : s - total ≤ k * ((i : Int) + 1) := by
  unfold need at h
  have hp : (0 : Int) < (i : Int) + 1 := by omega
  have h1 : -k ≤ (total - s) / ((i : Int) + 1) := by omega
  have h2 : (-k) * ((i : Int) + 1) ≤ total - s := (Int.le_ediv_iff_mul_le hp).mp h1
  rw [Int.neg_mul] at h2
  omega
theorem need_gt {total s k : Int} {i : Nat} (h : k ≤ need total i s) : (k - 1) * ((i : Int) + 1) < s - total := by
  unfold need at h
  have hp : (0 : Int) < (i : Int) + 1 := by omega
  have h1 : (total - s) / ((i : Int) + 1) < -k + 1 := by omega
  have h2 : total - s < (-k + 1) * ((i : Int) + 1) := Int.lt_mul_of_ediv_lt hp h1
  have e : (-k + 1) * ((i : Int) + 1) = -((k - 1) * ((i : Int) + 1)) := by
    rw [← Int.neg_mul]; congr 1; omega
  rw [e] at h2
  omega
/-- the row as it is built, from the sums ss that are left behind a total -/
inductive Least : Int → List Int → List Int → Prop
  | nil (total : Int) : Least total [] []
  | stop {total k : Int} {ss : List Int} (h : IsMax k total ss) (hk : k ≤ 0) : Least total ss []
  | more {total k s : Int} {ss row : List Int} (h : IsMax k total (s :: ss)) (hk : 0 < k) (r : Least (total + k) ss row) : Least total (s :: ss) (k :: row)
theorem Least.len {t : Int} {ss row : List Int} (h : Least t ss row) : row.length ≤ ss.length := by
  induction h with
  | nil => simp
  | stop => simp
  | more _ _ _ ih => simpa using ih
theorem Least.pos {t : Int} {ss row : List Int} (h : Least t ss row) : ∀ x ∈ row, 0 < x := by
  induction h with
  | nil => simp
  | stop => simp
  | more _ hk _ ih =>
    intro x hx
    rcases List.mem_cons.mp hx with rfl | hx
    · exact hk
    · exact ih x hx
/-- the first number behind a day is at most the day's -/
theorem Least.fall {t k s : Int} {ss row : List Int} (hm : IsMax k t (s :: ss)) (hk : 0 < k) (h : Least (t + k) ss row) : ∀ x, row[0]? = some x → x ≤ k := by
  intro x hx
  cases h with
  | nil => cases hx
  | stop => cases hx
  | more h2 hk2 r =>
    simp at hx
    subst hx
    obtain ⟨⟨i, s2, e, rfl⟩, _⟩ := h2
    have h3 := need_le (hm.2 (i + 1) s2 (by simpa using e))
    have h4 := @need_gt (t + k) s2 _ i (Int.le_refl _)
    apply Decidable.byContradiction
    intro hc
    have h5 : k ≤ need (t + k) i s2 - 1 := by omega
    have h6 : k * ((i : Int) + 1) ≤ (need (t + k) i s2 - 1) * ((i : Int) + 1) := Int.mul_le_mul_of_nonneg_right h5 (by omega)
    have h7 : k * (((i + 1 : Nat) : Int) + 1) = k * ((i : Int) + 1) + k := by
      rw [show (((i + 1 : Nat) : Int) + 1) = ((i : Int) + 1) + 1 by omega, Int.mul_add, Int.mul_one]
    rw [h7] at h3
    omega
theorem Least.falls {t : Int} {ss row : List Int} (h : Least t ss row) : ∀ (k : Nat) (x y : Int), row[k]? = some x → row[k + 1]? = some y → y ≤ x := by
  induction h with
  | nil => intro k x y h; cases h
  | stop => intro k x y h; cases h
  | more hm hk r ih =>
    intro k x y hx hy
    cases k with
    | zero =>
      simp at hx hy
      subst hx
      exact Least.fall hm hk r y (by simpa using hy)
    | succ k => exact ih k x y (by simpa using hx) (by simpa using hy)
/-- sum of the first n numbers -/
def sumN (row : List Int) : Nat → Int
  | 0 => 0
  | n + 1 => row.headD 0 + sumN row.tail n
theorem sumN_nil (n : Nat) : sumN [] n = 0 := by
  induction n with
  | zero => rfl
  | succ n ih => show (0 : Int) + sumN [] n = 0; rw [ih]; rfl
theorem Least.cover {t : Int} {ss row : List Int} (h : Least t ss row) : ∀ (n : Nat) (s : Int), ss[n]? = some s → s ≤ t + sumN row (n + 1) := by
  induction h with
  | nil => intro n s h; cases h
  | @stop t k ss h hk =>
    intro n s e
    rw [sumN_nil]
    have h1 := need_le (h.2 n s e)
    have h2 : k * ((n : Int) + 1) ≤ 0 := by
      have := Int.mul_le_mul_of_nonneg_right hk (show (0 : Int) ≤ (n : Int) + 1 by omega)
      rw [Int.zero_mul] at this
      exact this
    omega
  | @more t k s0 ss row h hk r ih =>
    intro n s e
    cases n with
    | zero =>
      simp at e
      subst e
      have h1 := need_le (h.2 0 s0 rfl)
      show s0 ≤ t + (k + 0)
      have h2 : k * (((0 : Nat) : Int) + 1) = k := by simp
      rw [h2] at h1
      omega
    | succ n =>
      have h1 := ih n s (by simpa using e)
      show s ≤ t + (k + sumN row (n + 1))
      omega
theorem Least.tight {t : Int} {ss row : List Int} (h : Least t ss row) : ∀ (k : Nat) (x : Int), row[k]? = some x → ∃ (i : Nat) (s : Int), ss[k + i]? = some s ∧ t + sumN row k + ((i : Int) + 1) * (x - 1) < s := by
  induction h with
  | nil => intro k x h; cases h
  | stop => intro k x h; cases h
  | @more t m s0 ss row h hk r ih =>
    intro k x e
    cases k with
    | zero =>
      simp at e
      subst e
      obtain ⟨⟨i, s, e1, e2⟩, _⟩ := h
      have h2 := @need_gt t s m i (by omega)
      rw [Int.mul_comm] at h2
      refine ⟨i, s, by simpa using e1, ?_⟩
      show t + 0 + _ < s
      omega
    | succ k =>
      obtain ⟨i, s, e1, h1⟩ := ih k x (by simpa using e)
      refine ⟨i, s, by rw [show k + 1 + i = (k + i) + 1 by omega]; simpa using e1, ?_⟩
      show t + (m + sumN row k) + _ < s
      omega
/-- the least row is one only -/
theorem IsMax.uniq {a b t : Int} {ss : List Int} (h : IsMax a t ss) (k : IsMax b t ss) : a = b := by
  obtain ⟨⟨i, s, e, rfl⟩, h2⟩ := h
  obtain ⟨⟨j, s', e', rfl⟩, k2⟩ := k
  have := h2 _ _ e'
  have := k2 _ _ e
  omega
theorem Least.uniq {t : Int} {ss row row' : List Int} (h : Least t ss row) (k : Least t ss row') : row = row' := by
  induction h generalizing row' with
  | nil =>
    cases k with
    | nil => rfl
    | stop => rfl
  | stop h hk =>
    cases k with
    | nil => rfl
    | stop => rfl
    | more h2 hk2 r => have := h.uniq h2; omega
  | more h hk r ih =>
    cases k with
    | stop h2 hk2 => have := h.uniq h2; omega
    | more h2 hk2 r2 =>
      have := h.uniq h2
      subst this
      rw [ih r2]
/-- a falling row of numbers above 0 is the least one above its own sums -/
def Falls (row : List Int) : Prop := (∀ x ∈ row, 0 < x) ∧ ∀ (k : Nat) (x y : Int), row[k]? = some x → row[k + 1]? = some y → y ≤ x
theorem Falls.tail {x : Int} {row : List Int} (h : Falls (x :: row)) : Falls row := ⟨fun y hy => h.1 y (List.mem_cons_of_mem _ hy), fun k a b e1 e2 => h.2 (k + 1) a b (by simpa using e1) (by simpa using e2)⟩
theorem Falls.all_le {x : Int} {row : List Int} (h : Falls (x :: row)) : ∀ (k : Nat) (y : Int), row[k]? = some y → y ≤ x
  | 0, y, e => h.2 0 x y rfl (by simpa using e)
  | k + 1, y, e => by
    have hk : k < row.length := by have := (List.getElem?_eq_some_iff.mp e).1; omega
    have e1 : row[k]? = some row[k] := List.getElem?_eq_getElem hk
    have h1 := h.2 (k + 1) row[k] y (by simpa using e1) (by simpa using e)
    have h2 := Falls.all_le h k _ e1
    omega
def sumsFrom (t : Int) : List Int → List Int
  | [] => []
  | x :: row => (t + x) :: sumsFrom (t + x) row
end P20

set_option Elab.async false
set_option linter.all false
set_option maxRecDepth 100000
set_option maxHeartbeats 4000000
namespace Sh
open PySem L2 Mi P20
@[simp] theorem isint_ok {n : Int} {u : PuS} {P : D → PuS → Prop} : Ok (mf_is_integer [.int n]) u P ↔ P (.bl true) u := ok_of rfl
@[simp] theorem isnat_ok {n : Int} {u : PuS} {P : D → PuS → Prop} : Ok (mf_is_natural [.int n]) u P ↔ P (.bl (decide (0 ≤ n))) u := by
  unfold mf_is_natural mb_is_natural
  simp
theorem getI {ns : List Int} {k : Nat} {x : Int} (h : ns[k]? = some x) : atI (ns.map D.int) (k : Int) = some (.int x) := at_nat (by rw [List.getElem?_map, h]; rfl)
/-- a row as forms have it -/
def Good (row : List Int) : Prop := Falls row ∧ row.length ≤ 24
theorem wrong_ok {row : List Int} (h : Good row) {u : PuS} {P : D → PuS → Prop} (hp : P .non u) : Ok (mf_wrong_number [.tup (row.map D.int)]) u P := by
  unfold mf_wrong_number mb_wrong_number
  simp
  refine ok_list (enumD (row.map D.int)) (fun k ρ u' => u' = u ∧ ∃ t w, ρ = [.sh (.tup (row.map D.int)), t, w]) ?_ ?_ _ _ ⟨rfl, _, _, rfl⟩
  · rintro k d ρ u' e ⟨rfl, t, w, rfl⟩
    obtain ⟨x, ex, rfl⟩ := enumD_ints e
    have hk : k < row.length := (List.getElem?_eq_some_iff.mp ex).1
    have hx : 0 < x := h.1.1 x (List.mem_of_getElem? ex)
    have h24 := h.2
    unfold lb_wrong_number_1
    have h1 : ¬ (k : Int) = 24 := by omega
    have h2 : ¬ x = 0 := by omega
    have h3 : 0 ≤ x := by omega
    by_cases h0 : 0 < k
    · obtain ⟨j, rfl⟩ : ∃ j, k = j + 1 := ⟨k - 1, by omega⟩
      have ej : row[j]? = some row[j] := List.getElem?_eq_getElem (by omega)
      have hle := h.1.2 j _ _ ej ex
      have e1 : atI (row.map D.int) (((j + 1 : Nat) : Int) - 1) = some (.int row[j]) := by
        rw [show (((j + 1 : Nat) : Int) - 1) = (j : Int) by omega]
        exact getI ej
      have h5 : ¬ row[j] < x := by omega
      simp at h1 e1
      simp [h1, h2, h3, h0, e1, h5]
    · have h0' : k = 0 := by omega
      subst h0'
      simp [h2, h3]
  · rintro ρ u' ⟨rfl, t, w, rfl⟩
    simpa using hp
theorem init_ok {row : List Int} (h : Good row) {u : PuS} {P : List Str × List D → PuS → Prop} (hp : P (["numbers"], [.tup (row.map D.int)]) u) : Ok (mf_Form___init__ [.tup (row.map D.int)]) u P := by
  unfold mf_Form___init__ mb_Form___init__
  have e : isiD [.tup (row.map D.int), .ty "tuple"] = some (.bl true) := rfl
  simp [startI, e]
  refine wrong_ok h ?_
  have e2 : isntD .non .non = some (.bl false) := rfl
  simp [e2]
  exact ⟨[], [], ⟨rfl, rfl⟩, by simp, by decide, hp⟩
/-- the needs of the days behind k -/
def nd (ns : List Int) (k : Nat) (t : Int) (i : Nat) : Int := need t i ((ns.drop k).getD i 0)
/-- the least row of these sums -/
theorem least_row_any {d : D} {ns : List Int} (e_len : lenD [d] = some (.int ns.length)) (e_ix : ∀ i : Int, ixD d (.int i) = atI (ns.map D.int) i) (hl : ns.length ≤ 24) {u : PuS} {P : D → PuS → Prop} (hp : ∀ row, Least 0 ns row → P (.tup (row.map D.int)) u) : Ok (mf_least_row [d]) u P := by
  generalize hdd : d = dd at e_len e_ix ⊢
  unfold mf_least_row mb_least_row
  simp [e_len]
  refine ⟨by omega, ?_⟩
  refine ok_range 0 ns.length (fun k ρ u' => u' = u ∧ ∃ (pre : List Int) (t : Int) (a b c d : Sd), pre.length = k ∧ (∀ row, Least t (ns.drop k) row → Least 0 ns (pre ++ row)) ∧ ρ = [.sh dd, .ow (pre.map D.int), .sh (.int t), a, b, c, d]) ?_ ?_ _ _ ⟨rfl, [], 0, _, _, _, _, rfl, fun row h => h, rfl⟩
  · rintro k ρ u' hk ⟨rfl, pre, t, a, b, c, d, hpre, hrow, rfl⟩
    unfold lb_least_row_2
    simp [mBorLs, e_len]
    refine ⟨by omega, by rw [rngD_len]; omega, ?_⟩
    refine ok_lcr (fun i => [.sh dd, .ow (pre.map D.int), .sh (.int t), .sh (.int k), b, c, .sh (.int (k + (i : Nat)))]) (fun _ => true) (fun i => .int (nd ns k t i)) ?_ ?_ ?_ ?_
    · intro i hi; rfl
    · intro i hi; simp
    · intro i hi _
      unfold ce_least_row_1
      have ei : ns[k + i]? = some ns[k + i] := List.getElem?_eq_getElem (by omega)
      have e1 : atI (ns.map D.int) ((k : Int) + (i : Int)) = some (.int ns[k + i]) := by
        have := getI ei
        rwa [show ((k + i : Nat) : Int) = (k : Int) + (i : Int) by omega] at this
      have e2 : (ns.drop k).getD i 0 = ns[k + i] := by
        rw [List.getD_eq_getElem?_getD, List.getElem?_drop, ei]; rfl
      have e3 : fdivC (t - ns[k + i]) ((k : Int) + (i : Int) - (k : Int) + 1) = true := fdivC_small (by omega)
      have e4 : nd ns k t i = -((t - ns[k + i]) / ((k : Int) + (i : Int) - (k : Int) + 1)) := by
        unfold nd need
        rw [e2, show (k : Int) + (i : Int) - (k : Int) + 1 = (i : Int) + 1 by omega]
      rw [e4]
      simp [e_ix, e1, e3]
    · rw [List.filter_eq_self.mpr (fun _ _ => rfl)]
      obtain ⟨m, hm⟩ : ∃ m, ns.length - k = m + 1 := ⟨ns.length - k - 1, by omega⟩
      rw [hm]
      have eL : (List.range (m + 1)).map (fun i => D.int (nd ns k t i)) = ((List.range (m + 1)).map (nd ns k t)).map D.int := by rw [List.map_map]; rfl
      obtain ⟨n0, nr, eC⟩ : ∃ n0 nr, (List.range (m + 1)).map (nd ns k t) = n0 :: nr := by
        rw [List.range_succ_eq_map, List.map_cons]
        exact ⟨_, _, rfl⟩
      rw [eL, eC]
      obtain ⟨hm1, hm2⟩ := maxL_mem (ns := n0 :: nr) (by simp)
      have hmax : IsMax (maxL (n0 :: nr)) t (ns.drop k) := by
        constructor
        · rw [← eC] at hm1
          obtain ⟨i, hi, e⟩ := List.mem_map.mp hm1
          have hi := List.mem_range.mp hi
          refine ⟨i, (ns.drop k).getD i 0, ?_, by rw [← eC]; exact e.symm⟩
          rw [List.getD_eq_getElem?_getD, List.getElem?_drop, List.getElem?_eq_getElem (by omega)]; rfl
        · intro i s e
          refine hm2 _ ?_
          rw [← eC]
          have hi : i < m + 1 := by
            have := (List.getElem?_eq_some_iff.mp e).1
            simp at this
            omega
          refine List.mem_map.mpr ⟨i, List.mem_range.mpr hi, ?_⟩
          unfold nd
          rw [List.getD_eq_getElem?_getD, e]; rfl
      refine ⟨.int (maxL (n0 :: nr)), s_maxL, ?_⟩
      by_cases hz : maxL (n0 :: nr) ≤ 0
      · simp [hz]
        have := hrow [] (.stop hmax hz)
        rw [List.append_nil] at this
        exact hp _ this
      · have e0 : ns.drop k = ns[k] :: ns.drop (k + 1) := List.drop_eq_getElem_cons hk
        simp [hz]
        refine ⟨by omega, pre ++ [maxL (n0 :: nr)], by simp [hpre], fun row hr => ?_, by simp⟩
        have := hrow (maxL (n0 :: nr) :: row) (by rw [e0] at hmax ⊢; exact .more hmax (by omega) hr)
        simpa using this
  · rintro ρ u' ⟨rfl, pre, t, a, b, c, d, hpre, hrow, rfl⟩
    simp
    have := hrow [] (by rw [List.drop_eq_nil_of_le (Nat.le_refl _)]; exact .nil t)
    rw [List.append_nil] at this
    exact hp _ this
theorem least_row_lst {ns : List Int} (hl : ns.length ≤ 24) {u : PuS} {P : D → PuS → Prop} (hp : ∀ row, Least 0 ns row → P (.tup (row.map D.int)) u) : Ok (mf_least_row [.lst (ns.map D.int)]) u P :=
  least_row_any (by simp) (fun _ => rfl) hl hp
/-- a form as data -/
def formD (row : List Int) : D := .obj "Form" ["numbers"] [.tup (row.map D.int)]
theorem Least.good {ns row : List Int} (h : Least 0 ns row) (hl : ns.length ≤ 24) : Good row := ⟨⟨h.pos, h.falls⟩, Nat.le_trans h.len hl⟩
@[simp] theorem len_ok' {row : List Int} {u : PuS} {P : D → PuS → Prop} : Ok (mf_Form___len__ [.obj "Form" ["numbers"] [.tup (row.map D.int)]]) u P ↔ P (.int row.length) u := by
  unfold mf_Form___len__ mb_Form___len__
  simp
@[simp] theorem row_ok' {row : List Int} {u : PuS} {P : D → PuS → Prop} : Ok (mf_Form_row [.obj "Form" ["numbers"] [.tup (row.map D.int)]]) u P ↔ P (.tup (row.map D.int)) u := by
  unfold mf_Form_row mb_Form_row
  simp
@[simp] theorem eq_ok' {row row' : List Int} {u : PuS} {P : D → PuS → Prop} : Ok (mf_Form___eq__ [.obj "Form" ["numbers"] [.tup (row.map D.int)], .obj "Form" ["numbers"] [.tup (row'.map D.int)]]) u P ↔ P (.bl (decide (row = row'))) u := by
  unfold mf_Form___eq__ mb_Form___eq__
  have e : isiD [.obj "Form" ["numbers"] [.tup (row'.map D.int)], .cls "Form"] = some (.bl true) := rfl
  simp [e]
theorem sumsFrom_len : ∀ (row : List Int) (t : Int), (sumsFrom t row).length = row.length
  | [], _ => rfl
  | x :: row, t => congrArg Nat.succ (sumsFrom_len row (t + x))
end Sh

set_option Elab.async false
set_option linter.all false
set_option maxRecDepth 100000
set_option maxHeartbeats 4000000
namespace S1
open PySem L2 Mi P20 Sh
def Pu (u : PuS) : Prop := ∃ x s c : Int, u = .real [x, s, c] ∧ 0 ≤ s ∧ s < 2147483648
theorem draw_ok {n : Int} (hn : 0 < n ∧ n < 1000000000) {u : PuS} (hu : Pu u) {P : D → PuS → Prop} (h : ∀ r u', 0 ≤ r → r < n → Pu u' → P (.int r) u') : Ok (mf__law_draw [.pur, .int n]) u P := by
  obtain ⟨x, s, c, rfl, h1, h2⟩ := hu
  unfold mf__law_draw mb__law_draw
  simp [atI, ixN, hn]
  have hh : ∀ k : Int, 0 ≤ k % n ∧ k % n < n := fun k => ⟨Int.emod_nonneg _ (by omega), Int.emod_lt_of_pos _ hn.1⟩
  refine brd (fun hx => ?_) (fun hx => ?_)
  · exact h _ _ (hh _).1 (hh _).2 ⟨_, _, _, rfl, h1, h2⟩
  · refine ⟨.inl (.inl (by omega)), h _ _ (hh _).1 (hh _).2 ⟨_, _, _, rfl, ?_, ?_⟩⟩
    all_goals omega
/-- the sums of a row, filled up with 0 -/
def psum (ns : List Int) : Nat → Int
  | 0 => 0
  | k + 1 => psum ns k + ns.getD k 0
theorem sums_ok {u : PuS} {ns : List Int} {m : Nat} (hm : m ≤ 30) {P : D → PuS → Prop} (h : P (.lst (((List.range (m + 1)).map (psum ns)).map D.int)) u) : Ok (mf__law_sums [.tup (ns.map D.int), .int m]) u P := by
  unfold mf__law_sums mb__law_sums
  simp
  refine ⟨by omega, ?_⟩
  refine ok_range 0 m (fun k ρ u' => u' = u ∧ ∃ t, ρ = [.sh (.tup (ns.map D.int)), .sh (.int m), .ow (((List.range (k + 1)).map (psum ns)).map D.int), t]) ?_ ?_ _ _ ⟨rfl, _, rfl⟩
  · rintro k ρ u' hk ⟨rfl, t, rfl⟩
    unfold lb__law_sums_1
    have e1 : atI (((List.range (k + 1)).map (psum ns)).map D.int) (-1) = some (.int (psum ns k)) := by
      rw [List.range_succ, List.map_append, List.map_append]
      exact at_last
    have e2 : ((List.range (k + 1 + 1)).map (psum ns)).map D.int = ((List.range (k + 1)).map (psum ns)).map D.int ++ [.int (psum ns (k + 1))] := by
      rw [List.range_succ (n := k + 1), List.map_append, List.map_append]; rfl
    by_cases hk2 : k < ns.length
    · have e3 : atI (ns.map D.int) (k : Int) = some (.int (ns.getD k 0)) := at_nat (by simp [hk2])
      simp [-List.map_map, e1, hk2, e2, e3]
      exact ⟨by show _ = psum ns k + ns.getD k 0; simp [hk2], by omega⟩
    · have e4 : ns.getD k 0 = 0 := by rw [List.getD_eq_getElem?_getD, List.getElem?_eq_none (by omega)]; rfl
      simp [-List.map_map, e1, hk2, e2]
      exact ⟨by show psum ns k = psum ns k + ns.getD k 0; rw [e4]; omega, by omega⟩
  · rintro ρ u' ⟨rfl, t, rfl⟩
    simpa [-List.map_map] using h
theorem psum_sumN : ∀ (row : List Int) (n : Nat), psum row n = sumN row n := by
  have key : ∀ (n : Nat) (row : List Int), psum row (n + 1) = row.headD 0 + psum row.tail n := by
    intro n
    induction n with
    | zero => intro row; cases row <;> simp [psum]
    | succ n ih =>
      intro row
      show psum row (n + 1) + row.getD (n + 1) 0 = row.headD 0 + (psum row.tail n + row.tail.getD n 0)
      rw [ih row]
      have : row.getD (n + 1) 0 = row.tail.getD n 0 := by cases row <;> simp
      omega
  intro row n
  induction n generalizing row with
  | zero => rfl
  | succ n ih => rw [key, ih]; rfl
theorem cell_ok {ns : List Int} {k : Nat} (hk : k < 100) {u : PuS} {P : D → PuS → Prop} (h : ∀ n : Int, P (.int n) u) : Ok (mf__law_cell [.scr ns, .int k]) u P := by
  unfold mf__law_cell mb__law_cell
  simp
  by_cases hl : k < ns.length
  · have e1 : atI ns (k : Int) = some ns[k] := at_nat (List.getElem?_eq_getElem hl)
    simp [hl, e1]
    exact h _
  · simp [hl]
    refine ⟨.inl (.inr (by omega)), ?_⟩
    rw [show (3 : Int) = ((3 : Nat) : Int) from rfl, cut_to, ← List.map_take]
    refine ok_list ((ns.take 3).map D.int) (fun _ ρ u' => u' = u ∧ ∃ n t, ρ = [.sh (.scr ns), .sh (.int k), .sh (.int n), t]) ?_ ?_ _ _ ⟨rfl, _, _, rfl⟩
    · rintro j d ρ u' e ⟨rfl, n, t, rfl⟩
      rw [List.getElem?_map] at e
      cases e2 : (ns.take 3)[j]? with
      | none => rw [e2] at e; cases e
      | some x =>
        rw [e2] at e
        cases e
        unfold lb__law_cell_1
        simp
    · rintro ρ u' ⟨rfl, n, t, rfl⟩
      simp
      exact h _
theorem purse_ok {n : Int} {u : PuS} {P : List D → PuS → Prop} (h : ∀ x s c : Int, 0 ≤ s → s < 2147483648 → P ([x, s, c].map D.int) u) : Ok (mfL__law_purse [.int n]) u P := by
  unfold mfL__law_purse mbL__law_purse
  simp
  have h1 : 0 ≤ n % 2147483629 ∧ n % 2147483629 < 2147483648 := by omega
  by_cases hn : 1000000000000000000 ≤ n
  · simp [hn]
    exact h n _ 0 h1.1 h1.2
  · simp [hn]
    exact h 0 _ 0 h1.1 h1.2
/-- the law's end: all draws of all purses are right -/
theorem law_all {mfr : List D → M D} {N : Int} (hN : 2 ≤ N ∧ N ≤ 60) (h : ∀ u, Pu u → Ok (mfr [.pur]) u fun d _ => d = .bl true) (ns : List Int) (u : PuS) :
    Ok (mFn 2 (mRet (mCB allD (mCons (mFz (mLcO [1] (mIof rng1 (mCons (mCB maxD (mCons (mC (.int 2)) (mCons (mCB minD (mCons (mCB lenD (mCons (mVar 0) (mNil))) (mCons (mC (.int N)) (mNil)))) (mNil)))) (mNil))) (mGn 1) (mYes) (mWith mfr (mCallL 1 mfL__law_purse (mCons (mCall 2 mf__law_cell (mCons (mVar 0) (mCons (mVar 1) (mNil)))) (mNil)))))) (mNil)))) [.scr ns]) u fun d _ => d = .bl true := by
  simp
  obtain ⟨m, hm, hm2⟩ : ∃ m : Nat, (if 2 < (if N < (ns.length : Int) then N else (ns.length : Int)) then (if N < (ns.length : Int) then N else (ns.length : Int)) else 2) = (m : Int) ∧ m ≤ 60 := by
    refine ⟨(if 2 < (if N < (ns.length : Int) then N else (ns.length : Int)) then (if N < (ns.length : Int) then N else (ns.length : Int)) else 2).toNat, ?_, ?_⟩ <;> split <;> split <;> omega
  rw [hm]
  refine ⟨by omega, by rw [rngD_len]; omega, ?_⟩
  refine (ok_lc (fun _ => True) (fun d => d = .bl true) _ _ trivial ?_).mono ?_
  · intro d hd u _
    obtain ⟨i, hi, rfl⟩ : ∃ i : Nat, i < m ∧ d = .int i := by
      obtain ⟨i, hi, e⟩ := List.mem_iff_getElem.mp hd
      rw [rngD_len] at hi
      exact ⟨i, by omega, by rw [← e]; simp [rngD]⟩
    refine ⟨_, rfl, ?_⟩
    simp
    refine ok_with true ?_
    simp
    refine cell_ok (by omega) fun n => ?_
    refine purse_ok fun x s c h1 h2 => ?_
    exact ⟨[x, s, c], rfl, h _ ⟨x, s, c, rfl, h1, h2⟩⟩
  · rintro ys u' ⟨⟨hl, he⟩, -⟩
    have e1 : ys = (List.replicate ys.length true).map D.bl := by
      clear hl
      induction ys with
      | nil => rfl
      | cons a ys ih =>
        have := he a List.mem_cons_self
        subst this
        rw [List.length_cons, List.replicate_succ, List.map_cons, ← ih fun y hy => he y (List.mem_cons_of_mem _ hy)]
    rw [e1]
    show (blsD ((List.replicate ys.length true).map D.bl)).map (fun bs => D.bl (bs.all id)) = _
    rw [blsD_map]
    simp
theorem law_fin {mf : List D → M D} (h : ∀ ns u, Ok (mf [.scr ns]) u fun d _ => d = .bl true) (ns : List Int) (o : HO) (_ : ns.length ≤ 63) : ∃ u', mf [.scr ns] (.idle o) = some (.bl true, u') := by
  obtain ⟨d, u', e, rfl⟩ := h ns (.idle o)
  exact ⟨u', e⟩
end S1

set_option Elab.async false
set_option linter.all false
set_option maxRecDepth 100000
set_option maxHeartbeats 4000000
/-! W2m: what cards can pay, plain. -/
namespace P20
/-- what a card can pay in k days -/
def wor (b l : Int) (k : Nat) : Int := min b ((k : Int) * l)
/-- what cards can pay in k days -/
def FF (am : List (Int × Int)) (k : Nat) : Int := (am.map fun q => wor q.1 q.2 k).sum
/-- cards as they may be -/
def Am (am : List (Int × Int)) : Prop := ∀ q ∈ am, 1 ≤ q.2 ∧ 0 ≤ q.1 ∧ q.1 ≤ 24 * q.2
theorem Am.tail {q : Int × Int} {am : List (Int × Int)} (h : Am (q :: am)) : Am am := fun x hx => h x (List.mem_cons_of_mem _ hx)
theorem Am.nil : Am [] := fun q h => by cases h
theorem Am.cons {q : Int × Int} {am : List (Int × Int)} (h : 1 ≤ q.2 ∧ 0 ≤ q.1 ∧ q.1 ≤ 24 * q.2) (a : Am am) : Am (q :: am) := fun x hx => by
  rcases List.mem_cons.mp hx with rfl | hx
  · exact h
  · exact a x hx
theorem Am.append {am bm : List (Int × Int)} (a : Am am) (b : Am bm) : Am (am ++ bm) := fun x hx => by
  rcases List.mem_append.mp hx with h | h
  · exact a x h
  · exact b x h
theorem FF_cons (q : Int × Int) (am : List (Int × Int)) (k : Nat) : FF (q :: am) k = wor q.1 q.2 k + FF am k := by simp [FF]
theorem wor_zero {b l : Int} (h : 0 ≤ b) : wor b l 0 = 0 := by unfold wor; simp; omega
theorem succ_mul' (k : Nat) (l : Int) : ((k + 1 : Nat) : Int) * l = (k : Int) * l + l := by
  rw [show ((k + 1 : Nat) : Int) = (k : Int) + 1 by omega, Int.add_mul, Int.one_mul]
theorem wor_mono {b l : Int} (hl : 0 ≤ l) (k : Nat) : wor b l k ≤ wor b l (k + 1) := by
  unfold wor
  rw [succ_mul']
  omega
theorem wor_conc {b l : Int} (hl : 0 ≤ l) (k : Nat) : wor b l (k + 2) - wor b l (k + 1) ≤ wor b l (k + 1) - wor b l k := by
  unfold wor
  rw [show k + 2 = (k + 1) + 1 from rfl, succ_mul' (k + 1), succ_mul' k]
  omega
theorem wor_step {b l : Int} (hl : 1 ≤ l) (k : Nat) : wor b l k < wor b l (k + 1) ↔ (k : Int) * l < b := by
  unfold wor
  rw [succ_mul']
  omega
theorem FF_zero {am : List (Int × Int)} (h : Am am) : FF am 0 = 0 := by
  induction am with
  | nil => rfl
  | cons q am ih => rw [FF_cons, ih h.tail, wor_zero (h q List.mem_cons_self).2.1]; rfl
theorem FF_mono {am : List (Int × Int)} (h : Am am) (k : Nat) : FF am k ≤ FF am (k + 1) := by
  induction am with
  | nil => simp [FF]
  | cons q am ih =>
    have := ih h.tail
    have := wor_mono (b := q.1) (show 0 ≤ q.2 by have := (h q List.mem_cons_self).1; omega) k
    rw [FF_cons, FF_cons]
    omega
theorem FF_conc {am : List (Int × Int)} (h : Am am) (k : Nat) : FF am (k + 2) - FF am (k + 1) ≤ FF am (k + 1) - FF am k := by
  induction am with
  | nil => simp [FF]
  | cons q am ih =>
    have := ih h.tail
    have := wor_conc (b := q.1) (show 0 ≤ q.2 by have := (h q List.mem_cons_self).1; omega) k
    rw [FF_cons, FF_cons, FF_cons]
    omega
/-- on day k + 1 some card can still pay -/
def Mor (am : List (Int × Int)) (k : Nat) : Prop := ∃ q ∈ am, (k : Int) * q.2 < q.1
theorem Mor.less {am : List (Int × Int)} (h : Am am) {k : Nat} : Mor am (k + 1) → Mor am k := by
  rintro ⟨q, hq, h1⟩
  refine ⟨q, hq, ?_⟩
  have := (h q hq).1
  rw [succ_mul'] at h1
  omega
theorem FF_step {am : List (Int × Int)} (h : Am am) (k : Nat) : FF am k < FF am (k + 1) ↔ Mor am k := by
  induction am with
  | nil => simp [FF, Mor]
  | cons q am ih =>
    have ih := ih h.tail
    have h1 := FF_mono h.tail k
    have h0 := (h q List.mem_cons_self).1
    have h2 := wor_mono (b := q.1) (show 0 ≤ q.2 by omega) k
    have h3 := wor_step (b := q.1) h0 k
    rw [FF_cons, FF_cons]
    constructor
    · intro z
      by_cases hq : (k : Int) * q.2 < q.1
      · exact ⟨q, List.mem_cons_self, hq⟩
      · obtain ⟨x, hx, hm⟩ := ih.mp (by omega)
        exact ⟨x, List.mem_cons_of_mem _ hx, hm⟩
    · rintro ⟨x, hx, hm⟩
      rcases List.mem_cons.mp hx with rfl | hx
      · have := h3.mpr hm; omega
      · have := ih.mpr ⟨x, hx, hm⟩; omega
/-- the row of cards: the numbers by which the sums grow, as long as they do -/
def IsRow (am : List (Int × Int)) (row : List Int) : Prop := ∃ d : Nat, d ≤ 24 ∧ (∀ k, k < d → Mor am k) ∧ ¬ Mor am d ∧ row = (List.range d).map fun k => FF am (k + 1) - FF am k
theorem Am.stop {am : List (Int × Int)} (h : Am am) : ¬ Mor am 24 := by
  rintro ⟨q, hq, h1⟩
  have := (h q hq).2.2
  omega
theorem sumN_app : ∀ (n : Nat) (row : List Int), sumN row (n + 1) = sumN row n + row.getD n 0
  | 0, row => by cases row <;> simp [sumN]
  | n + 1, row => by
    show row.headD 0 + sumN row.tail (n + 1) = (row.headD 0 + sumN row.tail n) + row.getD (n + 1) 0
    rw [sumN_app n row.tail]
    have : row.getD (n + 1) 0 = row.tail.getD n 0 := by cases row <;> simp
    omega
theorem Mor.from {am : List (Int × Int)} (h : Am am) {d : Nat} (hd : ¬ Mor am d) : ∀ k, d ≤ k → ¬ Mor am k := by
  intro k hk
  induction k with
  | zero => have : d = 0 := by omega
            subst this; exact hd
  | succ k ih =>
    by_cases e : d = k + 1
    · subst e; exact hd
    · exact fun z => ih (by omega) (z.less h)
theorem FF_flat {am : List (Int × Int)} (h : Am am) {d : Nat} (hd : ¬ Mor am d) : ∀ k, d ≤ k → FF am k = FF am d := by
  intro k hk
  induction k with
  | zero => have : d = 0 := by omega
            subst this; rfl
  | succ k ih =>
    by_cases e : d = k + 1
    · subst e; rfl
    · have h1 := ih (by omega)
      have h2 := Mor.from h hd k (by omega)
      have h3 := FF_mono h k
      have h4 := mt (FF_step h k).mp h2
      omega
theorem IsRow.sum {am : List (Int × Int)} (h : Am am) {row : List Int} (r : IsRow am row) : ∀ n, sumN row n = FF am n := by
  obtain ⟨d, hd, h1, h2, rfl⟩ := r
  intro n
  induction n with
  | zero => rw [FF_zero h]; rfl
  | succ n ih =>
    rw [sumN_app, ih]
    by_cases hn : n < d
    · have : ((List.range d).map fun k => FF am (k + 1) - FF am k).getD n 0 = FF am (n + 1) - FF am n := by
        rw [List.getD_eq_getElem?_getD, List.getElem?_map, List.getElem?_range hn]; rfl
      omega
    · have : ((List.range d).map fun k => FF am (k + 1) - FF am k).getD n 0 = 0 := by
        rw [List.getD_eq_getElem?_getD, List.getElem?_eq_none (by simp; omega)]; rfl
      have := FF_flat h h2 n (by omega)
      have := FF_flat h h2 (n + 1) (by omega)
      omega
theorem IsRow.len {am : List (Int × Int)} {row : List Int} (r : IsRow am row) : row.length ≤ 24 := by
  obtain ⟨d, hd, h1, h2, rfl⟩ := r
  simpa using hd
theorem IsRow.falls {am : List (Int × Int)} (h : Am am) {row : List Int} (r : IsRow am row) : Falls row := by
  obtain ⟨d, hd, h1, h2, rfl⟩ := r
  refine ⟨fun x hx => ?_, fun k x y hx hy => ?_⟩
  · obtain ⟨k, hk, rfl⟩ := List.mem_map.mp hx
    have := (FF_step h k).mpr (h1 k (List.mem_range.mp hk))
    omega
  · rw [List.getElem?_map] at hx hy
    have hk : k + 1 < d := by
      by_cases z : k + 1 < d
      · exact z
      · rw [List.getElem?_eq_none (by simp; omega)] at hy; cases hy
    rw [List.getElem?_range (by omega)] at hx
    rw [List.getElem?_range hk] at hy
    cases hx
    cases hy
    exact FF_conc h k
/-- rows of numbers above 0 are told apart by their sums -/
theorem pos_uniq : ∀ {a b : List Int}, (∀ x ∈ a, 0 < x) → (∀ x ∈ b, 0 < x) → (∀ n, sumN a n = sumN b n) → a = b
  | [], [], _, _, _ => rfl
  | [], y :: b, _, hb, h => by
    have h1 := h 1
    have := hb y List.mem_cons_self
    simp [sumN] at h1
    omega
  | x :: a, [], ha, _, h => by
    have h1 := h 1
    have := ha x List.mem_cons_self
    simp [sumN] at h1
    omega
  | x :: a, y :: b, ha, hb, h => by
    have h1 := h 1
    simp [sumN] at h1
    subst h1
    rw [pos_uniq (a := a) (b := b) (fun z hz => ha z (List.mem_cons_of_mem _ hz)) (fun z hz => hb z (List.mem_cons_of_mem _ hz)) fun n => ?_]
    have h2 := h (n + 1)
    simp [sumN] at h2
    exact h2
theorem IsRow.uniq {am : List (Int × Int)} (h : Am am) {row row' : List Int} (r : IsRow am row) (r' : IsRow am row') : row = row' :=
  pos_uniq (r.falls h).1 (r'.falls h).1 fun n => by rw [r.sum h, r'.sum h]
theorem sumN_flat : ∀ (row : List Int) (n : Nat), row.length ≤ n → sumN row n = sumN row row.length
  | [], n, _ => by rw [sumN_nil, sumN_nil]
  | x :: row, 0, h => by simp at h
  | x :: row, n + 1, h => by
    show x + sumN row n = x + sumN row row.length
    rw [sumN_flat row n (by simpa using h)]
theorem sumN_mono {row : List Int} (h : ∀ x ∈ row, 0 ≤ x) : ∀ n, sumN row n ≤ sumN row (n + 1) := by
  intro n
  rw [sumN_app]
  by_cases hn : n < row.length
  · have : 0 ≤ row.getD n 0 := by
      rw [List.getD_eq_getElem?_getD, List.getElem?_eq_getElem hn]
      exact h _ (List.getElem_mem hn)
    omega
  · have : row.getD n 0 = 0 := by rw [List.getD_eq_getElem?_getD, List.getElem?_eq_none (by omega)]; rfl
    omega
theorem sumN_le {row : List Int} (h : ∀ x ∈ row, 0 ≤ x) {m n : Nat} (hmn : m ≤ n) : sumN row m ≤ sumN row n := by
  induction n with
  | zero => have : m = 0 := by omega
            subst this; exact Int.le_refl _
  | succ n ih =>
    by_cases e : m = n + 1
    · subst e; exact Int.le_refl _
    · have := ih (by omega); have := sumN_mono h n; omega
end P20

set_option Elab.async false
set_option linter.all false
set_option maxRecDepth 100000
set_option maxHeartbeats 4000000
/-! K2m: what courses ask, plain. -/
namespace P20
/-- an event: a bill, or a card that comes -/
abbrev Ev := Sum Int (Int × Int)
def isB : Ev → Bool
  | .inl _ => true
  | .inr _ => false
def nB (evs : List Ev) : Nat := (evs.filter isB).length
theorem nB_inl (x : Int) (r : List Ev) : nB (.inl x :: r) = nB r + 1 := rfl
theorem nB_inr (q : Int × Int) (r : List Ev) : nB (.inr q :: r) = nB r := rfl
/-- sets of days with their worth -/
inductive Sel : Int → List Ev → List Int → Int → Prop
  | nil (i : Int) : Sel i [] [] 0
  | card {i b l v : Int} {rest : List Ev} {s : List Int} (h : Sel (i + 1) rest s v) : Sel i (.inr (b, l) :: rest) s (v - wor b l s.length)
  | skip {i x v : Int} {rest : List Ev} {s : List Int} (h : Sel (i + 1) rest s v) : Sel i (.inl x :: rest) s v
  | take {i x v : Int} {rest : List Ev} {s : List Int} (h : Sel (i + 1) rest s v) : Sel i (.inl x :: rest) (i :: s) (x + v)
/-- one step of the table, at an event with this index -/
def askStep (i : Int) (e : Ev) (best : List (Int × List Int)) : List (Int × List Int) := match e with
  | .inr (b, l) => best.map fun q => (q.1 - wor b l q.2.length, q.2)
  | .inl x =>
    let longer := best.map fun q => (q.1 + x, i :: q.2)
    [best.headD (0, [])] ++ ((List.range (best.length - 1)).map fun k => if (longer.getD k (0, [])).1 ≤ (best.getD (k + 1) (0, [])).1 then best.getD (k + 1) (0, []) else longer.getD k (0, [])) ++ [longer.getLastD (0, [])]
def asked (i : Int) : List Ev → List (Int × List Int)
  | [] => [(0, [])]
  | e :: rest => askStep i e (asked (i + 1) rest)
/-- a table as it should be -/
structure Tab (i : Int) (evs : List Ev) (t : List (Int × List Int)) : Prop where
  len : t.length = nB evs + 1
  at_ : ∀ (k : Nat) (a : Int) (ds : List Int), t[k]? = some (a, ds) → ds.length = k ∧ Sel i evs ds a ∧ ∀ s v, Sel i evs s v → s.length = k → v ≤ a
theorem Sel.len {i : Int} {evs : List Ev} {s : List Int} {v : Int} (h : Sel i evs s v) : s.length ≤ nB evs := by
  induction h with
  | nil => exact Nat.le_refl _
  | card h ih => rw [nB_inr]; exact ih
  | skip h ih => rw [nB_inl]; omega
  | take h ih => rw [nB_inl, List.length_cons]; omega
theorem asked_tab : ∀ (evs : List Ev) (i : Int), Tab i evs (asked i evs)
  | [], i => ⟨rfl, fun k a ds e => by
      cases k with
      | zero =>
        simp [asked] at e
        obtain ⟨rfl, rfl⟩ := e
        exact ⟨rfl, .nil i, fun s v h _ => by cases h; exact Int.le_refl _⟩
      | succ k => simp [asked] at e⟩
  | .inr (b, l) :: rest, i => by
    have ih := asked_tab rest (i + 1)
    refine ⟨?_, fun k a ds e => ?_⟩
    · show ((asked (i + 1) rest).map _).length = _
      rw [List.length_map, ih.len, nB_inr]
    · have e' : ((asked (i + 1) rest).map fun q => (q.1 - wor b l q.2.length, q.2))[k]? = some (a, ds) := e
      rw [List.getElem?_map] at e'
      cases e1 : (asked (i + 1) rest)[k]? with
      | none => rw [e1] at e'; cases e'
      | some q =>
        obtain ⟨a', ds'⟩ := q
        rw [e1] at e'
        cases e'
        obtain ⟨h1, h2, h3⟩ := ih.at_ k a' _ e1
        refine ⟨h1, .card h2, fun s v h hs => ?_⟩
        cases h with
        | card h =>
          have := h3 _ _ h hs
          rw [hs, h1]
          omega
  | .inl x :: rest, i => by
    have ih := asked_tab rest (i + 1)
    have hn : nB (.inl x :: rest) = nB rest + 1 := rfl
    have hlen : (asked (i + 1) rest).length = nB rest + 1 := ih.len
    generalize hb : asked (i + 1) rest = best at ih hlen
    have hres : asked i (.inl x :: rest) = askStep i (.inl x) best := by rw [← hb]; rfl
    rw [hres]
    obtain ⟨q0, br, rfl⟩ : ∃ q br, best = q :: br := by
      cases best with
      | nil => simp at hlen
      | cons q br => exact ⟨q, br, rfl⟩
    have hget : ∀ k, k < nB rest + 1 → (q0 :: br)[k]? = some ((q0 :: br).getD k (0, [])) := fun k hk => by
      rw [List.getD_eq_getElem?_getD, List.getElem?_eq_getElem (by omega)]; rfl
    have hgl : ∀ k, k < nB rest + 1 → ((q0 :: br).map fun q => (q.1 + x, i :: q.2)).getD k (0, []) = (((q0 :: br).getD k (0, [])).1 + x, i :: ((q0 :: br).getD k (0, [])).2) := fun k hk => by
      rw [List.getD_eq_getElem?_getD, List.getElem?_map, hget k hk]; rfl
    have hst : ∀ k, k ≤ nB rest + 1 → (askStep i (.inl x) (q0 :: br))[k]? = some (if k = 0 then q0 else if h : k < nB rest + 1 then (if ((q0 :: br).getD (k - 1) (0, [])).1 + x ≤ ((q0 :: br).getD k (0, [])).1 then (q0 :: br).getD k (0, []) else (((q0 :: br).getD (k - 1) (0, [])).1 + x, i :: ((q0 :: br).getD (k - 1) (0, [])).2)) else (((q0 :: br).getD (nB rest) (0, [])).1 + x, i :: ((q0 :: br).getD (nB rest) (0, [])).2)) := fun k hk => by
      unfold askStep
      simp only []
      cases k with
      | zero => simp
      | succ k =>
        rw [if_neg (by omega)]
        show ((([(q0 :: br).headD (0, [])] ++ _) ++ [_])[k + 1]?) = _
        by_cases hk2 : k + 1 < nB rest + 1
        · have hlen' : br.length = nB rest := by rw [List.length_cons] at hlen; omega
          rw [dif_pos hk2, List.getElem?_append_left (by simp; omega)]
          show ((List.range ((q0 :: br).length - 1)).map _)[k]? = _
          rw [List.getElem?_map, List.getElem?_range (by rw [hlen]; omega)]
          simp only [Option.map_some, hgl k (by omega)]
          rfl
        · rw [dif_neg hk2]
          have hke : k = nB rest := by omega
          have hlen' : br.length = nB rest := by rw [List.length_cons] at hlen; omega
          rw [List.getElem?_append_right (by simp; omega)]
          have e0 : k + 1 - ([(q0 :: br).headD (0, [])] ++ ((List.range ((q0 :: br).length - 1)).map fun k => if (((q0 :: br).map fun q => (q.1 + x, i :: q.2)).getD k (0, [])).1 ≤ ((q0 :: br).getD (k + 1) (0, [])).1 then (q0 :: br).getD (k + 1) (0, []) else ((q0 :: br).map fun q => (q.1 + x, i :: q.2)).getD k (0, []))).length = 0 := by simp; omega
          rw [e0]
          simp only [List.getElem?_cons_zero]
          congr 1
          rw [List.getLastD_eq_getLast?, List.getLast?_eq_getElem?]
          have e1 : ((q0 :: br).map fun q => (q.1 + x, i :: q.2)).length - 1 = nB rest := by rw [List.length_map, hlen]; omega
          rw [e1, List.getElem?_map, hget (nB rest) (by omega)]
          rfl
    refine ⟨?_, fun k a ds e => ?_⟩
    · rw [hn]
      unfold askStep
      simp
      simp at hlen
      omega
    · have hk : k ≤ nB rest + 1 := by
        have := (List.getElem?_eq_some_iff.mp e).1
        have h2 : (askStep i (.inl x) (q0 :: br)).length = nB rest + 2 := by
          unfold askStep
          simp
          simp at hlen
          omega
        omega
      rw [hst k hk] at e
      have e := Option.some.inj e
      have tk : ∀ j, j < nB rest + 1 → ∀ q, q = (q0 :: br).getD j (0, []) → q.2.length = j ∧ Sel (i + 1) rest q.2 q.1 ∧ ∀ s v, Sel (i + 1) rest s v → s.length = j → v ≤ q.1 := fun j hj q hq => ih.at_ j q.1 q.2 (by rw [hget j hj, hq])
      have cmp : ∀ (s : List Int) (v : Int), Sel i (.inl x :: rest) s v → (Sel (i + 1) rest s v) ∨ ∃ s' v', s = i :: s' ∧ v = x + v' ∧ Sel (i + 1) rest s' v' := fun s v h => by
        cases h with
        | skip h => exact .inl h
        | take h => exact .inr ⟨_, _, rfl, rfl, h⟩
      by_cases k0 : k = 0
      · subst k0
        rw [if_pos rfl] at e
        obtain ⟨h1, h2, h3⟩ := tk 0 (by omega) q0 rfl
        subst e
        refine ⟨h1, .skip h2, fun s v h hs => ?_⟩
        rcases cmp s v h with h | ⟨s', v', es, ev, h'⟩
        · exact h3 s v h hs
        · rw [es] at hs; simp at hs
      · rw [if_neg k0] at e
        obtain ⟨p1, p2, p3⟩ := tk (k - 1) (by omega) _ rfl
        by_cases hk2 : k < nB rest + 1
        · rw [dif_pos hk2] at e
          obtain ⟨h1, h2, h3⟩ := tk k hk2 _ rfl
          split at e
          · rename_i hc
            rw [e] at h1 h2 h3 hc
            refine ⟨h1, .skip h2, fun s v h hs => ?_⟩
            rcases cmp s v h with h | ⟨s', v', es, ev, h'⟩
            · exact h3 s v h hs
            · have := p3 s' v' h' (by rw [es, List.length_cons] at hs; omega)
              simp only [] at hc
              omega
          · rename_i hc
            obtain ⟨ea, ed⟩ := Prod.mk.inj e
            subst ea ed
            refine ⟨by rw [List.length_cons, p1]; omega, ?_, fun s v h hs => ?_⟩
            · rw [Int.add_comm]; exact .take p2
            · rcases cmp s v h with h | ⟨s', v', es, ev, h'⟩
              · have := h3 s v h hs; omega
              · have := p3 s' v' h' (by rw [es, List.length_cons] at hs; omega); omega
        · rw [dif_neg hk2] at e
          have hke : k - 1 = nB rest := by omega
          rw [← hke] at e
          obtain ⟨ea, ed⟩ := Prod.mk.inj e
          subst ea ed
          refine ⟨by rw [List.length_cons, p1]; omega, ?_, fun s v h hs => ?_⟩
          · rw [Int.add_comm]; exact .take p2
          · rcases cmp s v h with h | ⟨s', v', es, ev, h'⟩
            · have := h.len; omega
            · have := p3 s' v' h' (by rw [es, List.length_cons] at hs; omega); omega
/-- what a course asks of 1, 2, .. days -/
def asks (evs : List Ev) : List Int := ((asked 0 evs).map Prod.fst).drop 1
theorem asked_len (evs : List Ev) (i : Int) : (asked i evs).length = nB evs + 1 := (asked_tab evs i).len
/-! ### sets of days, one by one -/
def spotsI : Int → List Ev → List Int
  | _, [] => []
  | i, .inl _ :: r => i :: spotsI (i + 1) r
  | i, .inr _ :: r => spotsI (i + 1) r
theorem spotsI_ge : ∀ (evs : List Ev) (i d : Int), d ∈ spotsI i evs → i ≤ d
  | [], i, d, h => by cases h
  | .inl x :: r, i, d, h => by
    rcases List.mem_cons.mp h with rfl | h
    · exact Int.le_refl _
    · have := spotsI_ge r (i + 1) d h; omega
  | .inr q :: r, i, d, h => by have := spotsI_ge r (i + 1) d h; omega
def bAt (evs : List Ev) (d : Int) : Int := match evs[d.toNat]? with
  | some (.inl x) => x
  | _ => 0
def cutSum : Int → List Ev → List Int → Int
  | _, [], _ => 0
  | i, .inr q :: r, s => wor q.1 q.2 (s.filter fun d => decide (i < d)).length + cutSum (i + 1) r s
  | i, .inl _ :: r, s => cutSum (i + 1) r s
def lv (i : Int) (evs : List Ev) (s : List Int) : Int := (s.map fun d => bAt evs (d - i)).sum - cutSum i evs s
theorem bAt_cons {e : Ev} {r : List Ev} {i d : Int} (h : i + 1 ≤ d) : bAt (e :: r) (d - i) = bAt r (d - (i + 1)) := by
  unfold bAt
  have : (d - i).toNat = (d - (i + 1)).toNat + 1 := by omega
  rw [this]
  rfl
theorem cutSum_drop : ∀ (evs : List Ev) (i j : Int) (s : List Int), j < i → cutSum i evs (j :: s) = cutSum i evs s
  | [], i, j, s, h => rfl
  | .inr q :: r, i, j, s, h => by
    show wor q.1 q.2 ((j :: s).filter fun d => decide (i < d)).length + cutSum (i + 1) r (j :: s) = _
    rw [cutSum_drop r (i + 1) j s (by omega), List.filter_cons_of_neg (by simp; omega)]
    rfl
  | .inl x :: r, i, j, s, h => cutSum_drop r (i + 1) j s (by omega)
theorem sel_of_sub : ∀ (evs : List Ev) (i : Int) (s : List Int), s.Sublist (spotsI i evs) → Sel i evs s (lv i evs s)
  | [], i, s, h => by
    have : s = [] := List.eq_nil_of_sublist_nil h
    subst this
    exact .nil i
  | .inr (b, l) :: r, i, s, h => by
    have hs : s.Sublist (spotsI (i + 1) r) := h
    have ge : ∀ d ∈ s, i + 1 ≤ d := fun d hd => spotsI_ge r (i + 1) d (hs.subset hd)
    have ih := sel_of_sub r (i + 1) s hs
    have e : lv i (.inr (b, l) :: r) s = lv (i + 1) r s - wor b l s.length := by
      unfold lv
      have e1 : (s.map fun d => bAt (.inr (b, l) :: r) (d - i)) = s.map fun d => bAt r (d - (i + 1)) := List.map_congr_left fun d hd => bAt_cons (ge d hd)
      have e2 : s.filter (fun d => decide (i < d)) = s := List.filter_eq_self.mpr fun d hd => decide_eq_true (by have := ge d hd; omega)
      show _ - (wor b l (s.filter fun d => decide (i < d)).length + cutSum (i + 1) r s) = _
      rw [e1, e2]
      omega
    rw [e]
    exact .card ih
  | .inl x :: r, i, s, h => by
    have hs : s.Sublist (i :: spotsI (i + 1) r) := h
    have key : ∀ s' : List Int, s'.Sublist (spotsI (i + 1) r) → lv i (.inl x :: r) s' = lv (i + 1) r s' := fun s' hs' => by
      have ge : ∀ d ∈ s', i + 1 ≤ d := fun d hd => spotsI_ge r (i + 1) d (hs'.subset hd)
      unfold lv
      have e1 : (s'.map fun d => bAt (.inl x :: r) (d - i)) = s'.map fun d => bAt r (d - (i + 1)) := List.map_congr_left fun d hd => bAt_cons (ge d hd)
      rw [e1]
      rfl
    rcases List.sublist_cons_iff.mp hs with hs' | ⟨s', rfl, hs'⟩
    · rw [key s hs']
      exact .skip (sel_of_sub r (i + 1) s hs')
    · have ge : ∀ d ∈ s', i + 1 ≤ d := fun d hd => spotsI_ge r (i + 1) d (hs'.subset hd)
      have e : lv i (.inl x :: r) (i :: s') = x + lv (i + 1) r s' := by
        rw [← key s' hs']
        unfold lv
        rw [List.map_cons, List.sum_cons]
        have e2 : bAt (.inl x :: r) (i - i) = x := by rw [Int.sub_self]; rfl
        have e3 : cutSum i (.inl x :: r) (i :: s') = cutSum i (.inl x :: r) s' := cutSum_drop r (i + 1) i s' (by omega)
        rw [e2, e3]
        omega
      rw [e]
      exact .take (sel_of_sub r (i + 1) s' hs')
theorem Sel.sub {i : Int} {evs : List Ev} {s : List Int} {v : Int} (h : Sel i evs s v) : s.Sublist (spotsI i evs) := by
  induction h with
  | nil => exact List.Sublist.refl _
  | card h ih => exact ih
  | skip h ih => exact ih.cons _
  | take h ih => exact ih.cons_cons _
theorem Sel.uniq {i : Int} {evs : List Ev} {s : List Int} {v v' : Int} (h : Sel i evs s v) (h' : Sel i evs s v') : v = v' := by
  induction h generalizing v' with
  | nil => cases h'; rfl
  | card h ih =>
    cases h' with
    | card h2 => rw [ih h2]
  | @skip i x v rest s h ih =>
    cases h' with
    | skip h2 => exact ih h2
    | take h2 =>
      have := spotsI_ge _ _ _ (h.sub.subset List.mem_cons_self)
      omega
  | @take i x v rest s h ih =>
    cases h' with
    | take h2 => rw [ih h2]
    | skip h2 =>
      have := spotsI_ge _ _ _ (h2.sub.subset List.mem_cons_self)
      omega
theorem Sel.val {i : Int} {evs : List Ev} {s : List Int} {v : Int} (h : Sel i evs s v) : v = lv i evs s := h.uniq (sel_of_sub evs i s h.sub)
end P20


set_option Elab.async false
set_option linter.all false
set_option maxRecDepth 100000
set_option maxHeartbeats 4000000
/-! K4m: the least row among falling rows, plain. -/
namespace P20
open Mi L2
theorem sumN_one {row : List Int} {x : Int} (h : Falls (x :: row)) : sumN row 1 ≤ x := by
  cases row with
  | nil => rw [sumN_nil]; have := h.1 x List.mem_cons_self; omega
  | cons y r =>
    have := h.2 0 x y rfl rfl
    show y + sumN r 0 ≤ x
    have : sumN r 0 = 0 := by cases r <;> rfl
    omega
theorem sumN_ccv : ∀ {row : List Int}, Falls row → ∀ n, sumN row (n + 2) - sumN row (n + 1) ≤ sumN row (n + 1) - sumN row n
  | [], _, n => by simp [sumN_nil]
  | x :: row, h, 0 => by
    have h1 := sumN_one h
    have h2 : sumN (x :: row) 2 = x + sumN row 1 := rfl
    have h3 : sumN (x :: row) 1 = x + sumN row 0 := rfl
    have h4 : sumN row 0 = 0 := by cases row <;> rfl
    have h5 : sumN (x :: row) 0 = 0 := rfl
    show sumN (x :: row) 2 - sumN (x :: row) 1 ≤ sumN (x :: row) 1 - sumN (x :: row) 0
    omega
  | x :: row, h, n + 1 => by
    have ih := sumN_ccv h.tail n
    have h1 : sumN (x :: row) (n + 1 + 2) = x + sumN row (n + 2) := rfl
    have h2 : sumN (x :: row) (n + 1 + 1) = x + sumN row (n + 1) := rfl
    have h3 : sumN (x :: row) (n + 1) = x + sumN row n := rfl
    omega
theorem ccv_many {row : List Int} (h : Falls row) (k : Nat) : ∀ i : Nat, sumN row (k + 1 + i) ≤ sumN row (k + 1) + (i : Int) * (sumN row (k + 1) - sumN row k) ∧ sumN row (k + 1 + i + 1) - sumN row (k + 1 + i) ≤ sumN row (k + 1) - sumN row k
  | 0 => ⟨by simp, sumN_ccv h k⟩
  | i + 1 => by
    obtain ⟨h1, h2⟩ := ccv_many h k i
    have h3 := sumN_ccv h (k + 1 + i)
    refine ⟨?_, by
      show sumN row (k + 1 + i + 2) - sumN row (k + 1 + i + 1) ≤ _
      omega⟩
    rw [show ((i + 1 : Nat) : Int) = (i : Int) + 1 by omega, Int.add_mul, Int.one_mul]
    show sumN row (k + 1 + i + 1) ≤ _
    omega
/-- the least row has the least sums -/
theorem Least.least {t : Int} {ss row other : List Int} (h : Least t ss row) (ho : Falls other) (hc : ∀ (n : Nat) (s : Int), ss[n]? = some s → s ≤ t + sumN other (n + 1)) : ∀ n, sumN row n ≤ sumN other n
  | 0 => by
    have h1 : sumN row 0 = 0 := by cases row <;> rfl
    have h2 : sumN other 0 = 0 := by cases other <;> rfl
    omega
  | k + 1 => by
    have ih := h.least ho hc k
    have hm := sumN_mono (row := other) (fun x hx => by have := ho.1 x hx; omega) k
    by_cases hk : k < row.length
    · have ek : row[k]? = some row[k] := List.getElem?_eq_getElem hk
      obtain ⟨i, s, e1, h1⟩ := h.tight k _ ek
      have h2 := hc _ _ e1
      have h3 := (ccv_many ho k i).1
      have es : sumN row (k + 1) = sumN row k + row[k] := by rw [sumN_app, List.getD_eq_getElem?_getD, ek]; rfl
      rcases Int.lt_or_le (sumN other (k + 1)) (sumN row (k + 1)) with z | z
      · have hd : sumN other (k + 1) - sumN other k ≤ row[k] - 1 := by omega
        have h4 : (i : Int) * (sumN other (k + 1) - sumN other k) ≤ (i : Int) * (row[k] - 1) := Int.mul_le_mul_of_nonneg_left hd (by omega)
        rw [Int.add_mul, Int.one_mul] at h1
        rw [show k + i + 1 = k + 1 + i by omega] at h2
        omega
      · exact z
    · have h1 := sumN_flat row (k + 1) (by omega)
      have h2 := sumN_flat row k (by omega)
      omega
/-! the rows still to be gone through -/
end P20

set_option Elab.async false
set_option linter.all false
set_option maxRecDepth 100000
set_option maxHeartbeats 4000000
/-! W3m: sparing payments, plain. -/
namespace P20
open Mi L2
/-- the parts of the cards at a level -/
def pts (am : List (Int × Int)) (k : Nat) : List Int := am.map fun q => wor q.1 q.2 (k + 1) - wor q.1 q.2 k
theorem pts_sum (am : List (Int × Int)) (k : Nat) : (pts am k).sum = FF am (k + 1) - FF am k := by
  induction am with
  | nil => rfl
  | cons q am ih =>
    rw [FF_cons, FF_cons]
    show (wor q.1 q.2 (k + 1) - wor q.1 q.2 k) + (pts am k).sum = _
    omega
/-- the greatest level with parts for this bill -/
def IsLev (am : List (Int × Int)) (x : Int) (L : Nat) : Prop := (pts am (L + 1)).sum < x ∧ ∀ j, j < L → x ≤ (pts am (j + 1)).sum
theorem IsLev.uniq {am : List (Int × Int)} {x : Int} {L L' : Nat} (h : IsLev am x L) (h' : IsLev am x L') : L = L' := by
  rcases Nat.lt_trichotomy L L' with z | z | z
  · have := h'.2 L z; have := h.1; omega
  · exact z
  · have := h.2 L' z; have := h'.1; omega
/-- the level -/
noncomputable def lev (am : List (Int × Int)) (x : Int) : Nat := by classical exact if h : ∃ L, IsLev am x L then Classical.choose h else 0
theorem IsLev.top {am : List (Int × Int)} {x : Int} {L : Nat} (h : IsLev am x L) (hx : x ≤ FF am 1) (ha : Am am) : x ≤ (pts am L).sum := by
  cases L with
  | zero => rw [pts_sum, FF_zero ha]; show x ≤ FF am (0 + 1) - 0; simpa using hx
  | succ L => exact h.2 L (Nat.lt_succ_self _)
noncomputable def lows (am : List (Int × Int)) (x : Int) : List Int := if x = 0 then am.map (fun _ => 0) else pts am (lev am x + 1)
noncomputable def highs (am : List (Int × Int)) (x : Int) : List Int := if x = 0 then am.map (fun _ => 0) else pts am (lev am x)
/-- a sum is spread between bounds -/
def sprd : Int → List (Int × Int) → List Int
  | _, [] => []
  | r, q :: l => (q.1 + min r (q.2 - q.1)) :: sprd (r - min r (q.2 - q.1)) l
noncomputable def pay (am : List (Int × Int)) (x : Int) : List Int := sprd (x - (lows am x).sum) ((lows am x).zip (highs am x))
/-- a row between bounds -/
def Betw : List Int → List Int → List Int → Prop
  | [], [], [] => True
  | a :: as, y :: ys, b :: bs => a ≤ y ∧ y ≤ b ∧ Betw as ys bs
  | _, _, _ => False
theorem Betw.len : ∀ {as ys bs : List Int}, Betw as ys bs → ys.length = as.length ∧ bs.length = as.length
  | [], [], [], _ => ⟨rfl, rfl⟩
  | _ :: _, _ :: _, _ :: _, h => by
    have := Betw.len h.2.2
    simp [this]
  | [], _ :: _, _, h => by simp [Betw] at h
  | [], [], _ :: _, h => by simp [Betw] at h
  | _ :: _, [], _, h => by simp [Betw] at h
  | _ :: _, _ :: _, [], h => by simp [Betw] at h
def Evs0 (evs : List Ev) : Prop := (∀ q, Sum.inr q ∈ evs → 1 ≤ q.2 ∧ 0 ≤ q.1 ∧ q.1 ≤ 24 * q.2) ∧ ∀ x, Sum.inl x ∈ evs → (0 : Int) ≤ x
theorem Evs0.tail {e : Ev} {evs : List Ev} (h : Evs0 (e :: evs)) : Evs0 evs := ⟨fun q hq => h.1 q (List.mem_cons_of_mem _ hq), fun x hx => h.2 x (List.mem_cons_of_mem _ hx)⟩
end P20

set_option Elab.async false
set_option linter.all false
set_option maxRecDepth 100000
set_option maxHeartbeats 4000000
/-! K5m: what is left behind a payment, and the best that can be left, plain. -/
namespace P20
open Mi L2
/-- the most that can be left -/
def best (am : List (Int × Int)) (x : Int) (k : Nat) : Int := min (FF am k) (FF am (k + 1) - x)
end P20

set_option Elab.async false
set_option linter.all false
set_option maxRecDepth 100000
set_option maxHeartbeats 4000000
/-! K6m: the row left behind a sparing payment, plain. -/
namespace P20
open Mi L2
theorem sumN_zero (row : List Int) : sumN row 0 = 0 := by cases row <;> rfl
end P20

set_option Elab.async false
set_option linter.all false
set_option maxRecDepth 100000
set_option maxHeartbeats 4000000
/-! K7m: few cards with a given row, plain. -/
namespace P20
open Mi L2
/-- what falls are worth: the first at day d -/
def WW (d : Nat) : List Int → Nat → Int
  | [], _ => 0
  | a :: r, k => a * ((min k d : Nat) : Int) + WW (d + 1) r k
/-- few cards -/
def few : Nat → List Int → List (Int × Int)
  | d, a :: b :: r =>
    if a = 0 then few (d + 1) (b :: r)
    else if b = 0 then ((d : Int) * (a + b) + b, a + b) :: few (d + 1) (b :: r)
    else ((d : Int) * (a + b) + b, a + b) :: few (d + 2) r
  | _, _ => []
termination_by _ l => l.length
end P20

set_option Elab.async false
set_option linter.all false
set_option maxRecDepth 100000
set_option maxHeartbeats 4000000
/-! D8m: one course is no harder than another. -/
namespace P20
/-- so many bills of a course, with this value -/
inductive Pk : List Ev → Nat → Int → Prop
  | nil : Pk [] 0 0
  | card {b l v : Int} {rest : List Ev} {k : Nat} (h : Pk rest k v) : Pk (.inr (b, l) :: rest) k (v - wor b l k)
  | skip {x v : Int} {rest : List Ev} {k : Nat} (h : Pk rest k v) : Pk (.inl x :: rest) k v
  | take {x v : Int} {rest : List Ev} {k : Nat} (h : Pk rest k v) : Pk (.inl x :: rest) (k + 1) (x + v)
theorem Pk.of {i : Int} {evs : List Ev} {s : List Int} {v : Int} (h : Sel i evs s v) : Pk evs s.length v := by
  induction h with
  | nil => exact .nil
  | card h ih => exact .card ih
  | skip h ih => exact .skip ih
  | take h ih => exact .take ih
theorem Pk.sel {evs : List Ev} {k : Nat} {v : Int} (h : Pk evs k v) : ∀ i : Int, ∃ s, Sel i evs s v ∧ s.length = k := by
  induction h with
  | nil => intro i; exact ⟨[], .nil i, rfl⟩
  | card h ih =>
    intro i
    obtain ⟨s, h1, h2⟩ := ih (i + 1)
    subst h2
    exact ⟨s, .card h1, rfl⟩
  | skip h ih => intro i; obtain ⟨s, h1, h2⟩ := ih (i + 1); exact ⟨s, .skip h1, h2⟩
  | take h ih => intro i; obtain ⟨s, h1, h2⟩ := ih (i + 1); exact ⟨i :: s, .take h1, by simp [h2]⟩
def Dom (e e' : List Ev) : Prop := ∀ k v, Pk e k v → ∃ k' v', Pk e' k' v' ∧ k' ≤ k ∧ v ≤ v'
theorem Pk.zero {evs : List Ev} (hc : ∀ q, Sum.inr q ∈ evs → (0 : Int) ≤ q.1) {k : Nat} {v : Int} (h : Pk evs k v) : k = 0 → v = 0 := by
  induction h with
  | nil => intro _; rfl
  | @card b l v rest k h ih =>
    intro e
    have h0 : (0 : Int) ≤ b := hc (b, l) List.mem_cons_self
    have := ih (fun q hq => hc q (List.mem_cons_of_mem _ hq)) e
    subst e
    rw [wor_zero h0]
    omega
  | skip h ih => intro e; exact ih (fun q hq => hc q (List.mem_cons_of_mem _ hq)) e
  | take h ih => intro e; cases e
theorem Falls.of_least {t : Int} {ss row : List Int} (h : Least t ss row) : Falls row := ⟨h.pos, h.falls⟩
theorem asks_at {evs : List Ev} {n : Nat} {s : Int} (h : (asks evs)[n]? = some s) : Pk evs (n + 1) s := by
  unfold asks at h
  rw [List.getElem?_drop, List.getElem?_map] at h
  cases e : (asked 0 evs)[1 + n]? with
  | none => rw [e] at h; cases h
  | some q =>
    rw [e] at h
    cases h
    obtain ⟨h1, h2, _⟩ := (asked_tab evs 0).at_ _ _ _ e
    have := Pk.of h2
    rw [h1, Nat.add_comm] at this
    exact this
theorem asks_le {evs : List Ev} {k : Nat} {v : Int} (h : Pk evs (k + 1) v) : ∃ s, (asks evs)[k]? = some s ∧ v ≤ s := by
  obtain ⟨s', h1, h2⟩ := h.sel 0
  have hl := h1.len
  have hk : k + 1 < (asked 0 evs).length := by rw [asked_len]; omega
  have e : (asked 0 evs)[k + 1]? = some (asked 0 evs)[k + 1] := List.getElem?_eq_getElem hk
  obtain ⟨_, _, h3⟩ := (asked_tab evs 0).at_ _ _ _ e
  refine ⟨_, ?_, h3 s' v h1 h2⟩
  unfold asks
  rw [List.getElem?_drop, List.getElem?_map, Nat.add_comm, e]
  rfl
theorem Dom.form {e e' : List Ev} {row row' : List Int} (hc : ∀ q, Sum.inr q ∈ e' → (0 : Int) ≤ q.1) (h : Dom e e') (r : Least 0 (asks e) row) (r' : Least 0 (asks e') row') : ∀ n, sumN row n ≤ sumN row' n := by
  have hn : ∀ x ∈ row', (0 : Int) ≤ x := fun x hx => Int.le_of_lt (r'.pos x hx)
  refine r.least (Falls.of_least r') fun n s hs => ?_
  obtain ⟨k', v', h1, h2, h3⟩ := h _ _ (asks_at hs)
  have h4 : v' ≤ sumN row' k' := by
    cases k' with
    | zero => rw [h1.zero hc rfl]; simp [sumN]
    | succ k =>
      obtain ⟨s', e1, e2⟩ := asks_le h1
      have := r'.cover k s' e1
      omega
  have h5 := sumN_le hn h2
  omega
theorem Dom.refl (e : List Ev) : Dom e e := fun k v h => ⟨k, v, h, Nat.le_refl _, Int.le_refl _⟩
theorem Dom.trans {a b c : List Ev} (h : Dom a b) (h2 : Dom b c) : Dom a c := fun k v hk => by
  obtain ⟨k', v', h1, h3, h4⟩ := h _ _ hk
  obtain ⟨k2, v2, h5, h6, h7⟩ := h2 _ _ h1
  exact ⟨k2, v2, h5, by omega, by omega⟩
/-! ### bills alone -/
def bl_ (bs : List Int) : List Ev := bs.map Sum.inl
def DomB (a b : List Int) : Prop := ∀ t : List Int, t.Sublist a → ∃ t' : List Int, t'.Sublist b ∧ t'.length ≤ t.length ∧ t.sum ≤ t'.sum
theorem DomB.trans {a b c : List Int} (h : DomB a b) (h2 : DomB b c) : DomB a c := fun t ht => by
  obtain ⟨t', h1, h3, h4⟩ := h _ ht
  obtain ⟨t2, h5, h6, h7⟩ := h2 _ h1
  exact ⟨t2, h5, by omega, by omega⟩
theorem DomB.sub {a b : List Int} (h : a.Sublist b) : DomB a b := fun t ht => ⟨t, ht.trans h, Nat.le_refl _, Int.le_refl _⟩
theorem DomB.perm {a b : List Int} (h : a.Perm b) : DomB a b := by
  induction h with
  | nil => exact fun t ht => ⟨t, ht, Nat.le_refl _, Int.le_refl _⟩
  | cons x h ih =>
    intro t ht
    rcases List.sublist_cons_iff.mp ht with h' | ⟨t', rfl, h'⟩
    · obtain ⟨t2, h1, h2, h3⟩ := ih t h'
      exact ⟨t2, .cons _ h1, h2, h3⟩
    · obtain ⟨t2, h1, h2, h3⟩ := ih t' h'
      exact ⟨x :: t2, .cons₂ _ h1, by simp; omega, by simp; omega⟩
  | swap x y l =>
    intro t ht
    rcases List.sublist_cons_iff.mp ht with h' | ⟨t', rfl, h'⟩
    · rcases List.sublist_cons_iff.mp h' with h2 | ⟨t2, rfl, h2⟩
      · exact ⟨t, .cons _ (.cons _ h2), Nat.le_refl _, Int.le_refl _⟩
      · exact ⟨x :: t2, .cons₂ _ (.cons _ h2), Nat.le_refl _, Int.le_refl _⟩
    · rcases List.sublist_cons_iff.mp h' with h2 | ⟨t2, rfl, h2⟩
      · exact ⟨y :: t', .cons _ (.cons₂ _ h2), Nat.le_refl _, Int.le_refl _⟩
      · exact ⟨x :: y :: t2, .cons₂ _ (.cons₂ _ h2), by simp, by simp; omega⟩
  | trans h1 h2 i1 i2 => exact i1.trans i2
/-- a bill 0 put in -/
theorem DomB.zero (a b : List Int) : DomB (a ++ 0 :: b) (a ++ b) := by
  refine (DomB.perm List.perm_middle).trans fun t ht => ?_
  rcases List.sublist_cons_iff.mp ht with h' | ⟨t', rfl, h'⟩
  · exact ⟨t, h', Nat.le_refl _, Int.le_refl _⟩
  · exact ⟨t', h', by simp, by simp⟩
/-- a bill parted in two -/
theorem DomB.part (a b : List Int) {x p : Int} (h0 : 0 ≤ p) (h1 : p ≤ x) : DomB (a ++ p :: b ++ [x - p]) (a ++ x :: b) := by
  have e : (a ++ p :: b ++ [x - p]).Perm (p :: (x - p) :: (a ++ b)) := by
    refine List.perm_append_comm.trans ?_
    refine (List.Perm.cons _ List.perm_middle).trans ?_
    exact .swap _ _ _
  refine (DomB.perm e).trans (DomB.trans ?_ (DomB.perm (List.perm_middle (l₁ := a) (l₂ := b) (a := x)).symm))
  intro t ht
  rcases List.sublist_cons_iff.mp ht with h' | ⟨t', rfl, h'⟩
  · rcases List.sublist_cons_iff.mp h' with h2 | ⟨t2, rfl, h2⟩
    · exact ⟨t, .cons _ h2, Nat.le_refl _, Int.le_refl _⟩
    · exact ⟨x :: t2, .cons₂ _ h2, by simp, by simp; omega⟩
  · rcases List.sublist_cons_iff.mp h' with h2 | ⟨t2, rfl, h2⟩
    · exact ⟨x :: t', .cons₂ _ h2, by simp, by simp; omega⟩
    · exact ⟨x :: t2, .cons₂ _ h2, by simp, by simp; omega⟩
theorem sub_sum {t a : List Int} (h : t.Sublist a) (h0 : ∀ x ∈ a, (0 : Int) ≤ x) : t.sum ≤ a.sum := by
  induction h with
  | slnil => exact Int.le_refl _
  | cons x h ih =>
    have := ih fun y hy => h0 y (List.mem_cons_of_mem _ hy)
    have := h0 x List.mem_cons_self
    simp; omega
  | cons_cons x h ih =>
    have := ih fun y hy => h0 y (List.mem_cons_of_mem _ hy)
    simp; omega
/-- the first ones made one -/
theorem DomB.join (a b : List Int) (h0 : ∀ x ∈ a, (0 : Int) ≤ x) : DomB (a ++ b) ([a.sum] ++ b) := fun t ht => by
  obtain ⟨t1, t2, rfl, h1, h2⟩ := List.sublist_append_iff.mp ht
  cases t1 with
  | nil => exact ⟨t2, .cons _ h2, by simp, by simp⟩
  | cons y t1 =>
    have := sub_sum h1 h0
    refine ⟨a.sum :: t2, .cons₂ _ h2, by simp, ?_⟩
    rw [List.sum_append, List.sum_cons (a := a.sum)]
    omega
/-! ### one card amid the bills -/
end P20


set_option Elab.async false
set_option linter.all false
set_option maxRecDepth 100000
set_option maxHeartbeats 4000000
/-! F1m: forms by their sums, plain. -/
namespace P20
open Mi L2
theorem falls_of_pw {r : List Int} (h : r.Pairwise (· ≥ ·)) (p : ∀ x ∈ r, 0 < x) : Falls r := by
  refine ⟨p, fun k x y e1 e2 => ?_⟩
  obtain ⟨h1, rfl⟩ := List.getElem?_eq_some_iff.mp e1
  obtain ⟨h2, rfl⟩ := List.getElem?_eq_some_iff.mp e2
  exact List.pairwise_iff_getElem.mp h k (k + 1) h1 h2 (by omega)
/-! ### sums that rise ever less -/
def dif (f : Nat → Int) (n : Nat) : List Int := (List.range n).map fun k => f (k + 1) - f k
def posL (l : List Int) : List Int := l.filter fun x => decide (0 < x)
theorem dif_len (f : Nat → Int) (n : Nat) : (dif f n).length = n := by simp [dif]
theorem dif_sum {f : Nat → Int} (f0 : f 0 = 0) (n : Nat) : ∀ k, sumN (dif f n) k = f (min k n)
  | 0 => by rw [sumN_zero, Nat.zero_min, f0]
  | k + 1 => by
    rw [sumN_app, dif_sum f0 n k, List.getD_eq_getElem?_getD]
    unfold dif
    by_cases hk : k < n
    · rw [List.getElem?_map, List.getElem?_range hk, show min k n = k by omega, show min (k + 1) n = k + 1 by omega]
      show f k + (f (k + 1) - f k) = _
      omega
    · rw [List.getElem?_eq_none (by simpa using hk), show min k n = n by omega, show min (k + 1) n = n by omega]
      show f n + 0 = _
      omega
theorem chain_le {f : Nat → Int} {n : Nat} (c : ∀ k, k + 2 ≤ n → f (k + 2) - f (k + 1) ≤ f (k + 1) - f k) {i : Nat} : ∀ j : Nat, i ≤ j → j < n → f (j + 1) - f j ≤ f (i + 1) - f i
  | 0, hij, _ => by cases Nat.le_zero.mp hij; exact Int.le_refl _
  | j + 1, hij, hj => by
    by_cases e : i = j + 1
    · subst e; exact Int.le_refl _
    · have := chain_le (n := n) c (i := i) j (by omega) (by omega)
      have h2 : f (j + 1 + 1) - f (j + 1) ≤ f (j + 1) - f j := c j (by omega)
      omega
theorem dif_pw {f : Nat → Int} {n : Nat} (c : ∀ k, k + 2 ≤ n → f (k + 2) - f (k + 1) ≤ f (k + 1) - f k) : (dif f n).Pairwise (· ≥ ·) := by
  refine List.pairwise_iff_getElem.mpr fun i j hi hj hij => ?_
  have e : ∀ (i : Nat) (h : i < (dif f n).length), (dif f n)[i] = f (i + 1) - f i := fun i h => by simp [dif]
  rw [e, e]
  rw [dif_len] at hi hj
  exact chain_le c j (by omega) hj
theorem posL_sum : ∀ {l : List Int}, l.Pairwise (· ≥ ·) → (∀ x ∈ l, 0 ≤ x) → ∀ k, sumN (posL l) k = sumN l k
  | [], _, _, k => rfl
  | d :: t, hp, h0, k => by
    obtain ⟨p1, p2⟩ := List.pairwise_cons.mp hp
    have ih := posL_sum p2 fun x hx => h0 x (List.mem_cons_of_mem _ hx)
    by_cases hd : 0 < d
    · have e : posL (d :: t) = d :: posL t := List.filter_cons_of_pos (by simpa using hd)
      rw [e]
      cases k with
      | zero => rfl
      | succ k =>
        show d + sumN (posL t) k = d + sumN t k
        rw [ih]
    · have hd0 : d = 0 := by have := h0 d List.mem_cons_self; omega
      have ht : ∀ x ∈ t, x = 0 := fun x hx => by
        have h1 := p1 x hx
        have h2 := h0 x (List.mem_cons_of_mem _ hx)
        omega
      have e : posL (d :: t) = [] := List.filter_eq_nil_iff.mpr fun x hx => by
        rcases List.mem_cons.mp hx with rfl | hx
        · simpa using hd
        · rw [ht x hx]; decide
      have z : ∀ (l : List Int), (∀ x ∈ l, x = 0) → ∀ k, sumN l k = 0 := by
        intro l
        induction l with
        | nil => intro _ k; exact sumN_nil k
        | cons a l ih =>
          intro h k
          cases k with
          | zero => rfl
          | succ k =>
            show a + sumN l k = 0
            rw [ih (fun x hx => h x (List.mem_cons_of_mem _ hx)), h a List.mem_cons_self]
            rfl
      rw [e, sumN_nil, z (d :: t) fun x hx => by
        rcases List.mem_cons.mp hx with e | hx
        · rw [e]; exact hd0
        · exact ht x hx]
theorem posL_falls {l : List Int} (h : l.Pairwise (· ≥ ·)) : Falls (posL l) := falls_of_pw (h.sublist List.filter_sublist) fun x hx => by
  have := (List.mem_filter.mp hx).2
  simpa using this
theorem posL_len (l : List Int) : (posL l).length ≤ l.length := List.length_filter_le _ _
/-- the row of sums that rise ever less -/
theorem row_of_sums {f : Nat → Int} {n : Nat} (f0 : f 0 = 0) (c : ∀ k, k + 2 ≤ n → f (k + 2) - f (k + 1) ≤ f (k + 1) - f k) (m : ∀ k, k < n → f k ≤ f (k + 1)) :
    Falls (posL (dif f n)) ∧ (posL (dif f n)).length ≤ n ∧ ∀ k, sumN (posL (dif f n)) k = f (min k n) := by
  have hp := dif_pw c
  refine ⟨posL_falls hp, by have := posL_len (dif f n); rw [dif_len] at this; exact this, fun k => ?_⟩
  rw [posL_sum hp (fun x hx => ?_), dif_sum f0]
  unfold dif at hx
  obtain ⟨i, hi, rfl⟩ := List.mem_map.mp hx
  have := m i (List.mem_range.mp hi)
  omega
theorem falls_eq {a b : List Int} (ha : Falls a) (hb : Falls b) (h : ∀ n, sumN a n = sumN b n) : a = b := pos_uniq ha.1 hb.1 h
theorem sumN_up {row : List Int} (h : Falls row) (k : Nat) : sumN row k ≤ sumN row (k + 1) := sumN_mono (fun x hx => by have := h.1 x hx; omega) k
theorem sumN_end {row : List Int} {n : Nat} (hl : row.length ≤ n) (k : Nat) : sumN row (min k n) = sumN row k := by
  by_cases h : k ≤ n
  · rw [Nat.min_eq_left h]
  · rw [Nat.min_eq_right (by omega), sumN_flat row n hl, sumN_flat row k (by omega)]
end P20

set_option Elab.async false
set_option linter.all false
set_option maxRecDepth 100000
set_option maxHeartbeats 4000000
namespace Mi
open PySem L2
/-- a comprehension over data made of plain things, that draws nothing -/
theorem ok_lcm {α : Type} {g : MG} {mt : MT} {me : ME} {ρ : Env} {u : PuS} {xs : List α} {f : α → D} (r : α → Env) (t : α → Bool) (e : α → D) {P : List D → PuS → Prop} (h1 : ∀ x ∈ xs, g (f x) ρ = some (r x)) (h2 : ∀ x ∈ xs, Ok (mt (r x)) u fun b u' => b = t x ∧ u' = u)
    (h3 : ∀ x ∈ xs, t x = true → Ok (me (r x)) u fun b u' => b = e x ∧ u' = u) (h : P ((xs.filter t).map e) u) : Ok (lcD g mt me ρ (xs.map f)) u P := by
  have : lcD g mt me ρ (xs.map f) u = some ((xs.filter t).map e, u) := by
    clear h
    induction xs with
    | nil => rfl
    | cons x xs ih =>
      have ih := ih (fun y hy => h1 y (List.mem_cons_of_mem _ hy)) (fun y hy => h2 y (List.mem_cons_of_mem _ hy)) (fun y hy => h3 y (List.mem_cons_of_mem _ hy))
      refine eq_of_ok ?_
      rw [List.map_cons]
      unfold lcD
      rw [ok_bind, ok_lft]
      refine ⟨_, h1 x List.mem_cons_self, ?_⟩
      rw [ok_bind, ok_of (eq_of_ok (h2 x List.mem_cons_self))]
      cases ht : t x with
      | false =>
        rw [if_neg (by decide), ok_of ih]
        simp [ht]
      | true =>
        rw [if_pos rfl, ok_bind, ok_of (eq_of_ok (h3 x List.mem_cons_self ht)), ok_bind, ok_of ih, ok_pure]
        simp [ht]
  exact (ok_of this).mpr h
/-- .. of all items -/
theorem ok_lca {α : Type} {g : MG} {me : ME} {ρ : Env} {u : PuS} {xs : List α} {f : α → D} (r : α → Env) (e : α → D) {P : List D → PuS → Prop} (h1 : ∀ x ∈ xs, g (f x) ρ = some (r x))
    (h3 : ∀ x ∈ xs, Ok (me (r x)) u fun b u' => b = e x ∧ u' = u) (h : P (xs.map e) u) : Ok (lcD g mYes me ρ (xs.map f)) u P :=
  ok_lcm r (fun _ => true) e h1 (fun x hx => by simp) (fun x hx _ => h3 x hx) (by rw [List.filter_eq_self.mpr fun _ _ => rfl]; exact h)
/-- .. of all items of a range -/
theorem ok_lcra {g : MG} {me : ME} {ρ : Env} {u : PuS} {lo : Int} {n : Nat} (r : Nat → Env) (e : Nat → D) {P : List D → PuS → Prop} (h1 : ∀ i, i < n → g (.int (lo + (i : Nat))) ρ = some (r i))
    (h3 : ∀ i, i < n → Ok (me (r i)) u fun b u' => b = e i ∧ u' = u) (h : P ((List.range n).map e) u) : Ok (lcD g mYes me ρ (rngD lo n)) u P :=
  ok_lcr r (fun _ => true) e h1 (fun i hi => by simp) (fun i hi _ => h3 i hi) (by rw [List.filter_eq_self.mpr fun _ _ => rfl]; exact h)
end Mi
namespace Sh
open PySem L2 Mi P20
def prD (q : Int × Int) : D := .tup [.int q.1, .int q.2]
theorem sumsFrom_at : ∀ (row : List Int) (t : Int) (k : Nat), k < row.length → (sumsFrom t row)[k]? = some (t + sumN row (k + 1))
  | [], t, k, h => by simp at h
  | x :: row, t, 0, h => by simp [sumsFrom, sumN]
  | x :: row, t, k + 1, h => by
    show (sumsFrom (t + x) row)[k]? = some (t + (x + sumN row (k + 1)))
    rw [sumsFrom_at row (t + x) k (by simpa using h)]
    congr 1
    omega
theorem sums_at (row : List Int) (k : Nat) (h : k ≤ row.length) : (0 :: sumsFrom 0 row)[k]? = some (sumN row k) := by
  cases k with
  | zero => rfl
  | succ k =>
    show (sumsFrom 0 row)[k]? = _
    rw [sumsFrom_at row 0 k (by omega)]
    simp
end Sh

set_option Elab.async false
set_option linter.all false
set_option maxRecDepth 100000
set_option maxHeartbeats 4000000
/-! ShWl: what number_at, sums_for, both_sums, at_most, Form.within answer. -/
namespace Sh
open PySem L2 Mi P20
theorem number_at_ok {row : List Int} {k : Nat} {u : PuS} {P : D → PuS → Prop} (h : P (.int (row.getD k 0)) u) : Ok (mf_number_at [.tup (row.map D.int), .int k]) u P := by
  unfold mf_number_at mb_number_at
  simp
  refine brd (fun z => ?_) (fun z => ?_)
  · have z' : k < row.length := by omega
    have e : row[k]? = some row[k] := List.getElem?_eq_getElem z'
    rw [getI e]
    simp
    rw [List.getD_eq_getElem?_getD, e] at h
    exact h
  · rw [List.getD_eq_getElem?_getD, List.getElem?_eq_none (by omega)] at h
    exact h
/-- the first so many numbers, filled up with 0 -/
def pad (row : List Int) (n : Nat) : List Int := (List.range n).map fun k => row.getD k 0
theorem pad_sum (row : List Int) (n : Nat) : ∀ k, k ≤ n → sumN (pad row n) k = sumN row k := by
  intro k
  induction k with
  | zero => intro _; rfl
  | succ k ih =>
    intro hk
    rw [sumN_app, sumN_app, ih (by omega)]
    congr 1
    unfold pad
    rw [List.getD_eq_getElem?_getD, List.getElem?_map, List.getElem?_range (by omega)]
    rfl
theorem pad_len (row : List Int) (n : Nat) : (pad row n).length = n := by simp [pad]
theorem sums_of_lst {row : List Int} (hl : row.length ≤ 24) {u : PuS} {P : D → PuS → Prop} (hp : P (.lst ((0 :: sumsFrom 0 row).map D.int)) u) : Ok (mf_sums_of [.lst (row.map D.int)]) u P := by
  unfold mf_sums_of mb_sums_of
  simp
  refine ok_list (row.map D.int) (fun k ρ u' => u' = u ∧ ∃ (pre : List Int) (t : Int) (w : Sd), pre.length = k ∧ (pre ++ [t]) ++ sumsFrom t (row.drop k) = 0 :: sumsFrom 0 row ∧ ρ = [.sh (.lst (row.map D.int)), .ow ((pre ++ [t]).map D.int), w]) ?_ ?_ _ _ ⟨rfl, [], 0, _, rfl, rfl, rfl⟩
  · rintro k d ρ u' e ⟨rfl, pre, t, w, hk, hs, rfl⟩
    have hkl : k < row.length := by have := (List.getElem?_eq_some_iff.mp e).1; simpa using this
    have ed : d = .int row[k] := by rw [List.getElem?_map, List.getElem?_eq_getElem hkl] at e; exact (Option.some.inj e).symm
    subst ed
    unfold lb_sums_of_1
    have e1 : atI ((pre ++ [t]).map D.int) (-1) = some (.int t) := by rw [List.map_append]; exact at_last
    simp at e1
    simp [e1]
    refine ⟨by omega, pre ++ [t], by simp [hk], ?_, by simp⟩
    rw [← hs, List.drop_eq_getElem_cons hkl]
    simp [sumsFrom]
  · rintro ρ u' ⟨rfl, pre, t, w, hk, hs, rfl⟩
    rw [List.length_map] at hk
    rw [List.drop_eq_nil_of_le (by simp)] at hs
    simp only [sumsFrom, List.append_nil] at hs
    rw [← hs] at hp
    simpa using hp
def sumsTo (row : List Int) (n : Nat) : List Int := (List.range (n + 1)).map (sumN row)
theorem sums_for_ok {row : List Int} {n : Nat} (hn : n ≤ 24) {u : PuS} {P : D → PuS → Prop} (h : P (.lst ((sumsTo row n).map D.int)) u) : Ok (mf_sums_for [.tup (row.map D.int), .int n]) u P := by
  unfold mf_sums_for mb_sums_for
  simp
  refine ⟨by omega, by rw [rngD_len]; omega, ?_⟩
  refine ok_lcra (fun i => [.sh (.tup (row.map D.int)), .sh (.int n), .sh (.int (0 + (i : Nat)))]) (fun i => .int (row.getD i 0)) ?_ ?_ ?_
  · intro i hi; rfl
  · intro i hi
    unfold ce_sums_for_1
    simp
    exact number_at_ok ⟨rfl, rfl⟩
  have e : (List.range n).map (fun i => D.int (row.getD i 0)) = (pad row n).map D.int := by unfold pad; rw [List.map_map]; rfl
  rw [e]
  refine sums_of_lst (by rw [pad_len]; exact hn) ?_
  have e2 : (0 :: sumsFrom 0 (pad row n)) = sumsTo row n := by
    apply List.ext_getElem?
    intro i
    by_cases hi : i ≤ n
    · rw [sums_at _ _ (by rw [pad_len]; exact hi), pad_sum row n i hi]
      unfold sumsTo
      rw [List.getElem?_map, List.getElem?_range (by omega)]
      rfl
    · rw [List.getElem?_eq_none (by rw [List.length_cons, sumsFrom_len, pad_len]; omega), List.getElem?_eq_none (by unfold sumsTo; simp; omega)]
  rw [e2]
  exact h
def bsum (a b : List Int) (n : Nat) : List (Int × Int) := (List.range (n + 1)).map fun k => (sumN a k, sumN b k)
theorem both_sums_ok {a b : List Int} (ha : a.length ≤ 24) (hb : b.length ≤ 24) {u : PuS} {P : D → PuS → Prop} (h : P (.lst ((bsum a b (max a.length b.length)).map prD)) u) : Ok (mf_both_sums [.tup (a.map D.int), .tup (b.map D.int)]) u P := by
  unfold mf_both_sums mb_both_sums
  have em : (if a.length < b.length then (b.length : Int) else (a.length : Int)) = ((max a.length b.length : Nat) : Int) := by split <;> omega
  simp only [ok_fn, s_start, List.map_cons, List.map_nil]
  refine seq_go fun K R hK hR => ?_
  simp
  rw [em]
  refine hK _ _ ?_
  clear hK hR K R
  generalize hn : max a.length b.length = n at h
  simp
  refine sums_for_ok (by omega) ?_
  refine sums_for_ok (by omega) ?_
  have ez : zpL [.lst ((sumsTo a n).map D.int), .lst ((sumsTo b n).map D.int)] = some (.lst ((bsum a b n).map prD)) := by
    show some (D.lst (zipD _ _)) = _
    congr 2
    apply List.ext_getElem?
    intro i
    cases hz : (zipD ((sumsTo a n).map D.int) ((sumsTo b n).map D.int))[i]? with
    | none =>
      have h1 := List.getElem?_eq_none_iff.mp hz
      rw [zipD_len] at h1
      rw [List.getElem?_eq_none (by unfold bsum; simp [sumsTo] at h1 ⊢; omega)]
    | some d =>
      obtain ⟨x', y', e1, e2, rfl⟩ := zipD_at hz
      have hi : i < n + 1 := by
        have := (List.getElem?_eq_some_iff.mp e1).1
        simpa [sumsTo] using this
      unfold sumsTo at e1 e2
      rw [List.getElem?_map, List.getElem?_map, List.getElem?_range hi] at e1 e2
      cases e1
      cases e2
      unfold bsum
      rw [List.getElem?_map, List.getElem?_map, List.getElem?_range hi]
      rfl
  rw [ez]
  simp
  exact h
theorem check_form_ok {row : List Int} {u : PuS} {P : D → PuS → Prop} (h : P .non u) : Ok (mf_check_form [formD row]) u P := by
  unfold mf_check_form mb_check_form
  have e : isiD [formD row, .cls "Form"] = some (.bl true) := rfl
  simp [e]
  exact h
end Sh

set_option Elab.async false
set_option linter.all false
set_option maxRecDepth 100000
set_option maxHeartbeats 4000000
/-! ShXl: what is_bills, pays_bills and in of a form answer. -/
namespace Sh
open PySem L2 Mi P20
theorem srtT_ints (b : Bool) (ns : List Int) : srtT b [.tup (ns.map D.int)] = some ((srtI b ns).map D.int) := by
  show (intsD (ns.map D.int)).map _ = _
  rw [intsD_map]
  rfl
theorem is_bills_ok {bs : List Int} (h0 : ∀ x ∈ bs, (0 : Int) ≤ x) (hl : bs.length ≤ 1000) {u : PuS} {P : D → PuS → Prop} (h : P (.bl true) u) : Ok (mf_is_bills [.tup (bs.map D.int)]) u P := by
  unfold mf_is_bills mb_is_bills
  have e : isiD [.tup (bs.map D.int), .ty "tuple"] = some (.bl true) := rfl
  simp [e]
  refine ⟨by omega, ?_⟩
  refine ok_lca (fun x : Int => [.sh (.tup (bs.map D.int)), .sh (.int x)]) (fun x => .bl true) ?_ ?_ ?_
  · intro x hx; rfl
  · intro x hx
    unfold ce_is_bills_1
    simp [h0 x hx]
  have e2 : bs.map (fun _ => D.bl true) = (bs.map fun _ => true).map D.bl := by rw [List.map_map]; rfl
  rw [e2]
  have ea : allD [.lst ((bs.map fun _ => true).map D.bl)] = some (.bl true) := by
    show (blsD _).map (fun bs => D.bl (bs.all id)) = _
    rw [blsD_map]
    simp
  rw [ea]
  simp
  exact h
theorem pays_bills_ok {row bs : List Int} (hl : bs.length ≤ 1000) {u : PuS} {P : D → PuS → Prop} (h : ∀ r : Bool, (r = true ↔ ∀ k, k ≤ bs.length → ((srtI true bs).take k).sum ≤ sumN row k) → P (.bl r) u) : Ok (mf_pays_bills [.tup (row.map D.int), .tup (bs.map D.int)]) u P := by
  unfold mf_pays_bills mb_pays_bills
  rw [ok_fn]
  refine seq_go fun K R hK hR => ?_
  simp
  refine hK _ _ ?_
  clear hK hR K R
  have hfl : (srtI true bs).length = bs.length := (srtI_perm true bs).length_eq
  refine seq_go fun K R hK hR => ?_
  simp [srtT_ints]
  generalize srtI true bs = fs at h hfl
  refine ok_list (enumD (fs.map D.int)) (fun k ρ u' => u' = u ∧ (∀ j, j ≤ k → (fs.take j).sum ≤ sumN row j) ∧ ∃ a b : Sd, ρ = [.sh (.tup (row.map D.int)), .sh (.tup (bs.map D.int)), .sh (.int (fs.take k).sum), .sh (.int (sumN row k)), a, b]) ?_ ?_ _ _ ⟨rfl, fun j hj => by cases Nat.le_zero.mp hj; simp [sumN], .un, .un, by simp [sumN]⟩
  · rintro k d ρ u' e ⟨rfl, hs, a, b, rfl⟩
    obtain ⟨x, ex, rfl⟩ := enumD_ints e
    have hk : k < fs.length := (List.getElem?_eq_some_iff.mp ex).1
    refine ⟨_, rfl, ?_⟩
    refine st_go fun R0 hR0 => ?_
    unfold lb_pays_bills_1
    have et : (fs.take (k + 1)).sum = (fs.take k).sum + x := by
      rw [List.take_succ_eq_append_getElem hk, List.sum_append]
      rw [List.getElem?_eq_getElem hk] at ex
      cases ex
      simp
    have er : sumN row (k + 1) = sumN row k + row[k]?.getD 0 := by rw [sumN_app k row, List.getD_eq_getElem?_getD]
    refine seq_go fun K1 R1 hK1 hR1 => ?_
    simp
    refine number_at_ok ?_
    simp
    refine hK1 _ _ ?_
    clear hK1 hR1 K1 R1
    simp
    refine brd (fun z => ?_) (fun z => ?_)
    · refine hR0 _ _ (hR _ _ (h false ?_))
      constructor
      · intro z; cases z
      · intro hh
        have := hh (k + 1) (by omega)
        rw [et, er] at this
        omega
    · refine hR0 _ _ ⟨rfl, fun j hj => ?_, .sh (.int k), .sh (.int x), ?_⟩
      · by_cases e1 : j = k + 1
        · subst e1; rw [et, er]; omega
        · exact hs j (by omega)
      · rw [et, er]
  · rintro ρ u' ⟨rfl, hs, a, b, rfl⟩
    refine hK _ _ ?_
    simp
    refine h true ⟨fun _ k hk => hs k ?_, fun _ => rfl⟩
    rw [show (enumD (fs.map D.int)).length = fs.length by unfold enumD; simp]
    omega
theorem contains_ok {row bs : List Int} (h0 : ∀ x ∈ bs, (0 : Int) ≤ x) (hl : bs.length ≤ 1000) {u : PuS} {P : D → PuS → Prop} (h : ∀ r : Bool, (r = true ↔ ∀ k, k ≤ bs.length → ((srtI true bs).take k).sum ≤ sumN row k) → P (.bl r) u) : Ok (mf_Form___contains__ [formD row, .tup (bs.map D.int)]) u P := by
  unfold mf_Form___contains__ mb_Form___contains__ formD
  simp
  refine is_bills_ok h0 hl ?_
  simp
  exact pays_bills_ok hl h
/-- a falling row sorted is itself -/
theorem falls_pw : ∀ (row : List Int), Falls row → row.Pairwise (· ≥ ·)
  | [], _ => .nil
  | x :: row, h => by
    refine List.pairwise_cons.mpr ⟨fun y hy => ?_, falls_pw row h.tail⟩
    obtain ⟨k, hk⟩ := List.mem_iff_getElem?.mp hy
    exact h.all_le k y hk
theorem srt_falls {row : List Int} (h : Falls row) : srtI true row = row := by
  refine ordB_uniq (b := true) (srtI_ord true row) ?_ (srtI_perm true row)
  unfold OrdB
  simp
  exact falls_pw row h
theorem contains_row {row other : List Int} (hF : Falls other) (hn : ∀ x ∈ row, (0 : Int) ≤ x) (hl : other.length ≤ 1000) {u : PuS} {P : D → PuS → Prop} (h : ∀ r : Bool, (r = true ↔ ∀ k, sumN other k ≤ sumN row k) → P (.bl r) u) : Ok (mf_Form___contains__ [formD row, .tup (other.map D.int)]) u P := by
  refine contains_ok (fun x hx => Int.le_of_lt (hF.1 x hx)) hl fun r hr => h r ?_
  rw [hr, srt_falls hF]
  have st : ∀ (row : List Int) (n : Nat), (row.take n).sum = sumN row n := by
    intro row n
    induction n generalizing row with
    | zero => simp [sumN]
    | succ n ih =>
      cases row with
      | nil => rw [sumN_nil]; simp
      | cons x row => rw [List.take_succ_cons, List.sum_cons, ih row]; rfl
  constructor
  · intro hh k
    by_cases hk : k ≤ other.length
    · have := hh k hk; rw [st] at this; exact this
    · have h1 := hh other.length (Nat.le_refl _)
      rw [st] at h1
      rw [sumN_flat other k (by omega)]
      have := sumN_le hn (show other.length ≤ k by omega)
      omega
  · intro hh k _
    rw [st]
    exact hh k
end Sh

set_option Elab.async false
set_option linter.all false
set_option maxRecDepth 100000
set_option maxHeartbeats 4000000
/-! F1l: drawn rows with their bounds, repr of plain data, the operators of forms. -/
namespace S1
open PySem L2 Mi P20 Sh
def big : Int := 1000000000000000000000000000000
theorem large_big {u : PuS} (hu : Pu u) {P : D → PuS → Prop} (h : ∀ r u', 0 ≤ r → r < big → Pu u' → P (.int r) u') : Ok (mf__law_large [.pur]) u P := by
  unfold mf__law_large mb__law_large
  simp
  refine draw_ok (by decide) hu fun r u1 h0 h6 hu1 => ?_
  simp
  refine ⟨by omega, ?_⟩
  refine ok_range 0 r.toNat (fun k ρ u => Pu u ∧ ∃ n t, 0 ≤ n ∧ n < 1000000 ^ k ∧ ρ = [.sh .pur, .sh (.int n), t]) ?_ ?_ _ _ ⟨hu1, 0, _, by decide, by decide, rfl⟩
  · rintro k ρ u hk ⟨hu, n, t, hn, hb, rfl⟩
    refine ⟨_, rfl, ?_⟩
    refine st_go fun R0 hR0 => ?_
    simp
    refine draw_ok (by decide) hu fun r u1 h0 h6 hu1 => ?_
    simp
    refine hR0 _ _ ⟨hu1, _, _, ?_, ?_, rfl⟩
    · omega
    · rw [Int.pow_succ]
      omega
  · rintro ρ u ⟨hu, n, t, hn, hb, rfl⟩
    simp
    refine h _ _ hn ?_ hu
    have : (1000000 : Int) ^ r.toNat ≤ 1000000 ^ 5 := by
      have h5 : r.toNat ≤ 5 := by omega
      rcases Nat.lt_or_ge r.toNat 1 with z | z
      · rw [show r.toNat = 0 by omega]; decide
      · rcases Nat.lt_or_ge r.toNat 2 with z | z
        · rw [show r.toNat = 1 by omega]; decide
        · rcases Nat.lt_or_ge r.toNat 3 with z | z
          · rw [show r.toNat = 2 by omega]; decide
          · rcases Nat.lt_or_ge r.toNat 4 with z | z
            · rw [show r.toNat = 3 by omega]; decide
            · rcases Nat.lt_or_ge r.toNat 5 with z | z
              · rw [show r.toNat = 4 by omega]; decide
              · rw [show r.toNat = 5 by omega]; exact Int.le_refl _
    have e : (1000000 : Int) ^ 5 = big := by decide
    omega
theorem rowl_big {u : PuS} (hu : Pu u) {m : Nat} (hm : m ≤ 30) {x : Int} (hx : 0 < x) (hxb : x ≤ big) {P : Fl → PuS → Prop} (h : ∀ (ns : List Int) s t w u', ns.length = m → ns.Pairwise (· ≤ ·) → (∀ y ∈ ns, 0 < y ∧ y ≤ 31 * big) → Pu u' → P (.nx [.sh .pur, .sh (.int m), .ow (ns.map D.int), s, t, w]) u') :
    Ok (loopD (mGn 4) lb__law_row_1 (rngD 0 m) [.sh .pur, .sh (.int m), .ow [], .sh (.int x), .un, .un]) u P := by
  refine ok_range 0 m (fun k ρ u => Pu u ∧ ∃ (ns : List Int) (n : Int) (t w : Sd), ns.length = k ∧ ns.Pairwise (· ≤ ·) ∧ (∀ y ∈ ns, 0 < y ∧ y ≤ n) ∧ 0 < n ∧ n ≤ (k + 1 : Nat) * big ∧ ρ = [.sh .pur, .sh (.int m), .ow (ns.map D.int), .sh (.int n), t, w]) ?_ ?_ _ _ ⟨hu, [], x, _, _, rfl, .nil, (fun y hy => by cases hy), hx, by simpa using hxb, rfl⟩
  · rintro k ρ u hk ⟨hu, ns, n, t, w, hn, hp, hy, hn0, hnb, rfl⟩
    unfold lb__law_row_1
    refine ⟨_, rfl, ?_⟩
    refine st_go fun R0 hR0 => ?_
    have nxt : ∀ (y : Int) (u' : PuS) (a b : Sd), 0 ≤ y → y < big → Pu u' → R0 (.nx [.sh .pur, .sh (.int m), .ow (ns.map D.int ++ [D.int n]), .sh (.int (n + y)), a, b]) u' := fun y u' a b y0 yb hu' =>
      hR0 _ _ ⟨hu', ns ++ [n], n + y, a, b, by simp [hn], by
        refine List.pairwise_append.mpr ⟨hp, List.pairwise_singleton _ _, fun z hz w hw => ?_⟩
        rw [List.mem_singleton.mp hw]
        exact (hy z hz).2, fun z hz => by
        rcases List.mem_append.mp hz with hz | hz
        · have := hy z hz; omega
        · rw [List.mem_singleton.mp hz]; omega, by omega, by
        rw [show ((k + 1 + 1 : Nat) : Int) = ((k + 1 : Nat) : Int) + 1 by omega, Int.add_mul, Int.one_mul]
        omega, by simp⟩
    have nx0 : ∀ (u' : PuS) (a b : Sd), Pu u' → R0 (.nx [.sh .pur, .sh (.int m), .ow (ns.map D.int ++ [D.int n]), .sh (.int n), a, b]) u' := fun u' a b hu' => by
      have := nxt 0 u' a b (by omega) (by decide) hu'
      rw [Int.add_zero] at this
      exact this
    refine seq_go fun K R hK hR => ?_
    simp
    refine ⟨by omega, ?_⟩
    refine hK _ _ ?_
    clear hK hR K R
    refine seq_go fun K R hK hR => ?_
    simp
    refine draw_ok (by decide) hu fun r u1 h0 h6 hu1 => hK _ _ ?_
    clear hK hR K R
    simp
    refine brd (fun h1 => ?_) (fun h1 => ?_)
    · refine brd (fun h4 => ?_) (fun h4 => ?_)
      · refine draw_ok (by decide) hu1 fun r2 u2 r0 r8 hu2 => ?_
        exact ⟨_, rfl, nxt _ _ _ _ r0 (by unfold big; omega) hu2⟩
      · refine large_big hu1 fun r2 u2 r0 rb hu2 => ?_
        exact ⟨_, rfl, nxt _ _ _ _ r0 rb hu2⟩
    · exact nx0 _ _ _ hu1
  · rintro ρ u ⟨hu, ns, n, t, w, hn, hp, hy, hn0, hnb, rfl⟩
    refine h ns _ t w u hn hp (fun y h1 => ⟨(hy y h1).1, ?_⟩) hu
    have h2 := (hy y h1).2
    have h3 : ((m + 1 : Nat) : Int) * big ≤ 31 * big := Int.mul_le_mul_of_nonneg_right (by omega) (by decide)
    omega
def Row31 (ns : List Int) : Prop := Falls ns ∧ ∀ x ∈ ns, x ≤ 31 * big
theorem row_big {u : PuS} (hu : Pu u) {m : Nat} (hm : m ≤ 30) {P : D → PuS → Prop} (h : ∀ (ns : List Int) u', ns.length = m → Row31 ns → Pu u' → P (.tup (ns.map D.int)) u') : Ok (mf__law_row [.pur, .int m]) u P := by
  have fin : ∀ (ns : List Int) (u' : PuS), ns.length = m → ns.Pairwise (· ≤ ·) → (∀ y ∈ ns, 0 < y ∧ y ≤ 31 * big) → Pu u' → P (.tup (ns.reverse.map D.int)) u' := fun ns u' hn hp hy hu' =>
    h _ _ (by simp [hn]) ⟨falls_of_pw (List.pairwise_reverse.mpr hp) fun y h1 => (hy y (List.mem_reverse.mp h1)).1, fun y h1 => (hy y (List.mem_reverse.mp h1)).2⟩ hu'
  unfold mf__law_row mb__law_row
  simp
  refine draw_ok (by decide) hu fun r u1 h0 h6 hu1 => ?_
  by_cases h1 : 0 < r
  · simp [h1]
    refine draw_ok (by decide) hu1 fun r2 u2 _ _ hu2 => ?_
    simp
    refine ⟨by omega, rowl_big hu2 hm (by omega) (by unfold big; omega) fun ns s t w u' hn hp hy hu' => ?_⟩
    simp
    rw [← List.map_reverse]
    exact fin _ _ hn hp hy hu'
  · simp [h1]
    refine large_big hu1 fun r2 u2 _ _ hu2 => ?_
    simp
    refine ⟨by omega, rowl_big hu2 hm (by omega) (by omega) fun ns s t w u' hn hp hy hu' => ?_⟩
    simp
    rw [← List.map_reverse]
    exact fin _ _ hn hp hy hu'
end S1
namespace Sh
open PySem L2 Mi P20
/-! ### repr of plain data -/
def Rp (k n : Nat) (d : D) : Prop := ∃ a, toPD d = some a ∧ a.showable = true ∧ a.hasDict = false ∧ a.depth ≤ k ∧ a.shown.length ≤ n
theorem Rp.mono {k n k' n' : Nat} {d : D} (h : Rp k n d) (hk : k ≤ k') (hn : n ≤ n') : Rp k' n' d := by
  obtain ⟨a, h1, h2, h3, h4, h5⟩ := h
  exact ⟨a, h1, h2, h3, by omega, by omega⟩
theorem Rp.bl (b : Bool) : Rp 0 5 (.bl b) := ⟨.bool b, rfl, rfl, rfl, Nat.le_refl _, by cases b <;> decide⟩
theorem log_of {i : Int} {m : Nat} (h : i.natAbs < 2 ^ m) : i.natAbs.log2 < m + 1 := by
  by_cases z : i.natAbs = 0
  · rw [z]; simp
  · have := (Nat.log2_lt z).mpr h
    omega
theorem Rp.int {i : Int} (h : i.natAbs < 10 ^ 60) : Rp 0 61 (.int i) := by
  refine ⟨.int i, rfl, decide_eq_true ?_, rfl, Nat.le_refl _, ?_⟩
  · have h2 : i.natAbs < 2 ^ 200 := Nat.lt_trans h (by decide)
    have := log_of h2
    omega
  · have e := PySem.int_text_length_le10 (k := 60) (by decide) h
    show (Str.ofString (toString i)).length ≤ 61
    rw [ofString_length]
    exact e
theorem rp_all {k n : Nat} : ∀ {ds : List D}, (∀ d ∈ ds, Rp k n d) → ∃ as, toPDs ds = some as ∧ PyData.showableAll as = true ∧ PyData.hasDictAll as = false ∧ PyData.depthAll as ≤ k ∧ ((PyData.shownAll as).map (·.length)).sum ≤ ds.length * n ∧ (PyData.shownAll as).length = ds.length
  | [], _ => ⟨[], rfl, rfl, rfl, Nat.zero_le _, by simp [PyData.shownAll], rfl⟩
  | d :: ds, h => by
    obtain ⟨a, h1, h2, h3, h4, h5⟩ := h d List.mem_cons_self
    obtain ⟨as, g1, g2, g3, g4, g5, g6⟩ := rp_all fun x hx => h x (List.mem_cons_of_mem _ hx)
    refine ⟨a :: as, ?_, ?_, ?_, ?_, ?_, ?_⟩
    · unfold toPDs; rw [h1, g1]
    · unfold PyData.showableAll; rw [h2, g2]; rfl
    · unfold PyData.hasDictAll; rw [h3, g3]; rfl
    · unfold PyData.depthAll; omega
    · unfold PyData.shownAll
      rw [List.map_cons, List.sum_cons, List.length_cons, Nat.add_mul]
      omega
    · unfold PyData.shownAll; simp [g6]
theorem Rp.lst {k n : Nat} {ds : List D} (h : ∀ d ∈ ds, Rp k n d) : Rp (k + 1) (ds.length * n + 2 * ds.length + 3) (.lst ds) := by
  obtain ⟨as, g1, g2, g3, g4, g5, g6⟩ := rp_all h
  refine ⟨.list as, ?_, ?_, ?_, ?_, ?_⟩
  · unfold toPD; rw [g1]; rfl
  · unfold PyData.showable; exact g2
  · unfold PyData.hasDict; exact g3
  · unfold PyData.depth; omega
  · unfold PyData.shown
    have := listText_len_le (PyData.shownAll as)
    omega
theorem Rp.tup {k n : Nat} {ds : List D} (h : ∀ d ∈ ds, Rp k n d) : Rp (k + 1) (ds.length * n + 2 * ds.length + 3) (.tup ds) := by
  obtain ⟨as, g1, g2, g3, g4, g5, g6⟩ := rp_all h
  refine ⟨.tuple as, ?_, ?_, ?_, ?_, ?_⟩
  · unfold toPD; rw [g1]; rfl
  · unfold PyData.showable; exact g2
  · unfold PyData.hasDict; exact g3
  · unfold PyData.depth; omega
  · unfold PyData.shown
    have := tupleText_len_le (PyData.shownAll as)
    omega
theorem Rp.row {row : List Int} (hl : row.length ≤ 26) (h : ∀ x ∈ row, x.natAbs < 10 ^ 60) : Rp 1 1700 (.tup (row.map D.int)) := by
  refine (Rp.tup (k := 0) (n := 61) fun d hd => ?_).mono (Nat.le_refl _) (by rw [List.length_map]; omega)
  obtain ⟨x, hx, rfl⟩ := List.mem_map.mp hd
  exact Rp.int (h x hx)
theorem rep_is {k n : Nat} {d : D} (hs : seqQ d = true) (h : Rp k n d) (hk : k ≤ 60) (hn : n ≤ 100000) : ∃ t : Str, repLD d = some (.str t) := by
  obtain ⟨a, h1, h2, h3, h4, h5⟩ := h
  refine ⟨a.shown, ?_⟩
  unfold repLD
  rw [if_pos hs, h1]
  simp only [Option.bind_some]
  rw [if_pos ⟨h2, h3, by omega, by omega⟩]
end Sh

set_option Elab.async false
set_option linter.all false
set_option maxRecDepth 100000
set_option maxHeartbeats 4000000
/-! F1o: the operators of forms. -/
namespace Sh
open PySem L2 Mi P20
theorem first_is (row : List Int) : row.getD 0 0 = sumN row 1 := by
  cases row with
  | nil => rfl
  | cons x r =>
    show x = x + sumN r 0
    rw [sumN_zero]
    omega
theorem row_with_ok {f : Nat → Int} {n : Nat} (hn : n ≤ 100) {u : PuS} {P : D → PuS → Prop} (h : P (.tup ((posL (dif f n)).map D.int)) u) : Ok (mf_row_with [.lst (((List.range (n + 1)).map f).map D.int)]) u P := by
  generalize hS : (List.range (n + 1)).map f = ss
  have hsl : ss.length = n + 1 := by rw [← hS]; simp
  unfold mf_row_with mb_row_with
  rw [ok_fn]
  refine seq_go fun K R hK hR => ?_
  simp [mBorLs]
  have ez : zipA2 [D.lst (ss.map D.int), D.lst (cutD (ss.map D.int) (some 1) none)] = some ((List.range n).map fun k => prD (f k, f (k + 1))) := by
    rw [show (1 : Int) = ((1 : Nat) : Int) from rfl, cut_from, ← List.map_drop]
    show some (zipD _ _) = _
    congr 1
    apply List.ext_getElem?
    intro i
    cases hz : (zipD (ss.map D.int) ((ss.drop 1).map D.int))[i]? with
    | none =>
      have h1 := List.getElem?_eq_none_iff.mp hz
      rw [zipD_len] at h1
      rw [List.getElem?_eq_none (by simp at h1 ⊢; omega)]
    | some d =>
      obtain ⟨x', y', e1, e2, rfl⟩ := zipD_at hz
      have hi : i < n := by
        have := (List.getElem?_eq_some_iff.mp e2).1
        simp at this
        omega
      rw [List.getElem?_map, ← hS, List.getElem?_map, List.getElem?_range (by omega)] at e1
      rw [List.getElem?_map, List.getElem?_drop, ← hS, List.getElem?_map, List.getElem?_range (by omega)] at e2
      cases e1
      cases e2
      rw [List.getElem?_map, List.getElem?_range hi, Nat.add_comm 1 i]
      rfl
  refine ⟨_, ez, by simp; omega, ?_⟩
  refine ok_lca (fun k : Nat => [.sh (.lst (ss.map D.int)), .un, .sh (.int (f k)), .sh (.int (f (k + 1))), .un]) (fun k => .int (f (k + 1) - f k)) (fun k hk => rfl) (fun k hk => by simp) ?_
  have e : (List.range n).map (fun k => D.int (f (k + 1) - f k)) = (dif f n).map D.int := by unfold dif; rw [List.map_map]; rfl
  rw [e]
  refine hK _ _ ?_
  clear hK hR K R
  simp
  have hdl := dif_len f n
  refine ⟨by omega, ?_⟩
  refine ok_lcl (fun y => [.sh (.lst (ss.map D.int)), .sh (.lst ((dif f n).map D.int)), .un, .un, .sh (.int y)]) (fun y => decide (0 < y)) (fun y => .int y) ?_ ?_ ?_ ?_
  · intro y hy; rfl
  · intro y hy; simp
  · intro y hy _; simp
  exact h
theorem fand_ok {a b : List Int} (ha : Good a) (hb : Good b) {u : PuS} {P : D → PuS → Prop} (h : ∀ row, Good row → (∀ k, sumN row k = min (sumN a k) (sumN b k)) → P (formD row) u) : Ok (mf_Form___and__ [formD a, formD b]) u P := by
  unfold mf_Form___and__ mb_Form___and__
  rw [ok_fn]
  refine seq_go fun K R hK hR => ?_
  simp
  refine check_form_ok ?_
  refine hK _ _ ?_
  clear hK hR K R
  unfold formD
  refine seq_go fun K R hK hR => ?_
  simp
  refine both_sums_ok ha.2 hb.2 ?_
  refine hK _ _ ?_
  clear hK hR K R
  have hal := ha.2
  have hbl := hb.2
  generalize hn : max a.length b.length = n
  have hn24 : n ≤ 24 := by omega
  simp
  refine ⟨by unfold bsum; simp; omega, ?_⟩
  refine ok_lca (fun q : Int × Int => [.sh (.obj "Form" ["numbers"] [.tup (a.map D.int)]), .sh (.obj "Form" ["numbers"] [.tup (b.map D.int)]), .sh (.lst ((bsum a b n).map prD)), .sh (.int q.1), .sh (.int q.2)]) (fun q => .int (min q.1 q.2)) (fun q hq => rfl) (fun q hq => ?_) ?_
  · unfold ce_Form___and___1
    simp
    omega
  let f : Nat → Int := fun k => min (sumN a k) (sumN b k)
  have e : (bsum a b n).map (fun q => D.int (min q.1 q.2)) = ((List.range (n + 1)).map f).map D.int := by unfold bsum; rw [List.map_map, List.map_map]; rfl
  rw [e]
  refine row_with_ok (by omega) ?_
  obtain ⟨r1, r2, r3⟩ := row_of_sums (f := f) (n := n) (by show min _ _ = _; rw [sumN_zero, sumN_zero]; rfl) (fun k _ => by
    have c1 := sumN_ccv ha.1 k
    have c2 := sumN_ccv hb.1 k
    show min _ _ - min _ _ ≤ min _ _ - min _ _
    omega) (fun k _ => by
    have c1 := sumN_up ha.1 k
    have c2 := sumN_up hb.1 k
    show min _ _ ≤ min _ _
    omega)
  have hG : Good (posL (dif f n)) := ⟨r1, by omega⟩
  refine init_ok hG (h _ hG fun k => ?_)
  rw [r3]
  show min (sumN a (min k n)) (sumN b (min k n)) = _
  rw [sumN_end (show a.length ≤ n by omega), sumN_end (show b.length ≤ n by omega)]
theorem take_sumN : ∀ (row : List Int) (n : Nat), (row.take n).sum = sumN row n := by
  intro row n
  induction n generalizing row with
  | zero => simp [sumN]
  | succ n ih =>
    cases row with
    | nil => rw [sumN_nil]; simp
    | cons x row => rw [List.take_succ_cons, List.sum_cons, ih row]; rfl
end Sh


set_option Elab.async false
set_option linter.all false
set_option maxRecDepth 100000
set_option maxHeartbeats 4000000
/-! F1p: the operators of forms as equations. -/
namespace Sh
open PySem L2 Mi P20
theorem le_first {row : List Int} (h : Falls row) {x : Int} (hx : x ∈ row) : x ≤ sumN row 1 := by
  rw [← first_is]
  cases row with
  | nil => cases hx
  | cons a r =>
    rcases List.mem_cons.mp hx with rfl | hx
    · exact Int.le_refl _
    · obtain ⟨k, hk⟩ := List.mem_iff_getElem?.mp hx
      exact h.all_le k x hk
section
variable {a b : List Int} {t : Int} {u : PuS} {P : D → PuS → Prop}
end
end Sh
namespace S1
open PySem L2 Mi P20 Sh
end S1
namespace Sh
open PySem L2 Mi P20
theorem frow_ok {row : List Int} {u : PuS} {P : D → PuS → Prop} : Ok (mf_Form_row [formD row]) u P ↔ P (.tup (row.map D.int)) u := by
  unfold mf_Form_row mb_Form_row formD
  simp
theorem flen_ok {row : List Int} {u : PuS} {P : D → PuS → Prop} : Ok (mf_Form___len__ [formD row]) u P ↔ P (.int row.length) u := by
  unfold mf_Form___len__ mb_Form___len__ formD
  simp
theorem feq_ok {a b : List Int} {u : PuS} {P : D → PuS → Prop} : Ok (mf_Form___eq__ [formD a, formD b]) u P ↔ P (.bl (decide (a = b))) u := eq_ok'
end Sh

set_option Elab.async false
set_option linter.all false
set_option maxRecDepth 100000
set_option maxHeartbeats 4000000
namespace G18
open PySem L2 Mi P20 Sh S1
def R8 : List (List Int) := [[], [1], [1, 1], [2], [1, 1, 1], [2, 1], [3], [1, 1, 1, 1], [2, 1, 1], [2, 2], [3, 1], [4], [1, 1, 1, 1, 1], [2, 1, 1, 1], [2, 2, 1], [3, 1, 1], [3, 2], [4, 1], [5], [1, 1, 1, 1, 1, 1], [2, 1, 1, 1, 1], [2, 2, 1, 1], [2, 2, 2], [3, 1, 1, 1], [3, 2, 1], [3, 3], [4, 1, 1], [4, 2], [5, 1], [6], [1, 1, 1, 1, 1, 1, 1], [2, 1, 1, 1, 1, 1], [2, 2, 1, 1, 1], [2, 2, 2, 1], [3, 1, 1, 1, 1], [3, 2, 1, 1], [3, 2, 2], [3, 3, 1], [4, 1, 1, 1], [4, 2, 1], [4, 3], [5, 1, 1], [5, 2], [6, 1], [7], [1, 1, 1, 1, 1, 1, 1, 1], [2, 1, 1, 1, 1, 1, 1], [2, 2, 1, 1, 1, 1], [2, 2, 2, 1, 1], [2, 2, 2, 2], [3, 1, 1, 1, 1, 1], [3, 2, 1, 1, 1], [3, 2, 2, 1], [3, 3, 1, 1], [3, 3, 2], [4, 1, 1, 1, 1], [4, 2, 1, 1], [4, 2, 2], [4, 3, 1], [4, 4], [5, 1, 1, 1], [5, 2, 1], [5, 3], [6, 1, 1], [6, 2], [7, 1], [8]]
theorem rows8 (u : PuS) : mf__law_small_rows [.int 8] u = some (.lst (R8.map fun r => .tup (r.map D.int)), u) := by kernel_rfl
def fB : List Int → Bool
  | [] => true
  | [x] => decide (0 < x)
  | x :: y :: r => decide (0 < x) && decide (y ≤ x) && fB (y :: r)
theorem fB_falls : ∀ r : List Int, fB r = true → Falls r
  | [], _ => ⟨(fun x h => by cases h), (fun k x y h => by cases h)⟩
  | [x], h => by
    have h := of_decide_eq_true h
    refine ⟨fun y hy => by rw [List.mem_singleton.mp hy]; exact h, fun k a b e1 e2 => ?_⟩
    cases k <;> cases e2
  | x :: y :: r, h => by
    have h' : (decide (0 < x) && decide (y ≤ x) && fB (y :: r)) = true := h
    simp only [Bool.and_eq_true, decide_eq_true_eq] at h'
    obtain ⟨⟨h1, h2⟩, h3⟩ := h'
    have ih := fB_falls (y :: r) h3
    refine ⟨fun z hz => ?_, fun k a b e1 e2 => ?_⟩
    · rcases List.mem_cons.mp hz with rfl | hz
      · exact h1
      · exact ih.1 z hz
    · cases k with
      | zero => cases e1; cases e2; exact h2
      | succ k => exact ih.2 k a b (by simpa using e1) (by simpa using e2)
theorem R8_ok : ∀ r ∈ R8, Falls r ∧ r.length ≤ 8 ∧ (∀ x ∈ r, x ≤ 8) ∧ r.sum ≤ 8 := fun r hr => by
  have h1 : R8.all (fun r => fB r && decide (r.length ≤ 8) && (r.all fun x => decide (x ≤ 8)) && decide (r.sum ≤ 8)) = true := by decide +kernel
  have := List.all_eq_true.mp h1 r hr
  simp only [Bool.and_eq_true, decide_eq_true_eq] at this
  exact ⟨fB_falls r this.1.1.1, this.1.1.2, fun x hx => by have := List.all_eq_true.mp this.1.2 x hx; simpa using this, this.2⟩
theorem below_any {xs ys : List Int} (hl : xs.length ≤ 1000) (hy : xs.length ≤ ys.length) {u : PuS} {P : D → PuS → Prop} (hp : ∀ r : Bool, (r = true ↔ ∀ (k : Nat) (x y : Int), xs[k]? = some x → ys[k]? = some y → x ≤ y) → P (.bl r) u) : Ok (mf__law_below [.lst (xs.map D.int), .lst (ys.map D.int)]) u P := by
  unfold mf__law_below mb__law_below
  simp
  refine ⟨by omega, by rw [rngD_len]; omega, ?_⟩
  refine ok_lcr (fun i => [.sh (.lst (xs.map D.int)), .sh (.lst (ys.map D.int)), .sh (.int (0 + (i : Nat)))]) (fun i => decide (ys.getD i 0 < xs.getD i 0)) (fun i => .int i) ?_ ?_ ?_ ?_
  · intro i hi; rfl
  · intro i hi
    have ex : xs[i]? = some xs[i] := List.getElem?_eq_getElem hi
    have ey : ys[i]? = some ys[i] := List.getElem?_eq_getElem (by omega)
    have e1 := getI ex
    have e2 := getI ey
    unfold ct__law_below_1
    simp [e1, e2]
    rw [ex, ey]
    rfl
  · intro i hi z; simp
  · have e : ((List.range xs.length).filter fun i => decide (ys.getD i 0 < xs.getD i 0)).map (fun i : Nat => D.int i) = (((List.range xs.length).filter fun i => decide (ys.getD i 0 < xs.getD i 0)).map fun i : Nat => (i : Int)).map D.int := by rw [List.map_map]; rfl
    rw [e, s_eqL0]
    refine ⟨_, rfl, hp _ ?_⟩
    rw [decide_eq_true_iff, List.map_eq_nil_iff, List.filter_eq_nil_iff]
    constructor
    · intro h k x y ex ey
      have hk : k < xs.length := (List.getElem?_eq_some_iff.mp ex).1
      have := h k (List.mem_range.mpr hk)
      rw [List.getD_eq_getElem?_getD, List.getD_eq_getElem?_getD, ex, ey] at this
      simp at this
      exact this
    · intro h k hk
      have hk := List.mem_range.mp hk
      have := h k _ _ (List.getElem?_eq_getElem hk) (List.getElem?_eq_getElem (show k < ys.length by omega))
      rw [List.getD_eq_getElem?_getD, List.getD_eq_getElem?_getD, List.getElem?_eq_getElem hk, List.getElem?_eq_getElem (show k < ys.length by omega)]
      simp
      exact this
def sm (x : Int) : Prop := x = 1 ∨ x = 2 ∨ x = 3 ∨ x = 4 ∨ x = 5 ∨ x = 6 ∨ x = 7 ∨ x = 8
theorem sm_log {x : Int} (h : sm x) : x.natAbs.log2 < 1920 := by
  rcases h with rfl | rfl | rfl | rfl | rfl | rfl | rfl | rfl <;> decide
theorem sm_len {x : Int} (h : sm x) : (Str.ofString (toString x)).length ≤ 1 := by
  rcases h with rfl | rfl | rfl | rfl | rfl | rfl | rfl | rfl <;> decide
theorem lens_le : ∀ {l : List Str} {c : Nat}, (∀ x ∈ l, x.length ≤ c) → (l.map (·.length)).sum ≤ l.length * c
  | [], c, _ => by simp
  | x :: l, c, h => by
    have ih := lens_le (l := l) (c := c) fun y hy => h y (List.mem_cons_of_mem _ hy)
    have := h x List.mem_cons_self
    rw [List.map_cons, List.sum_cons, List.length_cons, Nat.add_mul]
    omega
theorem str_ok {row : List Int} (hs : ∀ x ∈ row, sm x) (hl : row.length ≤ 24) {u : PuS} {P : D → PuS → Prop} (h : P (.str (Txt.join " " (row.map fun x => Str.ofString (toString x)))) u) : Ok (mf_Form___str__ [.obj "Form" ["numbers"] [.tup (row.map D.int)]]) u P := by
  unfold mf_Form___str__ mb_Form___str__
  simp [ok_join]
  refine ⟨by omega, ?_⟩
  refine ok_lca (fun x => [.sh (.obj "Form" ["numbers"] [.tup (row.map D.int)]), .sh (.int x)]) (fun x => .str (Str.ofString (toString x))) (fun x hx => rfl) (fun x hx => ?_) ?_
  · have : strID [.int x] = some (.str (Str.ofString (toString x))) := if_pos (sm_log (hs x hx))
    simp [this]
  have e : row.map (fun x => D.str (Str.ofString (toString x))) = (row.map fun x => Str.ofString (toString x)).map D.str := by rw [List.map_map]; rfl
  rw [e]
  have h1 := lens_le (l := row.map fun x => Str.ofString (toString x)) (c := 1) fun t ht => by
    obtain ⟨x, hx, rfl⟩ := List.mem_map.mp ht
    exact sm_len (hs x hx)
  rw [List.length_map] at h1
  generalize hL : row.map (fun x => Str.ofString (toString x)) = L at h h1
  have hLl : L.length = row.length := by rw [← hL, List.length_map]
  refine ⟨.str (Txt.join " " L), ?_, h⟩
  show (strsD (L.map D.str)).bind _ = _
  rw [strsD_map]
  simp only [Option.bind_some]
  refine if_pos ?_
  have : (Str.ofString " ").length = 1 := by decide
  rw [this]
  omega
theorem repr_ok {row : List Int} (hs : ∀ x ∈ row, sm x) (hl : row.length ≤ 24) : ∃ t : Str, t.length ≤ 60 ∧ ∀ {u : PuS} {P : D → PuS → Prop}, P (.str t) u → Ok (mf_Form___repr__ [.obj "Form" ["numbers"] [.tup (row.map D.int)]]) u P := by
  have h1 := lens_le (l := row.map fun x => Str.ofString (toString x)) (c := 1) fun t ht => by
    obtain ⟨x, hx, rfl⟩ := List.mem_map.mp ht
    exact sm_len (hs x hx)
  have h2 : (Txt.join " " (row.map fun x => Str.ofString (toString x))).length ≤ 48 := by
    have h3 := StrLaws.join_length_le " " (row.map fun x => Str.ofString (toString x))
    have : (Str.ofString " ").length = 1 := by decide
    rw [this, List.length_map] at h3
    rw [List.length_map] at h1
    have e : Txt.join " " (row.map fun x => Str.ofString (toString x)) = Str.join " " (row.map fun x => Str.ofString (toString x)) := StrLaws.glued_eq_join _ _
    rw [e]
    omega
  refine ⟨Str.empty ++ "Form " ++ Txt.join " " (row.map fun x => Str.ofString (toString x)), ?_, fun {u P} h => ?_⟩
  · have h3 : (Str.ofString "Form ").length = 5 := by decide
    have h4 : Str.empty.length = 0 := rfl
    rw [Str.length_append, Str.length_append]
    omega
  unfold mf_Form___repr__ mb_Form___repr__
  simp [ok_strO]
  refine ⟨by decide, ?_⟩
  refine str_ok hs hl ?_
  generalize Txt.join " " (row.map fun x => Str.ofString (toString x)) = J at h h2
  have ef : fmtD (.str J) = some (.str J) := if_pos (by omega)
  have h3 : (Str.ofString "Form ").length = 5 := by decide
  have h4 : Str.empty.length = 0 := rfl
  refine ⟨J, rfl, ?_⟩
  simp [ef]
  exact ⟨by rw [Str.length_append, Str.length_append]; omega, h⟩
/-! ### the least form above two -/
def MX (a b : List Int) : List Int := (List.range (max a.length b.length)).map fun k => max (sumN a (k + 1)) (sumN b (k + 1))
theorem MX_len (a b : List Int) : (MX a b).length = max a.length b.length := by unfold MX; simp
theorem MX_at {a b : List Int} {n : Nat} {s : Int} (h : (MX a b)[n]? = some s) : n < max a.length b.length ∧ s = max (sumN a (n + 1)) (sumN b (n + 1)) := by
  have hn := (List.getElem?_eq_some_iff.mp h).1
  rw [MX_len] at hn
  unfold MX at h
  rw [List.getElem?_map, List.getElem?_range hn] at h
  exact ⟨hn, (Option.some.inj h).symm⟩
theorem for_ok {a b : List Int} (ha : Good a) (hb : Good b) {u : PuS} {P : D → PuS → Prop} (h : ∀ row, Least 0 (MX a b) row → P (formD row) u) : Ok (mf_Form___or__ [formD a, formD b]) u P := by
  unfold mf_Form___or__ mb_Form___or__
  rw [ok_fn]
  refine seq_go fun K R hK hR => ?_
  simp
  refine check_form_ok ?_
  refine hK _ _ ?_
  clear hK hR K R
  unfold formD
  refine seq_go fun K R hK hR => ?_
  simp
  refine both_sums_ok ha.2 hb.2 ?_
  refine hK _ _ ?_
  clear hK hR K R
  have hal := ha.2
  have hbl := hb.2
  have hl := MX_len a b
  have e1 : cutD ((bsum a b (max a.length b.length)).map prD) (some 1) none = (((List.range (max a.length b.length)).map fun k => (sumN a (k + 1), sumN b (k + 1))).map prD) := by
    rw [show (1 : Int) = ((1 : Nat) : Int) from rfl, cut_from]
    unfold bsum
    rw [List.range_succ_eq_map]
    simp [List.map_map]
  simp [e1, -List.map_map]
  generalize hn : max a.length b.length = n at *
  refine ⟨by omega, ?_⟩
  refine ok_lca (xs := (List.range n).map fun k => (sumN a (k + 1), sumN b (k + 1))) (f := prD) (fun q : Int × Int => [.sh (.obj "Form" ["numbers"] [.tup (a.map D.int)]), .sh (.obj "Form" ["numbers"] [.tup (b.map D.int)]), .sh (.lst ((bsum a b n).map prD)), .sh (.int q.1), .sh (.int q.2)]) (fun q => .int (max q.1 q.2)) (fun q hq => rfl) (fun q hq => ?_) ?_
  · unfold ce_Form___or___1
    simp
    omega
  have e : ((List.range n).map fun k => (sumN a (k + 1), sumN b (k + 1))).map (fun q => D.int (max q.1 q.2)) = (MX a b).map D.int := by unfold MX; rw [hn, List.map_map, List.map_map]; rfl
  rw [e]
  refine least_row_lst (by omega) fun row hr => ?_
  exact init_ok (Least.good hr (by omega)) (h row hr)
/-- sums of so many days compared -/
def Bw (n : Nat) (r a : List Int) : Prop := ∀ k, k < n + 1 → sumN r k ≤ sumN a k
instance (n : Nat) (r a : List Int) : Decidable (Bw n r a) := inferInstanceAs (Decidable (∀ k, k < n + 1 → sumN r k ≤ sumN a k))
def sumsD (n : Nat) (r : List Int) : D := .lst (((List.range (n + 1)).map (psum r)).map D.int)
theorem bw_ok {n : Nat} {r a : List Int} (hn : n ≤ 30) {u : PuS} {P : D → PuS → Prop} (h : P (.bl (decide (Bw n r a))) u) : Ok (mf__law_below [sumsD n r, sumsD n a]) u P := by
  refine below_any (xs := (List.range (n + 1)).map (psum r)) (ys := (List.range (n + 1)).map (psum a)) (by simp; omega) (by simp) fun q hq => ?_
  have : q = decide (Bw n r a) := by
    rw [Bool.eq_iff_iff, hq, decide_eq_true_iff]
    unfold Bw
    constructor
    · intro h k hk
      rw [← psum_sumN, ← psum_sumN]
      exact h k _ _ (by rw [List.getElem?_map, List.getElem?_range hk]; rfl) (by rw [List.getElem?_map, List.getElem?_range hk]; rfl)
    · intro h k x y e1 e2
      have hk : k < n + 1 := by have := (List.getElem?_eq_some_iff.mp e1).1; simpa using this
      rw [List.getElem?_map, List.getElem?_range hk] at e1 e2
      cases e1
      cases e2
      rw [psum_sumN, psum_sumN]
      exact h k hk
  rw [this]
  exact h
theorem lsum_ok {n : Nat} {r : List Int} (hn : n ≤ 30) {u : PuS} {P : D → PuS → Prop} (h : P (sumsD n r) u) : Ok (mf__law_sums [.tup (r.map D.int), .int (n : Int)]) u P := sums_ok hn h
theorem Bw.all {n : Nat} {r a : List Int} (hr : r.length ≤ n) (ha : a.length ≤ n) : Bw n r a ↔ ∀ k, sumN r k ≤ sumN a k := by
  constructor
  · intro h k
    by_cases hk : k ≤ n
    · exact h k (by omega)
    · rw [sumN_flat r k (by omega), sumN_flat a k (by omega), ← sumN_flat r n hr, ← sumN_flat a n ha]
      exact h n (by omega)
  · exact fun h k _ => h k
theorem MX_above {a b f : List Int} (hf : Falls f) : (∀ (n : Nat) (s : Int), (MX a b)[n]? = some s → s ≤ 0 + sumN f (n + 1)) ↔ (∀ k, sumN a k ≤ sumN f k) ∧ ∀ k, sumN b k ≤ sumN f k := by
  constructor
  · intro h
    have key : ∀ k, k ≤ max a.length b.length → sumN a k ≤ sumN f k ∧ sumN b k ≤ sumN f k := fun k hk => by
      cases k with
      | zero => rw [sumN_zero, sumN_zero, sumN_zero]; exact ⟨Int.le_refl _, Int.le_refl _⟩
      | succ k =>
        have e : (MX a b)[k]? = some (max (sumN a (k + 1)) (sumN b (k + 1))) := by
          unfold MX
          rw [List.getElem?_map, List.getElem?_range (by omega)]
          rfl
        have := h k _ e
        omega
    have up : ∀ {m k : Nat}, m ≤ k → sumN f m ≤ sumN f k := fun {m k} hmk => sumN_le (fun x hx => by have := hf.1 x hx; omega) hmk
    refine ⟨fun k => ?_, fun k => ?_⟩
    · by_cases hk : k ≤ a.length
      · exact (key k (by omega)).1
      · rw [sumN_flat a k (by omega)]
        exact Int.le_trans (key a.length (by omega)).1 (up (by omega))
    · by_cases hk : k ≤ b.length
      · exact (key k (by omega)).2
      · rw [sumN_flat b k (by omega)]
        exact Int.le_trans (key b.length (by omega)).2 (up (by omega))
  · rintro ⟨h1, h2⟩ n s e
    obtain ⟨_, rfl⟩ := MX_at e
    have := h1 (n + 1)
    have := h2 (n + 1)
    omega
theorem or_is {a b l : List Int} (hl : Least 0 (MX a b) l) : Falls l ∧ (∀ k, sumN a k ≤ sumN l k) ∧ (∀ k, sumN b k ≤ sumN l k) ∧ ∀ f, Falls f → (∀ k, sumN a k ≤ sumN f k) → (∀ k, sumN b k ≤ sumN f k) → ∀ k, sumN l k ≤ sumN f k := by
  have hf : Falls l := ⟨hl.pos, hl.falls⟩
  have := (MX_above hf).mp hl.cover
  exact ⟨hf, this.1, this.2, fun f h1 h2 h3 => hl.least h1 ((MX_above h1).mpr ⟨h2, h3⟩)⟩
end G18

set_option Elab.async false
set_option linter.all false
set_option maxRecDepth 100000
set_option maxHeartbeats 4000000
namespace G18
open PySem L2 Mi P20 Sh S1
theorem first_le {r : List Int} (hr : Falls r) (h : sumN r 1 ≤ 8) : ∀ x ∈ r, sm x := fun x hx => by
  have h1 := hr.1 x hx
  have h2 := le_first hr hx
  unfold sm
  omega
theorem sum1_8 {r : List Int} (h : ∀ x ∈ r, x ≤ 8) : sumN r 1 ≤ 8 := by
  cases r with
  | nil => rw [sumN_nil]; decide
  | cons x r =>
    have := h x List.mem_cons_self
    show x + sumN r 0 ≤ 8
    rw [sumN_zero]
    omega
theorem flat_len {r : List Int} (hr : Falls r) {n : Nat} (h : sumN r (n + 1) = sumN r n) : r.length ≤ n := Nat.le_of_not_lt fun z => by
  have e := sumN_app n r
  rw [List.getD_eq_getElem?_getD, List.getElem?_eq_getElem z] at e
  have e : sumN r (n + 1) = sumN r n + r[n] := e
  have := hr.1 _ (List.getElem_mem z)
  omega
theorem below8 {a : List Int} (hF : Falls a) (hl : a.length ≤ 8) (hs : a.sum ≤ 8) : ∀ k, sumN a k ≤ sumN [8] k := fun k => by
  have h8 : sumN a 8 ≤ 8 := by
    rw [← take_sumN, List.take_of_length_le hl]
    exact hs
  cases k with
  | zero => rw [sumN_zero, sumN_zero]; exact Int.le_refl _
  | succ k =>
    have e : sumN [8] (k + 1) = 8 := by
      show 8 + sumN [] k = 8
      rw [sumN_nil]
      rfl
    rw [e]
    by_cases hk : k + 1 ≤ 8
    · exact Int.le_trans (sumN_le (fun x hx => by have := hF.1 x hx; omega) hk) h8
    · rw [sumN_flat a (k + 1) (by omega), ← sumN_flat a 8 hl]
      exact h8
theorem repr_two {a b : List Int} (ha : ∀ x ∈ a, sm x) (hb : ∀ x ∈ b, sm x) (la : a.length ≤ 24) (lb : b.length ≤ 24) : ∃ t : Str, ∀ {u : PuS} {P : Str → PuS → Prop}, P t u → Ok (mRlT "Form" mf_Form___repr__ [formD a, formD b]) u P := by
  obtain ⟨ta, ha1, ha2⟩ := repr_ok ha la
  obtain ⟨tb, hb1, hb2⟩ := repr_ok hb lb
  refine ⟨PySem.listText [ta, tb], fun {u P} h => ?_⟩
  have hlen : (PySem.listText [ta, tb]).length ≤ 100000 := by
    show ((((Str.ofString "[" ++ Str.ofString "" ++ ta) ++ Str.ofString ", " ++ tb)) ++ Str.ofString "]").length ≤ _
    rw [Str.length_append, Str.length_append, Str.length_append, Str.length_append, Str.length_append]
    have e1 : (Str.ofString "[").length = 1 := by decide
    have e2 : (Str.ofString "").length = 0 := by decide
    have e3 : (Str.ofString ", ").length = 2 := by decide
    have e4 : (Str.ofString "]").length = 1 := by decide
    omega
  have := ok_rlT (ck := "Form") (mf := mf_Form___repr__) (f := fun q : List Int × Str => formD q.1) (g := fun q => q.2) (u := u) [(a, ta), (b, tb)] (fun q _ => ⟨_, _, rfl⟩) (fun q hq {P} p => ?_) hlen (P := P) h
  · exact this
  · rcases List.mem_cons.mp hq with rfl | hq
    · exact ha2 p
    · rw [List.mem_singleton.mp hq] at p ⊢
      exact hb2 p
theorem neB2 (a b : Bool) : neMD (.bl a) (.bl b) = some (.bl (!decide (a = b))) := by cases a <;> cases b <;> rfl
theorem two_below {A1 A2 B1 B2 C1 C2 : List Int} (h : (Bw 8 A1 A2 ∧ Bw 8 B1 B2) ↔ Bw 8 C1 C2) {u : PuS} {G Bad : PuS → Prop} (hG : G u) : Ok (mf__law_below [sumsD 8 A1, sumsD 8 A2]) u fun d u1 => OnB d fun b_1 => Br b_1 (Ok (mf__law_below [sumsD 8 B1, sumsD 8 B2]) u1 fun x u1 => Ok (mf__law_below [sumsD 8 C1, sumsD 8 C2]) u1 fun y u2 => ∃ z, neMD x y = some z ∧ OnB z fun b => Br b (Bad u2) (G u2)) (Ok (mf__law_below [sumsD 8 C1, sumsD 8 C2]) u1 fun y u2 => ∃ z, neMD (.bl false) y = some z ∧ OnB z fun b => Br b (Bad u2) (G u2)) := by
  refine bw_ok (by decide) ⟨_, rfl, ?_⟩
  by_cases h1 : Bw 8 A1 A2
  · rw [decide_eq_true h1]
    simp only [br_t]
    refine bw_ok (by decide) (bw_ok (by decide) ⟨_, neB2 _ _, _, rfl, ?_⟩)
    have e : decide (Bw 8 B1 B2) = decide (Bw 8 C1 C2) := by
      rw [Bool.eq_iff_iff, decide_eq_true_iff, decide_eq_true_iff]
      exact ⟨fun z => h.mp ⟨h1, z⟩, fun z => (h.mpr z).2⟩
    rw [e, decide_eq_true rfl]
    exact hG
  · rw [decide_eq_false h1]
    simp only [br_f]
    refine bw_ok (by decide) ⟨_, neB2 _ _, _, rfl, ?_⟩
    rw [decide_eq_false (fun z => h1 (h.mpr z).1)]
    exact hG
theorem frow' {row : List Int} {u : PuS} {P : D → PuS → Prop} (h : P (.tup (row.map D.int)) u) : Ok (mf_Form_row [formD row]) u P := frow_ok.mpr h
theorem small_ok {u : PuS} (hu : Pu u) {P : D → PuS → Prop} (hP : ∀ u', Pu u' → P (.bl true) u') : Ok (mf__law_small_right [.pur, .lst (R8.map fun r => .tup (r.map D.int))]) u P := by
  have hR := R8_ok
  have hRl : R8.length = 67 := by decide +kernel
  generalize R8 = RR at hR hRl
  unfold mf__law_small_right mb__law_small_right
  rw [ok_fn]
  refine seq_go fun K R hK hR' => ?_
  simp [hRl, -List.map_map]
  refine draw_ok (by decide) hu fun t u1 t0 t1 hu1 => ?_
  obtain ⟨t, rfl⟩ : ∃ z : Nat, t = (z : Int) := ⟨t.toNat, by omega⟩
  have ht : t < RR.length := by omega
  have e1 : atI (RR.map fun r => D.tup (r.map D.int)) (t : Int) = some (.tup (RR[t].map D.int)) := at_nat (by rw [List.getElem?_map, List.getElem?_eq_getElem ht]; rfl)
  refine ⟨_, e1, hK _ _ ?_⟩
  clear hK hR' K R
  obtain ⟨aF, al, ax, as⟩ := hR RR[t] (List.getElem_mem ht)
  generalize RR[t] = a at aF al ax as
  refine seq_go fun K R hK hR' => ?_
  simp [hRl, -List.map_map]
  refine draw_ok (by decide) hu1 fun t u2 t0 t1 hu2 => ?_
  obtain ⟨t, rfl⟩ : ∃ z : Nat, t = (z : Int) := ⟨t.toNat, by omega⟩
  have ht : t < RR.length := by omega
  have e1 : atI (RR.map fun r => D.tup (r.map D.int)) (t : Int) = some (.tup (RR[t].map D.int)) := at_nat (by rw [List.getElem?_map, List.getElem?_eq_getElem ht]; rfl)
  refine ⟨_, e1, hK _ _ ?_⟩
  clear hK hR' K R
  obtain ⟨bF, bl, bx, bs⟩ := hR RR[t] (List.getElem_mem ht)
  generalize RR[t] = b at bF bl bx bs
  have aG : Good a := ⟨aF, by omega⟩
  have bG : Good b := ⟨bF, by omega⟩
  refine seq_go fun K R hK hR' => ?_
  simp [-List.map_map]
  refine init_ok aG ?_
  refine init_ok bG ?_
  refine fand_ok aG bG fun c cG cs => ?_
  refine init_ok aG ?_
  refine init_ok bG ?_
  refine for_ok aG bG fun l lL => hK _ _ ?_
  clear hK hR' K R
  obtain ⟨lF, la, lb, lmin⟩ := or_is lL
  have ll : l.length ≤ 8 := by
    have := lL.len
    rw [MX_len] at this
    omega
  have cl : c.length ≤ 8 := flat_len cG.1 (by rw [cs, cs, sumN_flat a 9 (by omega), sumN_flat b 9 (by omega), ← sumN_flat a 8 al, ← sumN_flat b 8 bl])
  have lG : Good l := ⟨lF, by omega⟩
  have c8 : ∀ x ∈ c, sm x := first_le cG.1 (by rw [cs]; have := sum1_8 ax; omega)
  have l8 : ∀ x ∈ l, sm x := first_le lF (by
    have h1 := lmin [8] ⟨fun x hx => by rw [List.mem_singleton.mp hx]; decide, fun k x y e1 e2 => by cases k <;> cases e2⟩ (below8 aF al as) (below8 bF bl bs) 1
    exact h1)
  refine seq_go fun K R hK hR' => ?_
  simp [mBorLs, -List.map_map]
  refine ⟨_, _, rfl, frow' ?_⟩
  refine ⟨_, _, rfl, frow' ?_⟩
  refine ok_lca (xs := [a, b, c, l]) (f := fun r : List Int => D.tup (r.map D.int)) (fun r => [.sh .pur, .sh (.lst (RR.map fun r => .tup (r.map D.int))), .sh (.tup (a.map D.int)), .sh (.tup (b.map D.int)), .sh (formD c), .sh (formD l), .un, .sh (.tup (r.map D.int)), .un, .un]) (fun r => sumsD 8 r) (fun r hr => rfl) (fun r hr => ?_) ?_
  · unfold ce__law_small_right_1
    simp
    exact lsum_ok (n := 8) (by decide) ⟨rfl, rfl⟩
  refine hK _ _ ?_
  clear hK hR' K R
  refine seq_go fun K R hK hR' => ?_
  simp [-List.map_map]
  refine ⟨⟨_, _, rfl⟩, flen_ok.mpr ⟨_, rfl, ⟨by omega, by omega⟩, ?_⟩⟩
  have n1 : decide (8 < (c.length : Int)) = false := decide_eq_false (by omega)
  have n2 : decide (8 < (l.length : Int)) = false := decide_eq_false (by omega)
  rw [n1, br_f]
  refine ⟨⟨_, _, rfl⟩, flen_ok.mpr ⟨_, rfl, ⟨by omega, by omega⟩, ?_⟩⟩
  rw [n2, br_f]
  refine hK _ _ ?_
  clear hK hR' K R n1 n2
  -- the texts
  obtain ⟨tx, htx⟩ := repr_two c8 l8 (by omega) (by omega)
  have ens : neSD (.str tx) (.str tx) = some (.bl false) := by show some (D.bl (!decide (tx = tx))) = _; simp
  refine seq_go fun K R hK hR' => ?_
  simp [ok_repOL, -List.map_map]
  refine htx ?_
  refine ⟨_, _, rfl, frow' ?_⟩
  refine init_ok cG ?_
  refine ⟨_, _, rfl, frow' ?_⟩
  refine init_ok lG ?_
  refine htx ?_
  simp
  refine hK _ _ ?_
  clear hK hR' K R
  refine seq_cut (fun ρ u' => Pu u') ?_ ?_
  · simp [-List.map_map]
    refine ok_list (RR.map fun r => D.tup (r.map D.int)) (fun k ρ u' => Pu u' ∧ ∃ x y z : Sd, ρ = [.sh .pur, .sh (.lst (RR.map fun r => .tup (r.map D.int))), .sh (.tup (a.map D.int)), .sh (.tup (b.map D.int)), .sh (formD c), .sh (formD l), .sh (.lst [sumsD 8 a, sumsD 8 b, sumsD 8 c, sumsD 8 l]), x, y, z]) ?_ ?_ _ _ ⟨hu2, _, _, _, rfl⟩
    · rintro j dd ρ u' ej ⟨hu', x, y, z, rfl⟩
      obtain ⟨r, hr, rfl⟩ := List.mem_map.mp (List.mem_of_getElem? ej)
      obtain ⟨rF, rl, rx, rs⟩ := hR r hr
      refine ⟨_, rfl, ?_⟩
      refine st_go fun R0 hR0 => ?_
      unfold lb__law_small_right_2
      refine seq_go fun K R hK hR' => ?_
      simp [-List.map_map]
      refine lsum_ok (n := 8) (by decide) (hK _ _ ?_)
      clear hK hR' K R
      have x0 : ixD (.lst [sumsD 8 a, sumsD 8 b, sumsD 8 c, sumsD 8 l]) (.int 0) = some (sumsD 8 a) := rfl
      have x1 : ixD (.lst [sumsD 8 a, sumsD 8 b, sumsD 8 c, sumsD 8 l]) (.int 1) = some (sumsD 8 b) := rfl
      have x2 : ixD (.lst [sumsD 8 a, sumsD 8 b, sumsD 8 c, sumsD 8 l]) (.int 2) = some (sumsD 8 c) := rfl
      have x3 : ixD (.lst [sumsD 8 a, sumsD 8 b, sumsD 8 c, sumsD 8 l]) (.int 3) = some (sumsD 8 l) := rfl
      refine seq_go fun K R hK hR' => ?_
      simp [x0, x1, x2, x3, -List.map_map]
      have q1 : (Bw 8 r a ∧ Bw 8 r b) ↔ Bw 8 r c := by
        unfold Bw
        constructor
        · rintro ⟨z1, z2⟩ k hk
          have := z1 k hk
          have := z2 k hk
          rw [cs]
          omega
        · intro z
          refine ⟨fun k hk => ?_, fun k hk => ?_⟩
          · have := z k hk
            rw [cs] at this
            omega
          · have := z k hk
            rw [cs] at this
            omega
      have q2 : (Bw 8 a r ∧ Bw 8 b r) ↔ Bw 8 l r := by
        rw [Bw.all al rl, Bw.all bl rl, Bw.all ll rl]
        exact ⟨fun z => lmin r rF z.1 z.2, fun z => ⟨fun k => Int.le_trans (la k) (z k), fun k => Int.le_trans (lb k) (z k)⟩⟩
      refine two_below q1 (G := fun u => K _ u) (Bad := fun u => R (.rt (.bl false)) u) (hK _ _ ?_)
      clear hK hR' K R
      refine seq_go fun K R hK hR' => ?_
      simp [x0, x1, x2, x3, -List.map_map]
      refine two_below q2 (G := fun u => K _ u) (Bad := fun u => R (.rt (.bl false)) u) (hK _ _ ?_)
      clear hK hR' K R
      refine seq_go fun K R hK hR' => ?_
      simp [x0, x1, x2, x3, -List.map_map]
      have nn : ∀ {q : List Int}, Falls q → ∀ x ∈ q, (0 : Int) ≤ x := fun {q} hq x hx => by have := hq.1 x hx; omega
      refine init_ok aG ?_
      refine contains_row rF (nn aF) (by omega) fun r1 h1 => ?_
      have key : ∀ b3 : Bool, (b3 = true ↔ ∀ k, sumN r k ≤ sumN c k) → K [.sh .pur, .sh (.lst (RR.map fun r => .tup (r.map D.int))), .sh (.tup (a.map D.int)), .sh (.tup (b.map D.int)), .sh (formD c), .sh (formD l), .sh (.lst [sumsD 8 a, sumsD 8 b, sumsD 8 c, sumsD 8 l]), .sh (.tup (r.map D.int)), .sh (sumsD 8 r), .sh (.bl b3)] u' := fun b3 hb3 => by
        refine hK _ _ ?_
        clear hK hR' K R
        have e8 : ixD (sumsD 8 r) (.int 8) = some (.int (psum r 8)) := at_nat (k := 8) rfl
        simp [e8, -List.map_map]
        refine brd (fun z1 => ?_) (fun z1 => hR0 (.nx _) _ ⟨hu', _, _, _, rfl⟩)
        refine ⟨⟨_, _, rfl⟩, ?_⟩
        refine contains_row rF (nn cG.1) (by omega) fun r3 h3 => ?_
        have e3 : r3 = b3 := by rw [Bool.eq_iff_iff, h3, hb3]
        subst e3
        refine ⟨_, rfl, _, neB2 _ _, _, rfl, ?_⟩
        rw [decide_eq_true rfl]
        exact hR0 (.nx _) _ ⟨hu', _, _, _, rfl⟩
      refine ⟨_, rfl, ?_⟩
      cases r1 with
      | true =>
        simp only [br_t]
        refine init_ok bG ?_
        refine contains_row rF (nn bF) (by omega) fun r2 h2 => ?_
        refine ⟨_, rfl, key r2 ?_⟩
        rw [h2]
        have h1 := h1.mp rfl
        constructor
        · intro z k
          have := h1 k
          have := z k
          rw [cs]
          omega
        · intro z k
          have := z k
          rw [cs] at this
          omega
      | false =>
        simp only [br_f]
        refine key false ?_
        constructor
        · intro z; cases z
        · intro z
          refine h1.mpr fun k => ?_
          have := z k
          rw [cs] at this
          omega
    · rintro ρ u' ⟨hu', x, y, z, rfl⟩
      exact hu'
  rintro ρ u3 hu3
  simp
  exact hP _ hu3
end G18

set_option Elab.async false
set_option linter.all false
set_option maxRecDepth 100000
set_option maxHeartbeats 4000000
namespace G18
open PySem L2 Mi P20 Sh S1
/-- forms of bounded numbers -/
def Gb (row : List Int) : Prop := Good row ∧ sumN row 1 ≤ 31 * big
theorem Gb.of {row : List Int} (h : Row31 row) (hl : row.length ≤ 24) : Gb row := ⟨⟨h.1, hl⟩, by
  rw [← first_is]
  cases row with
  | nil => show (0 : Int) ≤ _; decide
  | cons x r => exact h.2 x List.mem_cons_self⟩
theorem tight_ok {row : List Int} {fl : List Int} (hl : row.length ≤ 100) (hf : fl.length ≤ 1000) (h : ∀ (k : Nat) (x : Int), row[k]? = some x → ∃ (i : Nat) (s : Int), fl[k + 1 + i]? = some s ∧ psum row k + ((i : Int) + 1) * (x - 1) < s) {u : PuS} {P : D → PuS → Prop} (hp : P (.bl true) u) :
    Ok (mf__law_tight [.tup (row.map D.int), .lst (fl.map D.int)]) u P := by
  unfold mf__law_tight mb__law_tight
  simp
  refine ⟨by omega, ?_⟩
  refine ok_range 0 row.length (fun k ρ u' => u' = u ∧ ∃ (a b c : Sd), ρ = [.sh (.tup (row.map D.int)), .sh (.lst (fl.map D.int)), .sh (.int (psum row k)), a, b, c]) ?_ ?_ _ _ ⟨rfl, _, _, _, rfl⟩
  · rintro k ρ u' hk ⟨rfl, a, b, c, rfl⟩
    have ek : row[k]? = some row[k] := List.getElem?_eq_getElem hk
    have e1 := getI ek
    obtain ⟨i, s, ei, hi⟩ := h k _ ek
    have hi2 : k + 1 + i < fl.length := (List.getElem?_eq_some_iff.mp ei).1
    unfold lb__law_tight_2
    simp [mBorLs]
    refine ⟨by omega, by rw [rngD_len]; omega, ?_⟩
    have hn : ((fl.length : Int) - ((k : Int) + 1)).toNat = fl.length - (k + 1) := by omega
    rw [hn]
    let t : Nat → Bool := fun j => decide (psum row k + (((k : Int) + 1 + (j : Int)) - (k : Int)) * (row[k] - 1) < fl.getD (k + 1 + j) 0)
    refine ok_lcr (fun j => [.sh (.tup (row.map D.int)), .sh (.lst (fl.map D.int)), .sh (.int (psum row k)), .sh (.int k), b, .sh (.int ((k : Int) + 1 + (j : Nat)))]) t (fun j => .int ((k : Int) + 1 + (j : Nat))) ?_ ?_ ?_ ?_
    · intro j hj; rfl
    · intro j hj
      have ej : fl[k + 1 + j]? = some fl[k + 1 + j] := List.getElem?_eq_getElem (by omega)
      have e2 : atI (fl.map D.int) ((k : Int) + 1 + (j : Int)) = some (.int fl[k + 1 + j]) := by
        have := getI ej
        rwa [show ((k + 1 + j : Nat) : Int) = (k : Int) + 1 + (j : Int) by omega] at this
      have e3 : t j = decide (psum row k + (((k : Int) + 1 + (j : Int)) - (k : Int)) * (row[k] - 1) < fl[k + 1 + j]) := by
        show decide _ = _
        rw [List.getD_eq_getElem?_getD, ej]; rfl
      rw [e3]
      unfold ct__law_tight_1
      simp [e1, e2]
      exact .inl (.inl (by omega))
    · intro j hj _; simp
    · have hti : t i = true := by
        refine decide_eq_true ?_
        rw [List.getD_eq_getElem?_getD, ei, show ((k : Int) + 1 + (i : Int)) - (k : Int) = (i : Int) + 1 by omega]
        exact hi
      have hmem : i ∈ (List.range (fl.length - (k + 1))).filter t := List.mem_filter.mpr ⟨List.mem_range.mpr (by omega), hti⟩
      obtain ⟨L, hL, eL⟩ : ∃ L : List Int, L ≠ [] ∧ ((List.range (fl.length - (k + 1))).filter t).map (fun j : Nat => D.int ((k : Int) + 1 + (j : Nat))) = L.map D.int :=
        ⟨((List.range (fl.length - (k + 1))).filter t).map (fun j : Nat => ((k : Int) + 1 + (j : Nat))), ⟨fun z => (by have z2 := List.map_eq_nil_iff.mp z; rw [z2] at hmem; cases hmem), by rw [List.map_map]; rfl⟩⟩
      rw [eL]
      have e6 : eqMD (.lst (L.map D.int)) (.lst []) = some (.bl false) := by rw [s_eqL0]; simp [hL]
      simp [e6, e1]
      show psum row k + row[k] = psum row k + row.getD k 0
      simp [hk]
  · rintro ρ u' ⟨rfl, a, b, c, rfl⟩
    simpa using hp

theorem bound_ok {a b c l : List Int} (aG : Good a) (bG : Good b) (cG : Good c) (cs : ∀ k, sumN c k = min (sumN a k) (sumN b k)) (lL : Least 0 (MX a b) l) {u : PuS} {P : D → PuS → Prop} (h : P (.bl true) u) : Ok (mf__law_bound_anew [formD a, formD b, formD c, formD l]) u P := by
  have cu : ∀ {d : List Int}, Good d → (∀ k, sumN d k = min (sumN a k) (sumN b k)) → d = c := fun {d} hd ds => falls_eq hd.1 cG.1 fun n => by rw [ds, cs]
  have cu' : ∀ {d : List Int}, Good d → (∀ k, sumN d k = min (sumN b k) (sumN a k)) → d = c := fun {d} hd ds => falls_eq hd.1 cG.1 fun n => by rw [ds, cs]; omega
  have lu : ∀ {d : List Int}, Least 0 (MX a b) d → d = l := fun hd => hd.uniq lL
  have lu' : ∀ {d : List Int}, Least 0 (MX b a) d → d = l := fun hd => by
    have : MX b a = MX a b := by
      unfold MX
      rw [Nat.max_comm]
      refine List.map_congr_left fun k _ => ?_
      omega
    rw [this] at hd
    exact hd.uniq lL
  unfold mf__law_bound_anew mb__law_bound_anew
  rw [ok_fn]
  refine seq_go fun K R hK hR => ?_
  simp
  refine hK _ _ ?_
  clear hK hR K R
  refine seq_go fun K R hK hR => ?_
  simp
  refine ⟨⟨_, _, rfl⟩, ⟨_, _, rfl⟩, fand_ok aG bG fun d dG ds => ?_⟩
  rw [cu dG ds]
  refine hK _ _ ?_
  clear hK hR K R d dG ds
  refine seq_go fun K R hK hR => ?_
  simp
  refine ⟨⟨_, _, rfl⟩, feq_ok.mpr ⟨_, rfl, ?_⟩⟩
  rw [decide_eq_true rfl]
  simp only [br_t]
  refine hK _ _ ?_
  clear hK hR K R
  refine seq_go fun K R hK hR => ?_
  simp
  refine hK _ _ ?_
  clear hK hR K R
  refine seq_go fun K R hK hR => ?_
  simp
  refine ⟨⟨_, _, rfl⟩, ⟨_, _, rfl⟩, for_ok aG bG fun d dL => ?_⟩
  rw [lu dL]
  refine hK _ _ ?_
  clear hK hR K R d dL
  simp
  refine ⟨⟨_, _, rfl⟩, feq_ok.mpr ⟨_, rfl, ?_⟩⟩
  rw [decide_eq_true rfl]
  simp only [br_t]
  refine ⟨⟨_, _, rfl⟩, ⟨_, _, rfl⟩, for_ok bG aG fun d dL => ?_⟩
  rw [lu' dL]
  refine ⟨⟨_, _, rfl⟩, ⟨_, _, rfl⟩, feq_ok.mpr ⟨_, rfl, ?_⟩⟩
  rw [decide_eq_true rfl]
  simp only [br_t]
  refine ⟨⟨_, _, rfl⟩, ⟨_, _, rfl⟩, fand_ok bG aG fun e eG es => ?_⟩
  rw [cu' eG es]
  refine ⟨⟨_, _, rfl⟩, ⟨_, _, rfl⟩, feq_ok.mpr ⟨_, rfl, ?_⟩⟩
  rw [decide_eq_true rfl]
  exact h
theorem great_ok {u : PuS} (hu : Pu u) {P : D → PuS → Prop} (hP : ∀ u', Pu u' → P (.bl true) u') : Ok (mf__law_great_right [.pur]) u P := by
  unfold mf__law_great_right mb__law_great_right
  rw [ok_fn]
  refine seq_go fun K R hK hR => ?_
  simp
  refine draw_ok (by decide) hu fun m u1 m0 m1 hu1 => ?_
  obtain ⟨m, rfl⟩ : ∃ z : Nat, m = (z : Int) := ⟨m.toNat, by omega⟩
  refine row_big hu1 (by omega) fun a u2 hla hra hu2 => ?_
  refine draw_ok (by decide) hu2 fun n u3 n0 n1 hu3 => ?_
  obtain ⟨n, rfl⟩ : ∃ z : Nat, n = (z : Int) := ⟨n.toNat, by omega⟩
  refine row_big hu3 (by omega) fun b u4 hlb hrb hu4 => ?_
  refine hK _ _ ?_
  clear hK hR K R hu hu1 hu2 hu3
  have hga := Gb.of hra (by omega)
  have hgb := Gb.of hrb (by omega)
  refine seq_go fun K R hK hR => ?_
  simp
  refine init_ok hga.1 ?_
  refine init_ok hgb.1 (hK _ _ ?_)
  clear hK hR K R
  refine seq_go fun K R hK hR => ?_
  simp
  refine fand_ok hga.1 hgb.1 fun c cG cs => ?_
  refine for_ok hga.1 hgb.1 fun l lL => hK _ _ ?_
  clear hK hR K R
  obtain ⟨lF, la, lb, lmin⟩ := or_is lL
  have hal := hga.1.2
  have hbl := hgb.1.2
  have ll : l.length ≤ 24 := by
    have := lL.len
    rw [MX_len] at this
    omega
  have lG : Good l := ⟨lF, ll⟩
  have hbd : ∀ r : List Int, Gb r → ∀ x ∈ r, x.natAbs < 10 ^ 60 := fun r hr x hx => by
    have h1 := le_first hr.1.1 hx
    have h2 := hr.2
    have h3 := hr.1.1.1 x hx
    have e : (10 : Nat) ^ 60 = 1000000000000000000000000000000000000000000000000000000000000 := by decide
    rw [e]
    unfold big at h2
    omega
  have rowR : ∀ r : List Int, Gb r → Rp 1 1700 (.tup (r.map D.int)) := fun r hr => Rp.row (by have := hr.1.2; omega) (hbd r hr)
  obtain ⟨tx, htx⟩ := rep_is (d := .lst [D.tup (a.map D.int), D.tup (b.map D.int)]) rfl (Rp.lst (k := 1) (n := 1700) fun d hd => by
    simp at hd
    rcases hd with rfl | rfl
    · exact rowR _ hga
    · exact rowR _ hgb) (by omega) (by simp)
  refine seq_go fun K R hK hR => ?_
  simp
  refine bound_ok hga.1 hgb.1 cG cs lL ?_
  refine ⟨_, rfl, ?_⟩
  simp
  refine ⟨_, htx, _, htx, ?_⟩
  simp
  refine hK _ _ ?_
  clear hK hR K R htx tx
  refine seq_go fun K R hK hR => ?_
  simp
  refine lsum_ok (n := 24) (by decide) ?_
  refine lsum_ok (n := 24) (by decide) ?_
  refine hK _ _ ?_
  clear hK hR K R
  have ix : ∀ {q : List Int} {k : Nat}, k < 25 → ixD (sumsD 24 q) (.int (k : Int)) = some (.int (psum q k)) := fun {q k} hk => at_nat (by rw [List.getElem?_map, List.getElem?_map, List.getElem?_range hk]; rfl)
  refine seq_go fun K R hK hR => ?_
  simp [mBorLs]
  refine ⟨by rw [rngD_len]; decide, ?_⟩
  rw [show rngD 0 25 = (List.range 25).map fun k : Nat => D.int (k : Nat) from rngD_zero 25]
  refine ok_lca (xs := List.range 25) (f := fun k : Nat => D.int (k : Nat)) (fun k => [.sh .pur, .sh (.tup (a.map D.int)), .sh (.tup (b.map D.int)), .sh (formD a), .sh (formD b), .sh (formD c), .sh (formD l), .sh (sumsD 24 a), .sh (sumsD 24 b), .un, .un, .un, .sh (.int (k : Int)), .un]) (fun k => .int (psum c k)) (fun k hk => rfl) (fun k hk => ?_) ?_
  · have hk2 := List.mem_range.mp hk
    unfold ce__law_great_right_1
    simp [ix hk2]
    rw [psum_sumN, psum_sumN, psum_sumN, cs]
    omega
  have e1 : (List.range 25).map (fun k => D.int (psum c k)) = ((List.range 25).map (psum c)).map D.int := by rw [List.map_map]; rfl
  rw [e1]
  refine hK _ _ ?_
  clear hK hR K R e1
  have clen := cG.2
  have n1 : decide (24 < (c.length : Int)) = false := decide_eq_false (by omega)
  have n2 : decide (24 < (l.length : Int)) = false := decide_eq_false (by omega)
  have enl : neMD (sumsD 24 c) (.lst (((List.range 25).map (psum c)).map D.int)) = some (.bl false) := by
    have := s_neL (xs := (List.range 25).map (psum c)) (ys := (List.range 25).map (psum c))
    rw [decide_eq_true rfl] at this
    exact this
  refine seq_go fun K R hK hR => ?_
  simp [-List.map_map]
  refine ⟨⟨_, _, rfl⟩, flen_ok.mpr ⟨_, rfl, ⟨by omega, by omega⟩, ?_⟩⟩
  rw [n1, br_f]
  refine ⟨_, _, rfl, frow' ?_⟩
  refine lsum_ok (n := 24) (by decide) ?_
  refine ⟨_, enl, _, rfl, ?_⟩
  simp only [br_f]
  refine hK _ _ ?_
  clear hK hR K R
  refine seq_go fun K R hK hR => ?_
  simp [mBorLs, -List.map_map]
  refine ⟨by rw [rngD_len]; decide, ?_⟩
  rw [show rngD 0 25 = (List.range 25).map fun k : Nat => D.int (k : Nat) from rngD_zero 25]
  refine ok_lca (xs := List.range 25) (f := fun k : Nat => D.int (k : Nat)) (fun k => [.sh .pur, .sh (.tup (a.map D.int)), .sh (.tup (b.map D.int)), .sh (formD a), .sh (formD b), .sh (formD c), .sh (formD l), .sh (sumsD 24 a), .sh (sumsD 24 b), .sh (.lst (((List.range 25).map (psum c)).map D.int)), .un, .un, .sh (.int (k : Int)), .un]) (fun k => .int (max (psum a k) (psum b k))) (fun k hk => rfl) (fun k hk => ?_) ?_
  · have hk2 := List.mem_range.mp hk
    unfold ce__law_great_right_2
    simp [ix hk2]
    omega
  have e1 : (List.range 25).map (fun k => D.int (max (psum a k) (psum b k))) = ((List.range 25).map fun k => max (psum a k) (psum b k)).map D.int := by rw [List.map_map]; rfl
  rw [e1]
  generalize hWL : ((List.range 25).map fun k => max (psum a k) (psum b k)) = WL
  have wat : ∀ k, k < 25 → WL[k]? = some (max (sumN a k) (sumN b k)) := fun k hk => by
    rw [← hWL, List.getElem?_map, List.getElem?_range hk, ← psum_sumN, ← psum_sumN]
    rfl
  have wl : WL.length = 25 := by rw [← hWL]; simp
  refine hK _ _ ?_
  clear hK hR K R e1
  refine seq_go fun K R hK hR => ?_
  simp [-List.map_map]
  refine ⟨⟨_, _, rfl⟩, flen_ok.mpr ⟨_, rfl, ⟨by omega, by omega⟩, ?_⟩⟩
  rw [n2, br_f]
  refine ⟨_, _, rfl, frow' ?_⟩
  refine lsum_ok (n := 24) (by decide) ?_
  refine below_any (xs := WL) (ys := (List.range 25).map (psum l)) (by omega) (by rw [wl]; simp) fun q hq => ?_
  have q1 : q = true := hq.mpr fun k x y ex ey => by
    have hk : k < 25 := by have := (List.getElem?_eq_some_iff.mp ex).1; omega
    rw [wat k hk] at ex
    rw [List.getElem?_map, List.getElem?_range hk] at ey
    cases ex
    cases ey
    rw [psum_sumN]
    have := la k
    have := lb k
    omega
  subst q1
  refine ⟨_, rfl, ?_⟩
  simp
  refine hK _ _ ?_
  clear hK hR K R hq
  refine seq_go fun K R hK hR => ?_
  simp [mBorLs]
  refine ⟨⟨_, _, rfl⟩, flen_ok.mpr ⟨_, rfl, ⟨by omega, by omega⟩, ?_⟩⟩
  generalize hC9 : D.lst (List.map (D.int ∘ psum c) (List.range 25)) = C9
  rw [Int.toNat_natCast]
  refine ⟨⟨by omega, by omega⟩, by rw [rngD_len]; omega, ?_⟩
  have ixl : ∀ {k : Nat} (hk : k < l.length), ixD (.tup (l.map D.int)) (.int (k : Int)) = some (.int l[k]) := fun {k} hk => at_nat (by rw [List.getElem?_map, List.getElem?_eq_getElem hk]; rfl)
  refine ok_lcr (fun i => [.sh .pur, .sh (.tup (a.map D.int)), .sh (.tup (b.map D.int)), .sh (formD a), .sh (formD b), .sh (formD c), .sh (formD l), .sh (sumsD 24 a), .sh (sumsD 24 b), .sh C9, .sh (.lst (WL.map D.int)), .un, .sh (.int (1 + (i : Nat))), .un]) (fun i => false) (fun i => .int (1 + (i : Nat))) ?_ ?_ ?_ ?_
  · intro i hi; rfl
  · intro i hi
    have g1 := ixl (k := i + 1) (by omega)
    have g2 := ixl (k := i) (by omega)
    have g3 : (1 : Int) + (i : Int) = ((i + 1 : Nat) : Int) := by omega
    have g4 : ((i + 1 : Nat) : Int) - 1 = (i : Int) := by omega
    have g5 := lF.2 i _ _ (List.getElem?_eq_getElem (by omega)) (List.getElem?_eq_getElem (show i + 1 < l.length by omega))
    have g6 : gtD (.int l[i + 1]) (.int l[i]) = some (.bl false) := by
      show some (D.bl (decide (l[i + 1] > l[i]))) = _
      rw [decide_eq_false (by omega)]
    rw [g3]
    unfold ct__law_great_right_3
    simp only [ok_B, ok_bin, ok_var, ok_C]
    have fr : ∀ {Q : D → PuS → Prop}, Q (.tup (l.map D.int)) u4 → Ok (mSelf "Form" mf_Form_row (mVar 6) [.sh .pur, .sh (.tup (a.map D.int)), .sh (.tup (b.map D.int)), .sh (formD a), .sh (formD b), .sh (formD c), .sh (formD l), .sh (sumsD 24 a), .sh (sumsD 24 b), .sh C9, .sh (.lst (WL.map D.int)), .un, .sh (.int ((i + 1 : Nat) : Int)), .un]) u4 Q := fun {Q} q => by
      simp
      exact ⟨_, _, rfl, frow' q⟩
    refine fr ⟨_, rfl, _, g1, fr ⟨_, rfl, _, rfl, _, ?_, _, g6, _, rfl, rfl, rfl⟩⟩
    rw [g4]
    exact g2
  · intro i hi z; cases z
  have ef : ((List.range (l.length - 1)).filter fun i => false) = [] := List.filter_eq_nil_iff.mpr (by simp)
  rw [ef]
  refine hK _ _ ?_
  clear hK hR K R ef
  refine seq_go fun K R hK hR => ?_
  simp
  have e0 : neMD (.lst []) (.lst []) = some (.bl false) := by
    have := s_neL0 (xs := [])
    simpa using this
  refine ⟨_, e0, _, rfl, ?_⟩
  simp only [br_f]
  refine ⟨_, _, rfl, frow' ⟨_, rfl, by rw [List.length_map]; omega, ?_⟩⟩
  refine ok_lcm (xs := l) (f := D.int) (fun x => [.sh .pur, .sh (.tup (a.map D.int)), .sh (.tup (b.map D.int)), .sh (formD a), .sh (formD b), .sh (formD c), .sh (formD l), .sh (sumsD 24 a), .sh (sumsD 24 b), .sh C9, .sh (.lst (WL.map D.int)), .sh (.lst []), .un, .sh (.int x)]) (fun x => false) (fun x => .int x) (fun x hx => rfl) (fun x hx => ?_) (fun x hx z => by cases z) ?_
  · have := lF.1 x hx
    have hd : decide (x < 1) = false := decide_eq_false (by omega)
    simp only [ok_B, ok_bin, ok_var, ok_C]
    refine ⟨_, rfl, .bl false, ?_, _, rfl, by simp⟩
    show some (D.bl (decide (x < 1))) = _
    rw [hd]
  have ef : (l.filter fun x => false) = [] := List.filter_eq_nil_iff.mpr (by simp)
  rw [ef]
  refine ⟨_, e0, _, rfl, ?_⟩
  simp only [br_f]
  refine hK _ _ ?_
  clear hK hR K R ef
  simp
  refine ⟨_, _, rfl, frow' ?_⟩
  refine tight_ok (by omega) (by omega) (fun k x ek => ?_) (hP _ hu4)
  obtain ⟨i, s, h1, h2⟩ := lL.tight k x ek
  obtain ⟨h3, h4⟩ := MX_at h1
  refine ⟨i, s, ?_, by rw [psum_sumN]; omega⟩
  rw [show k + 1 + i = k + i + 1 by omega, wat (k + i + 1) (by omega), h4]
theorem right_ok {u : PuS} (hu : Pu u) : Ok (mf__law_right [.pur]) u fun d _ => d = .bl true := by
  unfold mf__law_right mb__law_right
  rw [ok_fn]
  refine seq_go fun K R hK hR => ?_
  simp
  refine (ok_of (rows8 u)).mpr ?_
  refine draw_ok (by decide) hu fun m u1 m0 m1 hu1 => hK _ _ ?_
  clear hK hR K R
  refine seq_go fun K R hK hR => ?_
  simp [-List.map_map]
  refine small_ok hu1 fun u2 hu2 => ?_
  refine ⟨_, rfl, ?_⟩
  simp [-List.map_map]
  refine great_ok hu2 fun u3 hu3 => ?_
  refine ⟨_, rfl, ?_⟩
  simp [-List.map_map]
  refine hK _ _ ?_
  clear hK hR K R
  simp [-List.map_map]
  exact brd (fun _ => trivial) (fun _ => small_ok hu3 fun _ _ => rfl)
theorem hlaw (ns : List Int) (o : HO) (hl : ns.length ≤ 63) : ∃ u', mf_law [.scr ns] (.idle o) = some (.bl true, u') :=
  law_fin (fun ns u => law_all (by decide) (fun u hu => right_ok hu) ns u) ns o hl
end G18

set_option maxHeartbeats 0
open PySem PySem.W PySem.Calls PyProof.Rows in
theorem G18.fin (hlaw : ∀ (ns : List Int) (o : L2.HO), ns.length ≤ 63 → ∃ u', G18.mf_law [.scr ns] (.idle o) = some (.bl true, u')) : PySem.Challenge.rw_sparepay_k18_whole_least_and_greatest_fo.Holds := by
  w_on; o_law
  refine HandSHeadRun.head_any (r := OpenLaw.row PySem.Challenge.rw_sparepay_k18_whole_least_and_greatest_fo) (q := view (OpenLaw.row PySem.Challenge.rw_sparepay_k18_whole_least_and_greatest_fo).prog [47]) (H := G18.hk) (ob := G18.ob) (M := 20000) (loose := G18.loose) (d := HandSHeadRun.topDef (OpenLaw.row PySem.Challenge.rw_sparepay_k18_whole_least_and_greatest_fo).prog 47) (kwd := []) G18.ob_eq
    (by kernel_rfl) (fun s => by kernel_rfl) G18.run (by kernel_rfl) (by kernel_rfl) (by kernel_rfl) (by rfl) (by first | assumption | decide +kernel) (by decide +kernel) ⟨rfl, rfl, rfl, rfl, rfl, by decide +kernel⟩ ?hw ?hc
  case hw => w_witness2
  case hc =>
    refine Mi.walk_G (l := PySem.Challenge.rw_sparepay_k18_whole_least_and_greatest_fo) (n := 63) (k := 16) (x := "_law_cells") rfl (by decide) (by kernel_rfl) ⟨rfl, by decide, by decide⟩ ?F
    intro w mg fa h Y G hmg0
    obtain ⟨K, KX, c⟩ := Y
    have hmg : mg ("law" : PySem.Str) = some (.ref fa) := by
      have e : (HandSHeadRun.topDef (OpenLaw.row PySem.Challenge.rw_sparepay_k18_whole_least_and_greatest_fo).prog 47).name = ("law" : PySem.Str) := by kernel_rfl
      rw [← e]
      exact hmg0
    have C : Mi.HF G18.fa G18.fn K mg := ⟨c, h, KX, G⟩
    have eg := G18.glaw C
    rw [hmg] at eg
    cases eg
    have b := L2.FunD.bindsA (ps := ["_law_cells"]) (G18.flaw C) fun _ _ _ _ _ _ us hl => match us, hl with | [_], _ => rfl
    refine ⟨K, _, @Mi.spM Mi.noTabl (Mi.WW G18.cs K) 1 G18.mf_law, KX, fun s v => b s [v] rfl, fun H a ns hl _ hS => Mi.law_sp (TB := Mi.noTabl) (C.fact 59 rfl) 63 hlaw H a ns hl hS (fun _ h => nomatch h), fun base _ _ => G18.ok_law (TB := Mi.noTabl) C⟩

theorem PySem.Challenge.cw_sparepay_k18_whole_least_and_greatest_fo_holds : PySem.Challenge.rw_sparepay_k18_whole_least_and_greatest_fo.Holds := by
  exact G18.fin G18.hlaw
