import PyProof.Rows.All
import Wide.All
import OpenK.AllK
import Wide.FinOn
import KE.KStateDown
import KE.KNest
import KE.KExcInit
import KE.KTryMore
import HandS.Head0
import HandS.Head1
import HandS.Head2
import HandS.HeadEnd
import HandS.HeadHook1
import HandS.HeadHook2
import HandS.ForMost
import HandS.Walk
import HandS.Defaults
import HandS.Lambda
import HandS.ExcCtx
import KE.KDictKeyed
import HandS.Property
import HandS.ClsMeth
import HandS.TupAny
import HandS.Wide
import HandS.WideBits
import HandS.IsInst
import HandS.Style
import HandS.Text
import KE.KTupSum
import KE.GoesEnum
import HandS.Zip
import HandS.MakeKwOnly
import HandS.SortKw
import HandS.SortInts
import HandS.Rev
import HandS.FStr
import HandS.ListItems
import PyProof.Draws
import HandS.OwnEq
import KE.KDictZip
import KE.KOpsOwn
import HandS.Deep
import PyProof.MaxThree
import HandS.Flt
import HandS.Dict
import HandS.Conv
import KE.KDictWalk
import KE.DatumOrd
import PyProof.ListNew
import HandS.Star
import PyProof.ReprRoads
import PySem.Challenge.RW_sparepay_k39_whole_sparing_by_own_play
import Lean
namespace Mi
end Mi
namespace G39
end G39
namespace PySem.W
end PySem.W
namespace PySem
end PySem
namespace SrtR
end SrtR
namespace L2
end L2
namespace Sh
end Sh
namespace S2
end S2
namespace P20
end P20
set_option Elab.async false
set_option linter.all false
set_option maxRecDepth 100000
set_option maxHeartbeats 4000000
/-! Mp0: the checks of the written part (what the run of the top is asked). -/
namespace Mi
open PySem PySem.Spec PyProof.Rows L2 He
/-- the errors of the package, their three bases -/
def errV : List Str := ["InvalidName", "InvalidText", "InvalidAmount", "InvalidBill", "InvalidIndex", "NotACard", "NotAWallet", "NotAForm", "NotACourse", "NotFacts", "NotARule", "InvalidCards", "InvalidRow", "InvalidEvents", "InvalidPayment", "InvalidPaid", "InvalidRefused", "InvalidKeys"]
def errN : List Str := ["UnknownName", "InUse"]
def errA : List Str := ["CannotPay", "Full", "TooMany", "NoWallet", "Broken", "NothingToUndo"]
def errB : List Str := ["WrongValue", "WrongName", "NoAnswer"]
def errs : List Str := errV ++ errN ++ errA ++ errB

/-- the package's classes: which is under which -/
def subC (c k : Str) : Bool := decide (c = k) || (decide (k = "Rule") && (decide (c = "Drain") || decide (c = "Units") || decide (c = "Spare")))
def refsM (o : Obj) : List Addr := match o.cls with
  | .type "code" => []
  | _ => refsD o
def frontM (g : Addr → Option Obj) (as : List Addr) : List Addr := as.flatMap fun a => match g a with
  | some o => refsM o
  | none => []
def bfsM (g : Addr → Option Obj) : Nat → List Addr → List Addr
  | 0, as => as
  | n + 1, as => as ++ bfsM g n (frontM g as).eraseDups
def asM (g : Addr → Option Obj) (n : Nat) : List Addr := (bfsM g n [mainGlobals, cStatics]).eraseDups
def recFn (K : PySem.W.Frag) (p : Addr) (T : String) : Addr := match PySem.W.recIn K p T with
  | some (.ref g :: _) => g
  | _ => 0
inductive Pl where
  | glob (x : Str) | meth (c m : Str) | prop (c m : Str) | stat (c m : Str) | clsm (c m : Str)
def Pl.ad (K : PySem.W.Frag) : Pl → Addr
  | .glob x => ga K x
  | .meth c m => ma K (ga K c) m
  | .prop c m => recFn K (ma K (ga K c) m) "property"
  | .stat c m => recFn K (ma K (ga K c) m) "staticmethod"
  | .clsm c m => recFn K (ma K (ga K c) m) "classmethod"
def fd0 : FuncData := PySem.W.fnOf "" "" ⟨[], [], none, [], [], none, []⟩ [] ⟨.function, [], false, false, []⟩ .none .none .none .none none .none .none
def fdOf (K : PySem.W.Frag) (a : Addr) : FuncData := match K.lookup a with
  | some ⟨_, _, .func fd, _⟩ => fd
  | _ => fd0
/-- one def: its place, name, qualified name, parameters, body, scope -/
structure DefP where
  at_ : Pl
  name : Str
  qual : Str
  params : Arguments
  body : List Stmt
  scope : Scope
def fnP (K : PySem.W.Frag) (a : Addr) : FnW := match K.lookup a with
  | some ⟨_, _, .func fd, _⟩ => some (fd.name, fd.qualname, fd.params, fd.body, fd.scope, fd.globals, fd.closure, fd.builtins)
  | _ => none
def DefP.val (d : DefP) : FnW := some (d.name, d.qual, d.params, .stmts d.body, d.scope, mainGlobals, [], builtinsNs)
def DefP.ok (K : PySem.W.Frag) (d : DefP) : Bool := PySem.W.keepIn K (.ref (d.at_.ad K)) && (match K.lookup (d.at_.ad K) with
  | some ⟨_, _, .func fd, _⟩ => PySem.W.codeIn K fd.code d.qual && dflB K fd.defaults []
  | _ => false)
inductive Ft where
  | b (f : Fa) | prop (c f : Str) | stat (c m : Str) | clsm (c m : Str) | eqc (c : Str) | isi (cs : List Str) | len (c : Str) | raw (f : PySem.W.Frag → Bool)
def insB (K : PySem.W.Frag) (C : Addr) : Bool := (PySem.W.plainGet K C Str.empty && (PySem.W.hasDictIn K C && (PySem.W.plainOver K C && eqO (PySem.W.findIn K (.ref C) "__setattr__") (some (some (.builtin "object.__setattr__"))))))
  && (eqO (PySem.W.findIn K (.ref C) "__class__") (some (some (.builtin "object.__class__"))) && (eqO (PySem.W.specialIn K (.builtin "object.__class__") "__get__") (some (some (.builtin "getset_descriptor.__get__")))
  && (decide (PySem.W.takesIn K (.builtin "object.__class__") = some true) && decide (PySem.W.mroIn K C (.type "object") = some true))))
def Ft.ok (K : PySem.W.Frag) : Ft → Bool
  | .b f => f.ok K
  | .prop c f => eqO (PySem.W.findIn K (.ref (ga K c)) f) (some (some (.ref (ma K (ga K c) f)))) && (eqO (PySem.W.specialIn K (.ref (ma K (ga K c) f)) "__get__") (some (some (.builtin "property.__get__"))) && (decide (PySem.W.takesIn K (.ref (ma K (ga K c) f)) = some true) &&
    (match PySem.W.recIn K (ma K (ga K c) f) "property" with
      | some (.ref _ :: _) => true
      | _ => false)))
  | .stat c m => PySem.W.readsIn K (ga K c) (.type "type") && (eqO (PySem.W.specialIn K (.ref (ga K c)) "__getattribute__") (some (some (.builtin "type.__getattribute__"))) && ((match PySem.W.findCls K (.ref (ga K c)) (.type "type") m with
      | some (.get (.builtin "staticmethod.__get__") (.ref q) .none (.ref C)) => decide (q = ma K (ga K c) m) && decide (C = ga K c)
      | _ => false) && ((match PySem.W.recIn K (ma K (ga K c) m) "staticmethod" with
      | some (.ref _ :: _) => true
      | _ => false) && PySem.W.keepIn K (.ref (recFn K (ma K (ga K c) m) "staticmethod")))))
  | .clsm c m => PySem.W.readsIn K (ga K c) (.type "type") && (eqO (PySem.W.specialIn K (.ref (ga K c)) "__getattribute__") (some (some (.builtin "type.__getattribute__"))) && ((match PySem.W.findCls K (.ref (ga K c)) (.type "type") m with
      | some (.get (.builtin "classmethod.__get__") (.ref q) .none (.ref C)) => decide (q = ma K (ga K c) m) && decide (C = ga K c)
      | _ => false) && ((match PySem.W.recIn K (ma K (ga K c) m) "classmethod" with
      | some (.ref _ :: _) => true
      | _ => false) && PySem.W.fnIn K (recFn K (ma K (ga K c) m) "classmethod"))))
  | .eqc c => eqO (PySem.W.findIn K (.ref (ga K c)) "__eq__") (some (some (.ref (ma K (ga K c) "__eq__")))) && (PySem.W.isFn K (.ref (ma K (ga K c) "__eq__")) && (eqO (PySem.W.findIn K (.ref (ga K c)) "__ne__") (some (some (.builtin "object.__ne__"))) && decide (PySem.W.mroIn K (ga K c) (.type "object") = some true)))
  | .isi cs => (cs.all fun c => insB K (ga K c)) && ((cs.all fun c => cs.all fun k => decide (PySem.W.kitOne K (.ref (ga K c)) (.ref (ga K k)) = some (subC c k))) &&
    ((["NoneType", "bool", "int", "str", "tuple", "list", "dict"].all fun a => cs.all fun k => decide (PySem.W.kitOne K (.type a) (.ref (ga K k)) = some false)) &&
    (cs.all fun c => ["int", "bool", "str", "tuple", "list"].all fun n => decide (PySem.W.kitOne K (.ref (ga K c)) (.type n) = some false))))
  | .len c => eqO (PySem.W.findIn K (.ref (ga K c)) "__len__") (some (some (.ref (ma K (ga K c) "__len__")))) && PySem.W.isFn K (.ref (ma K (ga K c) "__len__"))
  | .raw f => f K
abbrev AlP : Type := Bool × List FnW
def obsP (fa : List Ft) (fn : List DefP) (K : PySem.W.Frag) : AlP := ((fa.all fun f => f.ok K) && fn.all fun d => d.ok K, fn.map fun d => fnP K (d.at_.ad K))
def valP (fn : List DefP) : AlP := (true, fn.map DefP.val)
def SaysP (fa : List Ft) (fn : List DefP) (K : PySem.W.Frag) : Prop := obsP fa fn K = valP fn
def obsPG (n : Nat) (fa : List Ft) (fn : List DefP) (g : Addr → Option Obj) : AlP := obsP fa fn (frG g (asM g n))
def hookP (n : Nat) (fa : List Ft) (fn : List DefP) : PySem.W.Hook where
  α := AlP
  obs := fun s => obsPG n fa fn s.heap.get?
  val := fun _ => valP fn
  says := fun _ h => ∃ K : PySem.W.Frag, K.In h ∧ SaysP fa fn K
  of := fun _ _ e => ⟨_, frG_in, e⟩
  keeps := fun _ _ _ ⟨K, hK, c⟩ k => ⟨K, PySem.W.Frag.In.keeps hK k, c⟩
theorem obsPG_eq {n : Nat} {fa : List Ft} {fn : List DefP} {g : Addr → Option Obj} {s : Shared} (h : ∀ a, g a = s.heap.get? a) : obsPG n fa fn g = (hookP n fa fn).obs s := by
  have e : g = s.heap.get? := funext h
  rw [e] <;> rfl
def noListsB (K : PySem.W.Frag) : Bool := K.all fun q => match q.2.cls with
  | .type c => !(c == "list")
  | _ => true
end Mi

namespace G39
open PySem PySem.Spec PyProof.Rows L2 Mi He
def top (i : Nat) : Stmt := PySem.Challenge.pw_sparepay_k39_whole_sparing_by_own_play.main.body.getD i (.Pass ⟨0, 0, 0, 0⟩)
def sub (s : Stmt) (j : Nat) : Stmt := match s with
  | .ClassDef _ _ _ b _ _ _ _ _ _ _ => b.getD j (.Pass ⟨0, 0, 0, 0⟩)
  | _ => .Pass ⟨0, 0, 0, 0⟩

@[reducible] def cs : List Str := ["Card", "Form", "Wallet"]
theorem hc_Card : ("Card" : Str) ∈ cs := by decide
theorem hc_Form : ("Form" : Str) ∈ cs := by decide
theorem hc_Wallet : ("Wallet" : Str) ∈ cs := by decide
abbrev st__law_draw : Stmt := (top 67)
def d__law_draw : DefP := ⟨.glob "_law_draw", "_law_draw", "_law_draw", defArgs st__law_draw, defBody st__law_draw, defScope st__law_draw⟩
theorem sc__law_draw : FnScope ["_law_purse_here", "_law_many", "_law_digit", "_law_seed"] ["_law_purse_here", "_law_many"] (defScope st__law_draw) := ⟨rfl, rfl, rfl, by decide +kernel, rfl, by decide +kernel, by decide +kernel⟩
abbrev st__law_small : Stmt := (top 68)
def d__law_small : DefP := ⟨.glob "_law_small", "_law_small", "_law_small", defArgs st__law_small, defBody st__law_small, defScope st__law_small⟩
theorem sc__law_small : FnScope ["_law_purse_here", "_law_most", "_law_total", "_law_found", "_law_turn", "_law_limit", "_law_balance"] ["_law_purse_here", "_law_most", "_law_total"] (defScope st__law_small) := ⟨rfl, rfl, rfl, by decide +kernel, rfl, by decide +kernel, by decide +kernel⟩
abbrev st__law_room : Stmt := (top 70)
def d__law_room : DefP := ⟨.glob "_law_room", "_law_room", "_law_room", defArgs st__law_room, defBody st__law_room, defScope st__law_room⟩
theorem sc__law_room : FnScope ["_law_amounts", "_law_days", "_law_balance", "_law_limit"] ["_law_amounts", "_law_days"] (defScope st__law_room) := ⟨rfl, rfl, rfl, by decide +kernel, rfl, by decide +kernel, by decide +kernel⟩
abbrev st_is_name : Stmt := (top 27)
def d_is_name : DefP := ⟨.glob "is_name", "is_name", "is_name", defArgs st_is_name, defBody st_is_name, defScope st_is_name⟩
theorem sc_is_name : FnScope ["value", "sign"] ["value"] (defScope st_is_name) := ⟨rfl, rfl, rfl, by decide +kernel, rfl, by decide +kernel, by decide +kernel⟩
abbrev st_wrong_pair : Stmt := (top 50)
def d_wrong_pair : DefP := ⟨.glob "wrong_pair", "wrong_pair", "wrong_pair", defArgs st_wrong_pair, defBody st_wrong_pair, defScope st_wrong_pair⟩
theorem sc_wrong_pair : FnScope ["pairs", "names", "index", "pair", "name", "card"] ["pairs"] (defScope st_wrong_pair) := ⟨rfl, rfl, rfl, by decide +kernel, rfl, by decide +kernel, by decide +kernel⟩
abbrev st_Wallet___init__ : Stmt := (sub (top 51) 0)
def d_Wallet___init__ : DefP := ⟨.meth "Wallet" "__init__", "__init__", "Wallet.__init__", defArgs st_Wallet___init__, defBody st_Wallet___init__, defScope st_Wallet___init__⟩
theorem sc_Wallet___init__ : FnScope ["self", "cards", "wrong"] ["self", "cards"] (defScope st_Wallet___init__) := ⟨rfl, rfl, rfl, by decide +kernel, rfl, by decide +kernel, by decide +kernel⟩
abbrev st_is_integer : Stmt := (top 24)
def d_is_integer : DefP := ⟨.glob "is_integer", "is_integer", "is_integer", defArgs st_is_integer, defBody st_is_integer, defScope st_is_integer⟩
theorem sc_is_integer : FnScope ["value"] ["value"] (defScope st_is_integer) := ⟨rfl, rfl, rfl, by decide +kernel, rfl, by decide +kernel, by decide +kernel⟩
abbrev st_is_natural : Stmt := (top 25)
def d_is_natural : DefP := ⟨.glob "is_natural", "is_natural", "is_natural", defArgs st_is_natural, defBody st_is_natural, defScope st_is_natural⟩
theorem sc_is_natural : FnScope ["value"] ["value"] (defScope st_is_natural) := ⟨rfl, rfl, rfl, by decide +kernel, rfl, by decide +kernel, by decide +kernel⟩
abbrev st_Card___init__ : Stmt := (sub (top 48) 0)
def d_Card___init__ : DefP := ⟨.meth "Card" "__init__", "__init__", "Card.__init__", defArgs st_Card___init__, defBody st_Card___init__, defScope st_Card___init__⟩
theorem sc_Card___init__ : FnScope ["self", "balance", "limit"] ["self", "balance", "limit"] (defScope st_Card___init__) := ⟨rfl, rfl, rfl, by decide +kernel, rfl, by decide +kernel, by decide +kernel⟩
abbrev st__law_shutet : Stmt := (top 69)
def d__law_shutet : DefP := ⟨.glob "_law_shutet", "_law_shutet", "_law_shutet", defArgs st__law_shutet, defBody st__law_shutet, defScope st__law_shutet⟩
theorem sc__law_shutet : FnScope ["_law_amounts", "_law_names", "_law_k"] ["_law_amounts"] (defScope st__law_shutet) := ⟨rfl, rfl, rfl, by decide +kernel, rfl, by decide +kernel, by decide +kernel⟩
abbrev st__law_ways : Stmt := (top 71)
def d__law_ways : DefP := ⟨.glob "_law_ways", "_law_ways", "_law_ways", defArgs st__law_ways, defBody st__law_ways, defScope st__law_ways⟩
theorem sc__law_ways : FnScope ["_law_amounts", "_law_cost", "_law_found", "_law_balance", "_law_limit", "_law_longer", "_law_some", "_law_rest", "_law_k"] ["_law_amounts", "_law_cost"] (defScope st__law_ways) := ⟨rfl, rfl, rfl, by decide +kernel, rfl, by decide +kernel, by decide +kernel⟩
abbrev st__law_falling : Stmt := (top 74)
def d__law_falling : DefP := ⟨.glob "_law_falling", "_law_falling", "_law_falling", defArgs st__law_falling, defBody st__law_falling, defScope st__law_falling⟩
theorem sc__law_falling : FnScope ["_law_total", "_law_most", "_law_found", "_law_left", "_law_row", "_law_rest", "_law_top", "_law_k"] ["_law_total", "_law_most"] (defScope st__law_falling) := ⟨rfl, rfl, rfl, by decide +kernel, rfl, by decide +kernel, by decide +kernel⟩
abbrev st__law_behind : Stmt := (top 72)
def d__law_behind : DefP := ⟨.glob "_law_behind", "_law_behind", "_law_behind", defArgs st__law_behind, defBody st__law_behind, defScope st__law_behind⟩
theorem sc__law_behind : FnScope ["_law_amounts", "_law_way", "_law_k"] ["_law_amounts", "_law_way"] (defScope st__law_behind) := ⟨rfl, rfl, rfl, by decide +kernel, rfl, by decide +kernel, by decide +kernel⟩
abbrev st__law_pays : Stmt := (top 73)
def d__law_pays : DefP := ⟨.glob "_law_pays", "_law_pays", "_law_pays", defArgs st__law_pays, defBody st__law_pays, defScope st__law_pays⟩
theorem sc__law_pays : FnScope ["_law_amounts", "_law_events", "_law_states", "_law_event", "_law_found", "_law_state", "_law_way"] ["_law_amounts", "_law_events"] (defScope st__law_pays) := ⟨rfl, rfl, rfl, by decide +kernel, rfl, by decide +kernel, by decide +kernel⟩
abbrev st_check_wallet : Stmt := (top 54)
def d_check_wallet : DefP := ⟨.glob "check_wallet", "check_wallet", "check_wallet", defArgs st_check_wallet, defBody st_check_wallet, defScope st_check_wallet⟩
theorem sc_check_wallet : FnScope ["value"] ["value"] (defScope st_check_wallet) := ⟨rfl, rfl, rfl, by decide +kernel, rfl, by decide +kernel, by decide +kernel⟩
abbrev st_Wallet_cards : Stmt := (sub (top 51) 3)
def d_Wallet_cards : DefP := ⟨.prop "Wallet" "cards", "cards", "Wallet.cards", defArgs st_Wallet_cards, defBody st_Wallet_cards, defScope st_Wallet_cards⟩
theorem sc_Wallet_cards : FnScope ["self", "name", "card"] ["self"] (defScope st_Wallet_cards) := ⟨rfl, rfl, rfl, by decide +kernel, rfl, by decide +kernel, by decide +kernel⟩
abbrev st_worth : Stmt := (top 45)
def d_worth : DefP := ⟨.glob "worth", "worth", "worth", defArgs st_worth, defBody st_worth, defScope st_worth⟩
theorem sc_worth : FnScope ["balance", "limit", "days"] ["balance", "limit", "days"] (defScope st_worth) := ⟨rfl, rfl, rfl, by decide +kernel, rfl, by decide +kernel, by decide +kernel⟩
abbrev st_Card_limit : Stmt := (sub (top 48) 3)
def d_Card_limit : DefP := ⟨.prop "Card" "limit", "limit", "Card.limit", defArgs st_Card_limit, defBody st_Card_limit, defScope st_Card_limit⟩
theorem sc_Card_limit : FnScope ["self"] ["self"] (defScope st_Card_limit) := ⟨rfl, rfl, rfl, by decide +kernel, rfl, by decide +kernel, by decide +kernel⟩
abbrev st_Card_balance : Stmt := (sub (top 48) 2)
def d_Card_balance : DefP := ⟨.prop "Card" "balance", "balance", "Card.balance", defArgs st_Card_balance, defBody st_Card_balance, defScope st_Card_balance⟩
theorem sc_Card_balance : FnScope ["self"] ["self"] (defScope st_Card_balance) := ⟨rfl, rfl, rfl, by decide +kernel, rfl, by decide +kernel, by decide +kernel⟩
abbrev st_check_payment : Stmt := (top 56)
def d_check_payment : DefP := ⟨.glob "check_payment", "check_payment", "check_payment", defArgs st_check_payment, defBody st_check_payment, defScope st_check_payment⟩
theorem sc_check_payment : FnScope ["wallet", "payment", "cards", "index", "amount"] ["wallet", "payment"] (defScope st_check_payment) := ⟨rfl, rfl, rfl, by decide +kernel, rfl, by decide +kernel, by decide +kernel⟩
abbrev st_number_at : Stmt := (top 31)
def d_number_at : DefP := ⟨.glob "number_at", "number_at", "number_at", defArgs st_number_at, defBody st_number_at, defScope st_number_at⟩
theorem sc_number_at : FnScope ["row", "index"] ["row", "index"] (defScope st_number_at) := ⟨rfl, rfl, rfl, by decide +kernel, rfl, by decide +kernel, by decide +kernel⟩
abbrev st_taken : Stmt := (top 38)
def d_taken : DefP := ⟨.glob "taken", "taken", "taken", defArgs st_taken, defBody st_taken, defScope st_taken⟩
theorem sc_taken : FnScope ["row", "bill", "level", "rest", "number"] ["row", "bill"] (defScope st_taken) := ⟨rfl, rfl, rfl, by decide +kernel, rfl, by decide +kernel, by decide +kernel⟩
abbrev st_wrong_number : Stmt := (top 41)
def d_wrong_number : DefP := ⟨.glob "wrong_number", "wrong_number", "wrong_number", defArgs st_wrong_number, defBody st_wrong_number, defScope st_wrong_number⟩
theorem sc_wrong_number : FnScope ["row", "index", "number"] ["row"] (defScope st_wrong_number) := ⟨rfl, rfl, rfl, by decide +kernel, rfl, by decide +kernel, by decide +kernel⟩
abbrev st_Form___init__ : Stmt := (sub (top 42) 0)
def d_Form___init__ : DefP := ⟨.meth "Form" "__init__", "__init__", "Form.__init__", defArgs st_Form___init__, defBody st_Form___init__, defScope st_Form___init__⟩
theorem sc_Form___init__ : FnScope ["self", "row", "wrong"] ["self", "row"] (defScope st_Form___init__) := ⟨rfl, rfl, rfl, by decide +kernel, rfl, by decide +kernel, by decide +kernel⟩
abbrev st_part : Stmt := (top 46)
def d_part : DefP := ⟨.glob "part", "part", "part", defArgs st_part, defBody st_part, defScope st_part⟩
theorem sc_part : FnScope ["balance", "limit", "level"] ["balance", "limit", "level"] (defScope st_part) := ⟨rfl, rfl, rfl, by decide +kernel, rfl, by decide +kernel, by decide +kernel⟩
abbrev st_row_of : Stmt := (top 47)
def d_row_of : DefP := ⟨.glob "row_of", "row_of", "row_of", defArgs st_row_of, defBody st_row_of, defScope st_row_of⟩
theorem sc_row_of : FnScope ["amounts", "found", "days", "balance", "limit"] ["amounts"] (defScope st_row_of) := ⟨rfl, rfl, rfl, by decide +kernel, rfl, by decide +kernel, by decide +kernel⟩
abbrev st_Wallet_form : Stmt := (sub (top 51) 4)
def d_Wallet_form : DefP := ⟨.prop "Wallet" "form", "form", "Wallet.form", defArgs st_Wallet_form, defBody st_Wallet_form, defScope st_Wallet_form⟩
theorem sc_Wallet_form : FnScope ["self", "name", "card"] ["self"] (defScope st_Wallet_form) := ⟨rfl, rfl, rfl, by decide +kernel, rfl, by decide +kernel, by decide +kernel⟩
abbrev st_Form_row : Stmt := (sub (top 42) 4)
def d_Form_row : DefP := ⟨.prop "Form" "row", "row", "Form.row", defArgs st_Form_row, defBody st_Form_row, defScope st_Form_row⟩
theorem sc_Form_row : FnScope ["self"] ["self"] (defScope st_Form_row) := ⟨rfl, rfl, rfl, by decide +kernel, rfl, by decide +kernel, by decide +kernel⟩
abbrev st_sums_of : Stmt := (top 32)
def d_sums_of : DefP := ⟨.glob "sums_of", "sums_of", "sums_of", defArgs st_sums_of, defBody st_sums_of, defScope st_sums_of⟩
theorem sc_sums_of : FnScope ["row", "found", "number"] ["row"] (defScope st_sums_of) := ⟨rfl, rfl, rfl, by decide +kernel, rfl, by decide +kernel, by decide +kernel⟩
abbrev st_even : Stmt := (top 39)
def d_even : DefP := ⟨.glob "even", "even", "even", defArgs st_even, defBody st_even, defScope st_even⟩
theorem sc_even : FnScope ["total", "many", "each", "more", "index"] ["total", "many"] (defScope st_even) := ⟨rfl, rfl, rfl, by decide +kernel, rfl, by decide +kernel, by decide +kernel⟩
abbrev st_parted : Stmt := (top 62)
def d_parted : DefP := ⟨.glob "parted", "parted", "parted", defArgs st_parted, defBody st_parted, defScope st_parted⟩
theorem sc_parted : FnScope ["one", "other", "mine", "theirs", "days", "mine_here"] ["one", "other"] (defScope st_parted) := ⟨rfl, rfl, rfl, by decide +kernel, rfl, by decide +kernel, by decide +kernel⟩
abbrev st_left_behind : Stmt := (top 60)
def d_left_behind : DefP := ⟨.glob "left_behind", "left_behind", "left_behind", defArgs st_left_behind, defBody st_left_behind, defScope st_left_behind⟩
theorem sc_left_behind : FnScope ["amounts", "payment", "paid_here", "balance", "limit"] ["amounts", "payment"] (defScope st_left_behind) := ⟨rfl, rfl, rfl, by decide +kernel, rfl, by decide +kernel, by decide +kernel⟩
abbrev st_amounts_of : Stmt := (top 58)
def d_amounts_of : DefP := ⟨.glob "amounts_of", "amounts_of", "amounts_of", defArgs st_amounts_of, defBody st_amounts_of, defScope st_amounts_of⟩
theorem sc_amounts_of : FnScope ["wallet", "card"] ["wallet"] (defScope st_amounts_of) := ⟨rfl, rfl, rfl, by decide +kernel, rfl, by decide +kernel, by decide +kernel⟩
abbrev st_lost_row : Stmt := (top 64)
def d_lost_row : DefP := ⟨.glob "lost_row", "lost_row", "lost_row", defArgs st_lost_row, defBody st_lost_row, defScope st_lost_row⟩
theorem sc_lost_row : FnScope ["wallet", "payment", "best"] ["wallet", "payment"] (defScope st_lost_row) := ⟨rfl, rfl, rfl, by decide +kernel, rfl, by decide +kernel, by decide +kernel⟩
abbrev st__law_unlike : Stmt := (top 75)
def d__law_unlike : DefP := ⟨.glob "_law_unlike", "_law_unlike", "_law_unlike", defArgs st__law_unlike, defBody st__law_unlike, defScope st__law_unlike⟩
theorem sc__law_unlike : FnScope ["_law_told", "_law_due"] ["_law_told", "_law_due"] (defScope st__law_unlike) := ⟨rfl, rfl, rfl, by decide +kernel, rfl, by decide +kernel, by decide +kernel⟩
abbrev st_parts : Stmt := (top 59)
def d_parts : DefP := ⟨.glob "parts", "parts", "parts", defArgs st_parts, defBody st_parts, defScope st_parts⟩
theorem sc_parts : FnScope ["amounts", "level", "balance", "limit"] ["amounts", "level"] (defScope st_parts) := ⟨rfl, rfl, rfl, by decide +kernel, rfl, by decide +kernel, by decide +kernel⟩
abbrev st_bounds : Stmt := (top 61)
def d_bounds : DefP := ⟨.glob "bounds", "bounds", "bounds", defArgs st_bounds, defBody st_bounds, defScope st_bounds⟩
theorem sc_bounds : FnScope ["amounts", "bill", "level"] ["amounts", "bill"] (defScope st_bounds) := ⟨rfl, rfl, rfl, by decide +kernel, rfl, by decide +kernel, by decide +kernel⟩
abbrev st_is_sparing : Stmt := (top 63)
def d_is_sparing : DefP := ⟨.glob "is_sparing", "is_sparing", "is_sparing", defArgs st_is_sparing, defBody st_is_sparing, defScope st_is_sparing⟩
theorem sc_is_sparing : FnScope ["wallet", "payment", "low", "high", "k"] ["wallet", "payment"] (defScope st_is_sparing) := ⟨rfl, rfl, rfl, by decide +kernel, rfl, by decide +kernel, by decide +kernel⟩
abbrev st__law_right : Stmt := (top 76)
def d__law_right : DefP := ⟨.glob "_law_right", "_law_right", "_law_right", defArgs st__law_right, defBody st__law_right, defScope st__law_right⟩
theorem sc__law_right : FnScope ["_law_purse_here", "_law_amounts", "_law_mine", "_law_day", "_law_bill", "_law_left", "_law_rows", "_law_ways_here", "_law_table", "_law_best", "_law_k", "_law_told", "_law_due", "_law_some", "_law_row", "_law_line"] ["_law_purse_here"] (defScope st__law_right) := ⟨rfl, rfl, rfl, by decide +kernel, rfl, by decide +kernel, by decide +kernel⟩
abbrev st__law_purse : Stmt := (top 66)
def d__law_purse : DefP := ⟨.glob "_law_purse", "_law_purse", "_law_purse", defArgs st__law_purse, defBody st__law_purse, defScope st__law_purse⟩
theorem sc__law_purse : FnScope ["_law_script", "_law_spot", "_law_seed", "_law_cell", "_law_own"] ["_law_script", "_law_spot"] (defScope st__law_purse) := ⟨rfl, rfl, rfl, by decide +kernel, rfl, by decide +kernel, by decide +kernel⟩
abbrev st_law : Stmt := (top 77)
def d_law : DefP := ⟨.glob "law", "law", "law", defArgs st_law, defBody st_law, defScope st_law⟩
theorem sc_law : FnScope ["_law_script", "_law_spot"] ["_law_script"] (defScope st_law) := ⟨rfl, rfl, rfl, by decide +kernel, rfl, by decide +kernel, by decide +kernel⟩
def fa : List Ft := [
  .isi cs,
  .b (.free "range"),
  .b (.free "divmod"),
  .b (.free "int"),
  .b (.glo "_law_draw"),
  .b (.free "min"),
  .b (.glo "_law_small"),
  .b (.free "sum"),
  .b (.glo "_law_room"),
  .b (.free "tuple"),
  .b (.free "isinstance"),
  .b (.free "enumerate"),
  .b (.free "len"),
  .b (.int "MOST_CARDS" 12),
  .b (.free "str"),
  .b (.int "LONGEST_NAME" 8),
  .b (.str "LETTERS" "abcdefghijklmnopqrstuvwxyz"),
  .b (.str "DIGITS" "0123456789"),
  .b (.free "all"),
  .b (.glo "is_name"),
  .b (.glo "Card"),
  .b (.glo "wrong_pair"),
  .b (.noat "Wallet" "pairs"),
  .b (.cls "Wallet"),
  .b (.mkr "Wallet"),
  .b (.free "bool"),
  .b (.glo "is_integer"),
  .b (.glo "is_natural"),
  .b (.int "MOST_DAYS" 24),
  .b (.noat "Card" "held"),
  .b (.cls "Card"),
  .b (.noat "Card" "daily"),
  .b (.mkr "Card"),
  .b (.glo "Wallet"),
  .b (.glo "_law_shutet"),
  .b (.glo "_law_ways"),
  .b (.glo "_law_falling"),
  .b (.glo "_law_behind"),
  .b (.free "list"),
  .b (.glo "_law_pays"),
  .b (.free "any"),
  .b (.glo "check_wallet"),
  .prop "Wallet" "cards",
  .prop "Card" "limit",
  .prop "Card" "balance",
  .b (.glo "worth"),
  .b (.glo "check_payment"),
  .b (.glo "number_at"),
  .b (.glo "wrong_number"),
  .b (.noat "Form" "numbers"),
  .b (.cls "Form"),
  .b (.mkr "Form"),
  .b (.glo "part"),
  .b (.glo "row_of"),
  .b (.glo "Form"),
  .prop "Wallet" "form",
  .prop "Form" "row",
  .b (.glo "taken"),
  .b (.glo "sums_of"),
  .b (.glo "even"),
  .b (.free "zip"),
  .b (.glo "amounts_of"),
  .b (.glo "left_behind"),
  .b (.glo "parted"),
  .b (.glo "lost_row"),
  .b (.glo "parts"),
  .b (.glo "bounds"),
  .b (.glo "is_sparing"),
  .b (.glo "_law_unlike"),
  .b (.free "abs"),
  .b (.glo "_law_purse"),
  .b (.glo "_law_right"),
  .b (.glo "law"),
  .raw noListsB]
def fn : List DefP := [d__law_draw, d__law_small, d__law_room, d_is_name, d_wrong_pair, d_Wallet___init__, d_is_integer, d_is_natural, d_Card___init__, d__law_shutet, d__law_ways, d__law_falling, d__law_behind, d__law_pays, d_check_wallet, d_Wallet_cards, d_worth, d_Card_limit, d_Card_balance, d_check_payment, d_number_at, d_taken, d_wrong_number, d_Form___init__, d_part, d_row_of, d_Wallet_form, d_Form_row, d_sums_of, d_even, d_parted, d_left_behind, d_amounts_of, d_lost_row, d__law_unlike, d_parts, d_bounds, d_is_sparing, d__law_right, d__law_purse, d_law]
end G39
set_option maxHeartbeats 0
section
namespace G39
open PySem PySem.Spec PyProof.Rows L2 Mi He
abbrev RR : PySem.W.OpenRow := PySem.W.OpenLaw.row PySem.Challenge.rw_sparepay_k39_whole_sparing_by_own_play
def loose : List Str := [("_wall" : Str), ("WrongValue" : Str), ("InvalidText" : Str), ("InvalidAmount" : Str), ("InvalidBill" : Str), ("InvalidIndex" : Str), ("NotAWallet" : Str), ("NotAForm" : Str), ("InvalidCards" : Str), ("InvalidRow" : Str), ("InvalidPayment" : Str), ("WrongName" : Str), ("UnknownName" : Str), ("InUse" : Str), ("NoAnswer" : Str), ("CannotPay" : Str), ("Full" : Str), ("MOST_CARDS" : Str), ("MOST_DAYS" : Str), ("DIGITS" : Str), ("LETTERS" : Str), ("LONGEST_NAME" : Str), ("is_integer" : Str), ("is_natural" : Str), ("is_bills" : Str), ("is_name" : Str), ("number_of" : Str), ("check_bill" : Str), ("number_at" : Str), ("sums_of" : Str), ("sums_for" : Str), ("row_with" : Str), ("both_sums" : Str), ("least_row" : Str), ("added" : Str), ("taken" : Str), ("even" : Str), ("pays_bills" : Str), ("wrong_number" : Str), ("Form" : Str), ("check_form" : Str), ("worth" : Str), ("part" : Str), ("row_of" : Str), ("Card" : Str), ("card_of" : Str), ("wrong_pair" : Str), ("Wallet" : Str), ("pair_of" : Str), ("wallet_of" : Str), ("check_wallet" : Str), ("check_room" : Str), ("check_payment" : Str), ("amounts_of" : Str), ("parts" : Str), ("left_behind" : Str), ("bounds" : Str), ("parted" : Str), ("is_sparing" : Str), ("lost_row" : Str), ("_law_purse" : Str), ("_law_draw" : Str), ("_law_small" : Str), ("_law_shutet" : Str), ("_law_room" : Str), ("_law_ways" : Str), ("_law_behind" : Str), ("_law_pays" : Str), ("_law_falling" : Str), ("_law_unlike" : Str), ("_law_right" : Str)]
abbrev hk : PySem.W.Hook := hookP 5 fa fn
def ob (s : PySem.W.SharedT) : AlP := obsPG 5 fa fn (HandSHeadRun.getT s)
theorem ob_eq (s : PySem.W.SharedT) : ob s = hk.obs s.abs := obsPG_eq (HandSHeadRun.getT_eq s)
def fb : List Ft := []
def fm : List DefP := []
def fa1 : List Ft := fa.take 45
def fa2 : List Ft := fa.drop 45
def fn1 : List DefP := fn.take 25
def fn2 : List DefP := fn.drop 25
open PySem PySem.W PySem.Calls PyProof.Rows HandSHeadRun in
theorem run1 (w : World) (os : OsState) : (HandSHeadRun.endF (HandSHeadRun.stepQ (HandSHeadRun.denQ HandSHeadRun.tabQ) RR.prog w) 20000 RR.prog w os).map (fun s => (looksF RR.prog (boot_heap w.params) s.abs, HandSHeadRun.seenQ (PySem.W.view RR.prog [77]) loose (importedModules RR.prog.main.body) (fun s => xlAt (PySem.W.view RR.prog [77]) [] s && recOk RR.toRowW.records s) s.abs)) = some (true, openGood (PySem.W.view RR.prog [77]) loose) := by
  kernel_rfl
open PySem PySem.W PySem.Calls PyProof.Rows HandSHeadRun in
theorem run3 (w : World) (os : OsState) : (HandSHeadRun.endF (HandSHeadRun.stepQ (HandSHeadRun.denQ HandSHeadRun.tabQ) RR.prog w) 20000 RR.prog w os).map (fun s => obsPG 5 fa1 fm (HandSHeadRun.getT s)) = some (valP fm) := by
  kernel_rfl
open PySem PySem.W PySem.Calls PyProof.Rows HandSHeadRun in
theorem run4 (w : World) (os : OsState) : (HandSHeadRun.endF (HandSHeadRun.stepQ (HandSHeadRun.denQ HandSHeadRun.tabQ) RR.prog w) 20000 RR.prog w os).map (fun s => obsPG 5 fa2 fm (HandSHeadRun.getT s)) = some (valP fm) := by
  kernel_rfl
open PySem PySem.W PySem.Calls PyProof.Rows HandSHeadRun in
theorem run5 (w : World) (os : OsState) : (HandSHeadRun.endF (HandSHeadRun.stepQ (HandSHeadRun.denQ HandSHeadRun.tabQ) RR.prog w) 20000 RR.prog w os).map (fun s => obsPG 5 fb fn1 (HandSHeadRun.getT s)) = some (valP fn1) := by
  kernel_rfl
open PySem PySem.W PySem.Calls PyProof.Rows HandSHeadRun in
theorem run6 (w : World) (os : OsState) : (HandSHeadRun.endF (HandSHeadRun.stepQ (HandSHeadRun.denQ HandSHeadRun.tabQ) RR.prog w) 20000 RR.prog w os).map (fun s => obsPG 5 fb fn2 (HandSHeadRun.getT s)) = some (valP fn2) := by
  kernel_rfl
theorem both (g : Addr → Option Obj) (h3 : obsPG 5 fa1 fm g = valP fm) (h4 : obsPG 5 fa2 fm g = valP fm) (h5 : obsPG 5 fb fn1 g = valP fn1) (h6 : obsPG 5 fb fn2 g = valP fn2) : obsPG 5 fa fn g = valP fn := by
  have efa : fa = fa1 ++ fa2 := (List.take_append_drop 45 fa).symm
  have efn : fn = fn1 ++ fn2 := (List.take_append_drop 25 fn).symm
  rw [efa, efn]
  unfold obsPG obsP valP at *
  generalize frG g (asM g 5) = K at *
  have a1 : (fa1.all fun f => f.ok K) = true := by
    have := congrArg Prod.fst h3
    simp only [Bool.and_eq_true] at this
    exact this.1
  have a2 : (fa2.all fun f => f.ok K) = true := by
    have := congrArg Prod.fst h4
    simp only [Bool.and_eq_true] at this
    exact this.1
  have b1 : (fn1.all fun d => d.ok K) = true := by
    have := congrArg Prod.fst h5
    simp only [Bool.and_eq_true] at this
    exact this.2
  have b2 : (fn2.all fun d => d.ok K) = true := by
    have := congrArg Prod.fst h6
    simp only [Bool.and_eq_true] at this
    exact this.2
  have c1 : (fn1.map fun d => fnP K (d.at_.ad K)) = fn1.map DefP.val := congrArg Prod.snd h5
  have c2 : (fn2.map fun d => fnP K (d.at_.ad K)) = fn2.map DefP.val := congrArg Prod.snd h6
  rw [List.all_append, List.all_append, List.map_append, List.map_append, a1, a2, b1, b2, c1, c2]
  rfl
theorem map3 {α β γ δ : Type} {x : Option α} {f : α → β} {g : α → γ} {h : α → δ} {a : β} {b : γ} {c : δ} (e1 : x.map (fun s => (f s, g s)) = some (a, b)) (e3 : x.map h = some c) : x.map (fun s => (f s, g s, h s)) = some (a, b, c) := by
  cases x with
  | none => cases e1
  | some s =>
    cases e3
    have e := Option.some.inj e1
    have e4 : f s = a := congrArg Prod.fst e
    have e5 : g s = b := congrArg Prod.snd e
    subst e4
    subst e5
    rfl
theorem run7 {x : Option PySem.W.SharedT} (e3 : x.map (fun s => obsPG 5 fa1 fm (HandSHeadRun.getT s)) = some (valP fm)) (e4 : x.map (fun s => obsPG 5 fa2 fm (HandSHeadRun.getT s)) = some (valP fm)) (e5 : x.map (fun s => obsPG 5 fb fn1 (HandSHeadRun.getT s)) = some (valP fn1)) (e6 : x.map (fun s => obsPG 5 fb fn2 (HandSHeadRun.getT s)) = some (valP fn2)) : x.map (fun s => ob s) = some (valP fn) := by
  cases x with
  | none => cases e3
  | some s => exact congrArg some (both _ (Option.some.inj e3) (Option.some.inj e4) (Option.some.inj e5) (Option.some.inj e6))
theorem run (w : World) : HandSHeadRun.RunEq RR (PySem.W.view RR.prog [77]) hk ob 20000 loose w := fun os => map3 (run1 w os) (run7 (run3 w os) (run4 w os) (run5 w os) (run6 w os))
end G39

end
set_option maxHeartbeats 4000000
set_option Elab.async false
set_option linter.all false
set_option maxRecDepth 100000
set_option maxHeartbeats 2000000
/-! Mi0: a mirror of Python code as plain functions on data, over the hand layer. Data D, how data lie in the abstract heap (Rep), steps of the heap (Stp, Gd), slots (Env, Sta), readings of mirrors (rdE, rdT, rdA, rdS, rdI, rdG, spM). -/
namespace Mi
open PySem PySem.Spec PyProof.Rows L2

/-- data -/
inductive D where
  | non | bl (b : Bool) | int (i : Int) | str (x : Str)
  | tup (ds : List D) | lst (ds : List D)
  | obj (c : Str) (ks : List Str) (ds : List D)
  | pur | ty (n : String) | cls (c : Str) | scr (ns : List Int)
  /-- an error that was caught; a dict with texts as keys -/
  | exc (c : Str) (ks : List Str) (ds : List D) | dct (ks : List Str) (ds : List D) | ecl (c : Str)
  /-- a dict whose keys are nested tuples of numbers -/
  | ndc (ks : List D) (ds : List D)
/-- the tables of code objects that lambdas are written into -/
class Tabl where
  T : List (Addr × Str)
  loose : Bool
variable [TB : Tabl]

/-- the one list that changes through calls (a purse of drawn numbers); idle: none is in use -/
inductive PuS where
  | real (l : List Int) | idle (o : HO)
def PuS.ho : PuS → HO
  | .real l => .lst (l.map V.int)
  | .idle o => o

/-- what is fixed: the written part, the classes by name -/
structure Wo where
  K : PySem.W.Frag
  cl : Str → Addr
  cs : List Str

/-- the object at a is just this one -/
def dxO (a : Addr) (o : Obj) : HO := .ext fun h => h.get? a = some o
/-- a dict's object: keys, where they stand, values -/
def DxO (a : Addr) (o : Obj) (xs : List (NestedKey × Addr × Value)) : Prop := (a == sysModules) = false ∧ o.ExactDict ∧ xs.length ≤ sizeLine ∧ (xs.map (·.1)).Nodup ∧
  ∃ es ep, o.data = .dict es ep ∧ ∀ (P : Program) (w : World), es.toList = xs.map (entryOfKey (nestedKind P w))
mutual
/-- data as a key -/
def keyN : D → Option NestedKey
  | .int i => some (.num i)
  | .tup ds => (keyNs ds).map .tup
  | _ => none
def keyNs : List D → Option (List NestedKey)
  | [] => some []
  | d :: r => match keyN d, keyNs r with
    | some k, some ks => some (k :: ks)
    | _, _ => none
end
inductive Rep (W : Wo) (p : Addr) (F : Hp) : V → D → Prop
  | non : Rep W p F .non .non
  | bl (b : Bool) : Rep W p F (.bl b) (.bl b)
  | int (i : Int) : Rep W p F (.int i) (.int i)
  | str (x : Str) : Rep W p F (.str x) (.str x)
  | ty (n : String) : Rep W p F (.ty n) (.ty n)
  | cls (c : Str) (hc : c ∈ W.cs) : Rep W p F (.ref (W.cl c)) (.cls c)
  | pur : Rep W p F (.ref p) .pur
  | scr {a : Addr} {ns : List Int} (h : SqL W.K F a (ns.map V.int)) : Rep W p F (.ref a) (.scr ns)
  | tup {a : Addr} {vs : List V} {ds : List D} (h : SqT W.K F a vs) (l : vs.length = ds.length) (r : ∀ (i : Nat) (v : V) (d : D), vs[i]? = some v → ds[i]? = some d → Rep W p F v d) : Rep W p F (.ref a) (.tup ds)
  | lst {a : Addr} {vs : List V} {ds : List D} (h : F a = some (.lst vs)) (l : vs.length = ds.length) (r : ∀ (i : Nat) (v : V) (d : D), vs[i]? = some v → ds[i]? = some d → Rep W p F v d) : Rep W p F (.ref a) (.lst ds)
  | obj {a dx : Addr} {c : Str} {ks : List Str} {vs : List V} {ds : List D} (hc : c ∈ W.cs) (h : F a = some (.ins (W.cl c) dx (ks.zip vs))) (lk : ks.length = vs.length) (l : vs.length = ds.length)
      (r : ∀ (i : Nat) (v : V) (d : D), vs[i]? = some v → ds[i]? = some d → Rep W p F v d) : Rep W p F (.ref a) (.obj c ks ds)
  | exc {a dx : Addr} {oe : Obj} {u : HO} {fs : Array Value} {c : Str} {ks : List Str} {vs : List V} {ds : List D} (hc : c ∈ errs) (h : F a = some (.frz oe u)) (hk : oe.cls = .ref (W.cl c)) (hf : oe.data = .fields fs) (h2 : fs[2]? = some .none)
      (hx : (oe.dict = some dx ∧ F dx = some (.xd (ks.zip vs))) ∨ (oe.dict = none ∧ ks = [])) (lk : ks.length = vs.length) (l : vs.length = ds.length) (r : ∀ (i : Nat) (v : V) (d : D), vs[i]? = some v → ds[i]? = some d → Rep W p F v d) : Rep W p F (.ref a) (.exc c ks ds)
  | ecl (c : Str) (hc : c ∈ errs) : Rep W p F (.ref (W.cl c)) (.ecl c)
  | dct {a : Addr} {ks : List Str} {vs : List V} {ds : List D} (h : F a = some (.dK ((ks.map Sum.inr).zip vs))) (lk : ks.length = vs.length) (l : vs.length = ds.length)
      (r : ∀ (i : Nat) (v : V) (d : D), vs[i]? = some v → ds[i]? = some d → Rep W p F v d) : Rep W p F (.ref a) (.dct ks ds)
  | ndc {a : Addr} {o : Obj} {xs : List (NestedKey × Addr × Value)} {vs : List V} {ks ds : List D} (h : F a = some (dxO a o)) (hx : DxO a o xs) (lk : xs.length = ks.length) (lv : xs.length = vs.length) (l : vs.length = ds.length)
      (hk : ∀ (i : Nat) (x : NestedKey × Addr × Value) (d : D), xs[i]? = some x → ks[i]? = some d → keyN d = some x.1 ∧ x.1.depth ≤ 8)
      (rv : ∀ (i : Nat) (x : NestedKey × Addr × Value) (v : V), xs[i]? = some x → vs[i]? = some v → RelV v x.2.2)
      (rk : ∀ (i : Nat) (x : NestedKey × Addr × Value) (d : D), xs[i]? = some x → ks[i]? = some d → Rep W p F (.ref x.2.1) d)
      (r : ∀ (i : Nat) (v : V) (d : D), vs[i]? = some v → ds[i]? = some d → Rep W p F v d) : Rep W p F (.ref a) (.ndc ks ds)

/-- keys and values of a dict -/
structure DctR (W : Wo) (p : Addr) (F : Hp) (xs : List (NestedKey × Addr × Value)) (vs : List V) (ks ds : List D) : Prop where
  lk : xs.length = ks.length
  lv : xs.length = vs.length
  l : vs.length = ds.length
  hk : ∀ (i : Nat) (x : NestedKey × Addr × Value) (d : D), xs[i]? = some x → ks[i]? = some d → keyN d = some x.1 ∧ x.1.depth ≤ 8
  rv : ∀ (i : Nat) (x : NestedKey × Addr × Value) (v : V), xs[i]? = some x → vs[i]? = some v → RelV v x.2.2
  rk : ∀ (i : Nat) (x : NestedKey × Addr × Value) (d : D), xs[i]? = some x → ks[i]? = some d → Rep W p F (.ref x.2.1) d
  r : ∀ (i : Nat) (v : V) (d : D), vs[i]? = some v → ds[i]? = some d → Rep W p F v d
def Reps (W : Wo) (p : Addr) (F : Hp) (vs : List V) (ds : List D) : Prop := vs.length = ds.length ∧ ∀ (i : Nat) (v : V) (d : D), vs[i]? = some v → ds[i]? = some d → Rep W p F v d

theorem sq_t {K : PySem.W.Frag} {H H' : Hp} {a : Addr} {xs : List V} (e : Same H H') (h : SqT K H a xs) : SqT K H' a xs := by
  rcases h with (h | ⟨o, h⟩) | h
  · exact .inl (.inl (e _ _ h))
  · exact .inl (.inr ⟨o, e _ _ h⟩)
  · exact .inr h

theorem sq_l {K : PySem.W.Frag} {H H' : Hp} {a : Addr} {xs : List V} (e : Same H H') (h : SqL K H a xs) : SqL K H' a xs := by
  rcases h with (h | ⟨o, h⟩) | h
  · exact .inl (.inl (e _ _ h))
  · exact .inl (.inr ⟨o, e _ _ h⟩)
  · exact .inr h

section
variable {W : Wo} {p : Addr} {F F' H H' F1 H1 F2 H2 : Hp} {u u1 u2 : PuS}
theorem Rep.mono {v : V} {d : D} (e : Same F F') (h : Rep W p F v d) : Rep W p F' v d := by
  induction h with
  | non => exact .non
  | bl b => exact .bl b
  | int i => exact .int i
  | str x => exact .str x
  | ty n => exact .ty n
  | cls c hc => exact .cls c hc
  | pur => exact .pur
  | scr h => exact .scr (sq_l e h)
  | tup h l r ih => exact .tup (sq_t e h) l ih
  | lst h l r ih => exact .lst (e _ _ h) l ih
  | obj hc h lk l r ih => exact .obj hc (e _ _ h) lk l ih
  | exc hc h hk hf h2 hx lk l r ih => exact .exc hc (e _ _ h) hk hf h2 (hx.imp (fun z => ⟨z.1, e _ _ z.2⟩) id) lk l ih
  | dct h lk l r ih => exact .dct (e _ _ h) lk l ih
  | ecl c hc => exact .ecl c hc
  | ndc h hx lk lv l hk rv rk r ihk ih => exact .ndc (e _ _ h) hx lk lv l hk rv ihk ih
theorem Reps.mono {vs : List V} {ds : List D} (e : Same F F') (h : Reps W p F vs ds) : Reps W p F' vs ds := ⟨h.1, fun i v d a b => (h.2 i v d a b).mono e⟩
theorem DctR.mono {xs : List (NestedKey × Addr × Value)} {vs : List V} {ks ds : List D} (e : Same F F') (h : DctR W p F xs vs ks ds) : DctR W p F' xs vs ks ds := ⟨h.lk, h.lv, h.l, h.hk, h.rv, fun i x d a b => (h.rk i x d a b).mono e, fun i v d a b => (h.r i v d a b).mono e⟩
theorem Reps.nil : Reps W p F [] [] := ⟨rfl, fun i v d a _ => by simp at a⟩
theorem Reps.cons {v : V} {d : D} {vs : List V} {ds : List D} (h : Rep W p F v d) (r : Reps W p F vs ds) : Reps W p F (v :: vs) (d :: ds) := by
  refine ⟨by simp [r.1], fun i x y a b => ?_⟩
  cases i with
  | zero =>
    simp at a b
    subst a; subst b
    exact h
  | succ i =>
    simp at a b
    exact r.2 i x y a b
theorem Reps.uncons {vs : List V} {d : D} {ds : List D} (r : Reps W p F vs (d :: ds)) : ∃ v vr, vs = v :: vr ∧ Rep W p F v d ∧ Reps W p F vr ds := by
  obtain ⟨l, r⟩ := r
  cases vs with
  | nil => simp at l
  | cons v vr => exact ⟨v, vr, rfl, r 0 v d rfl rfl, by simpa using l, fun i x y a b => r (i + 1) x y (by simpa using a) (by simpa using b)⟩
theorem Reps.none {vs : List V} (r : Reps W p F vs []) : vs = [] := by
  cases vs with
  | nil => rfl
  | cons v vr => have := r.1; simp at this
theorem Reps.append {vs ws : List V} {ds es : List D} (a : Reps W p F vs ds) (b : Reps W p F ws es) : Reps W p F (vs ++ ws) (ds ++ es) := by
  refine ⟨by simp [a.1, b.1], fun i v d h1 h2 => ?_⟩
  by_cases hi : i < vs.length
  · rw [List.getElem?_append_left hi] at h1
    rw [List.getElem?_append_left (by rw [← a.1]; exact hi)] at h2
    exact a.2 i v d h1 h2
  · rw [List.getElem?_append_right (by omega)] at h1
    rw [List.getElem?_append_right (by rw [← a.1]; omega)] at h2
    rw [a.1] at h1
    exact b.2 _ v d h1 h2
theorem Reps.get {vs : List V} {ds : List D} {i : Nat} {d : D} (a : Reps W p F vs ds) (h : ds[i]? = some d) : ∃ v, vs[i]? = some v ∧ Rep W p F v d := by
  have hi : i < vs.length := by
    have := (List.getElem?_eq_some_iff.mp h).1
    rw [a.1]; exact this
  exact ⟨vs[i], List.getElem?_eq_getElem hi, a.2 i _ d (List.getElem?_eq_getElem hi) h⟩

/-! ### steps of the heap -/
structure Stp (p : Addr) (F H F' H' : Hp) : Prop where
  ef : Same F F'
  eh : ∀ a o, a ≠ p → H a = some o → (TB.loose = false ∨ ∀ ps, o ≠ .tbl ps) → H' a = some o
  et : ∀ a ps, a ≠ p → H a = some (.tbl ps) → ∃ qs, H' a = some (.tbl qs)
  nw : ∀ a o, F' a = some o → F a = some o ∨ H a = none
structure Gd (p : Addr) (u : PuS) (F H : Hp) : Prop where
  ex : Same F H
  pu : H p = some u.ho
  off : ∀ l, u = .real l → F p = none
  nt : ∀ a ps, F a ≠ some (.tbl ps)
  tb : LamX.Tabs TB.T H
  hp : ∀ ps, u.ho ≠ .tbl ps
theorem tbl_or (o : HO) : (∃ ps, o = .tbl ps) ∨ ∀ ps, o ≠ .tbl ps := by
  cases o with
  | tbl ps => exact .inl ⟨ps, rfl⟩
  | _ => exact .inr fun ps z => by cases z
theorem Stp.kept (s : Stp p F H F1 H1) {a : Addr} (ha : a ≠ p) (h : H a ≠ none) : H1 a ≠ none := by
  cases q : H a with
  | none => exact absurd q h
  | some o =>
    rcases tbl_or o with ⟨ps, rfl⟩ | n
    · obtain ⟨qs, e⟩ := s.et a ps ha q
      rw [e]; simp
    · rw [s.eh a o ha q (.inr n)]; simp
theorem Stp.refl : Stp p F H F H := ⟨fun _ _ h => h, fun _ _ _ h _ => h, fun _ ps _ h => ⟨ps, h⟩, fun _ _ h => .inl h⟩
theorem Stp.trans (s : Stp p F H F1 H1) (g : H1 p ≠ none) (t : Stp p F1 H1 F2 H2) : Stp p F H F2 H2 := by
  refine ⟨s.ef.trans t.ef, fun a o h e n => t.eh a o h (s.eh a o h e n) n, fun a ps h e => ?_, fun a o e => ?_⟩
  · obtain ⟨qs, e1⟩ := s.et a ps h e
    exact t.et a qs h e1
  rcases t.nw a o e with h | h
  · exact s.nw a o h
  · right
    cases q : H a with
    | none => rfl
    | some x =>
      by_cases ha : a = p
      · subst ha; exact absurd h g
      · exact absurd h (s.kept ha (by rw [q]; simp))
theorem Gd.ne (g : Gd p u F H) : H p ≠ none := by rw [g.pu]; simp
theorem grow {q : Addr} {o : HO} (h : H q = none) : ∀ b x, H b = some x → upd H q o b = some x := fun b x e => by rw [upd_ne (ne_of_none e h)]; exact e
/-- what is written over an object that is neither a table nor a code object leaves the tables -/
theorem tabs_over {T : List (Addr × Str)} {q : Addr} {o : HO} {xs : List V} (hq : H q = some (.lst xs)) (t : LamX.Tabs T H) : LamX.Tabs T (upd H q o) := fun P hP => by
  obtain ⟨ps, h1, h2, h3⟩ := t P hP
  refine ⟨ps, by rw [upd_ne (fun z => by rw [z, hq] at h1; cases h1)]; exact h1, h2, fun ps2 cv e => ?_⟩
  obtain ⟨c, e1, e2⟩ := h3 ps2 cv e
  exact ⟨c, e1, by rw [upd_ne (fun z => by rw [z, hq] at e2; have := Option.some.inj e2; unfold LamX.CodeO at this; cases this)]; exact e2⟩
theorem tabs_overI {T : List (Addr × Str)} {q : Addr} {o : HO} {C dx : Addr} {fs : List (Str × V)} (hq : H q = some (.ins C dx fs)) (t : LamX.Tabs T H) : LamX.Tabs T (upd H q o) := fun P hP => by
  obtain ⟨ps, h1, h2, h3⟩ := t P hP
  refine ⟨ps, by rw [upd_ne (fun z => by rw [z, hq] at h1; cases h1)]; exact h1, h2, fun ps2 cv e => ?_⟩
  obtain ⟨c, e1, e2⟩ := h3 ps2 cv e
  exact ⟨c, e1, by rw [upd_ne (fun z => by rw [z, hq] at e2; have := Option.some.inj e2; unfold LamX.CodeO at this; cases this)]; exact e2⟩
theorem nt_upd {q : Addr} {o : HO} (g : ∀ a ps, F a ≠ some (.tbl ps)) (no : ∀ ps, o ≠ .tbl ps) : ∀ a ps, upd F q o a ≠ some (.tbl ps) := fun a ps z => by
  by_cases ha : a = q
  · subst ha; rw [upd_same] at z; exact no ps (Option.some.inj z)
  · rw [upd_ne ha] at z; exact g a ps z
theorem Gd.new {q : Addr} {o : HO} (g : Gd p u F H) (h : H q = none) (no : ∀ ps, o ≠ .tbl ps := by intro _ z; cases z) : Gd p u (upd F q o) (upd H q o) := by
  have hq : p ≠ q := fun e => g.ne (e ▸ h)
  refine ⟨fun a x e => ?_, by rw [upd_ne hq]; exact g.pu, fun l e => by rw [upd_ne hq]; exact g.off l e, nt_upd g.nt no, g.tb.ext (grow h), g.hp⟩
  by_cases ha : a = q
  · subst ha; rw [upd_same] at e ⊢; exact e
  · rw [upd_ne ha] at e ⊢; exact g.ex a x e
theorem Stp.new {q : Addr} {o : HO} (g : Gd p u F H) (h : H q = none) : Stp p F H (upd F q o) (upd H q o) := by
  refine ⟨fun a x e => ?_, fun a x _ e _ => ?_, fun a ps _ e => ⟨ps, grow h a _ e⟩, fun a x e => ?_⟩
  · rw [upd_ne (ne_of_none (g.ex a x e) h)]; exact e
  · rw [upd_ne (ne_of_none e h)]; exact e
  · by_cases ha : a = q
    · subst ha; exact .inr h
    · rw [upd_ne ha] at e; exact .inl e
/-- a new object that is not frozen -/
theorem Gd.own {q : Addr} {o : HO} (g : Gd p u F H) (h : H q = none) : Gd p u F (upd H q o) := by
  have hq : p ≠ q := fun e => g.ne (e ▸ h)
  exact ⟨fun a x e => by rw [upd_ne (ne_of_none (g.ex a x e) h)]; exact g.ex a x e, by rw [upd_ne hq]; exact g.pu, g.off, g.nt, g.tb.ext (grow h), g.hp⟩
theorem Stp.own {q : Addr} {o : HO} (h : H q = none) : Stp p F H F (upd H q o) :=
  ⟨fun _ _ e => e, fun a x _ e _ => by rw [upd_ne (ne_of_none e h)]; exact e, fun a ps _ e => ⟨ps, grow h a _ e⟩, fun _ _ e => .inl e⟩
theorem Gd.fresh {q : Addr} (g : Gd p u F H) (h : H q = none) : F q = none := by
  cases e : F q with
  | none => rfl
  | some o => rw [g.ex q o e] at h; cases h
theorem Stp.off {q : Addr} (s : Stp p F H F' H') (h : F q = none) (h' : H q ≠ none) : F' q = none := by
  cases e : F' q with
  | none => rfl
  | some o =>
    rcases s.nw q o e with z | z
    · rw [h] at z; cases z
    · exact absurd z h'
end

/-! ### slots -/
inductive Sd where
  | un | sh (d : D) | ow (ds : List D) | oi (c : Str) (ks : List Str) (ds : List D) | od (ks ds : List D)
abbrev Env := List Sd
def Sd.own : Sd → Bool
  | .ow _ => true
  | .oi _ _ _ => true
  | .od _ _ => true
  | _ => false
/-- where a body runs: entered at F0, H0; sf: the object that is being made -/
structure Cf where
  W : Wo
  p : Addr
  F0 : Hp
  H0 : Hp
  sf : Addr
  xw : WX
def SdOk (c : Cf) (F H : Hp) (x : Option (Option V)) : Sd → Prop
  | .un => True
  | .sh d => ∃ v, x = some (some v) ∧ Rep c.W c.p F v d
  | .ow ds => ∃ q vs, x = some (some (.ref q)) ∧ H q = some (.lst vs) ∧ F q = none ∧ q ≠ c.p ∧ c.H0 q = none ∧ Reps c.W c.p F vs ds
  | .oi k ks ds => ∃ dx vs, x = some (some (.ref c.sf)) ∧ H c.sf = some (.ins (c.W.cl k) dx (ks.zip vs)) ∧ F c.sf = none ∧ c.sf ≠ c.p ∧ c.H0 c.sf = none ∧ ks.length = vs.length ∧ Reps c.W c.p F vs ds
  | .od ks ds => ∃ q o xs vs, x = some (some (.ref q)) ∧ H q = some (dxO q o) ∧ F q = none ∧ q ≠ c.p ∧ c.H0 q = none ∧ DxO q o xs ∧ DctR c.W c.p F xs vs ks ds
structure EnvOk (c : Cf) (F H : Hp) (σ : L2.St) (ρ : Env) : Prop where
  len : σ.length = ρ.length
  at_ : ∀ (i : Nat) (s : Sd), ρ[i]? = some s → SdOk c F H σ[i]? s
  ne : ∀ (i j : Nat) (s t : Sd), i ≠ j → ρ[i]? = some s → ρ[j]? = some t → s.own = true → t.own = true → σ[i]? ≠ σ[j]?
structure Sta (c : Cf) (u : PuS) (F H : Hp) (σ : L2.St) (ρ : Env) : Prop where
  ent : Stp c.p c.F0 c.H0 F H
  gd : Gd c.p u F H
  env : EnvOk c F H σ ρ
section
variable {c : Cf} {u u' : PuS} {F H F' H' : Hp} {σ : L2.St} {ρ : Env}
theorem SdOk.step {x : Option (Option V)} {s : Sd} (h : SdOk c F H x s) (t : Stp c.p F H F' H') : SdOk c F' H' x s := by
  cases s with
  | un => trivial
  | sh d => obtain ⟨v, e, r⟩ := h; exact ⟨v, e, r.mono t.ef⟩
  | ow ds => obtain ⟨q, vs, e, hq, hf, hp, h0, r⟩ := h; exact ⟨q, vs, e, t.eh q _ hp hq (.inr (by intro _ z; cases z)), t.off hf (by rw [hq]; simp), hp, h0, r.mono t.ef⟩
  | oi k ks ds => obtain ⟨dx, vs, e, hq, hf, hp, h0, hl, r⟩ := h; exact ⟨dx, vs, e, t.eh _ _ hp hq (.inr (by intro _ z; cases z)), t.off hf (by rw [hq]; simp), hp, h0, hl, r.mono t.ef⟩
  | od ks ds => obtain ⟨q, o, xs, vs, e, hq, hf, hp, h0, hx, r⟩ := h; exact ⟨q, o, xs, vs, e, t.eh _ _ hp hq (.inr (by intro _ z; cases z)), t.off hf (by rw [hq]; simp), hp, h0, hx, r.mono t.ef⟩
theorem Sta.step (s : Sta c u F H σ ρ) (t : Stp c.p F H F' H') (g : Gd c.p u' F' H') : Sta c u' F' H' σ ρ :=
  ⟨s.ent.trans s.gd.ne t, g, s.env.len, fun i x e => (s.env.at_ i x e).step t, s.env.ne⟩
end

/-! ### mirrors -/
abbrev M (α : Type) := PuS → Option (α × PuS)
def M.pure {α : Type} (a : α) : M α := fun u => some (a, u)
def M.bind {α β : Type} (m : M α) (f : α → M β) : M β := fun u => match m u with
  | some (a, u') => f a u'
  | none => none
def lft {α : Type} (o : Option α) : M α := fun u => o.map fun a => (a, u)
instance : Monad M where
  pure := M.pure
  bind := M.bind
/-- what is wanted behind a mirror's step -/
def After {α : Type} (p : Addr) (F H : Hp) (r : Option (α × PuS)) (Φ : α → PuS → Hp → Hp → Prop) : Prop := match r with
  | some (a, u') => ∀ F' H', Stp p F H F' H' → Gd p u' F' H' → Φ a u' F' H'
  | none => False
section
variable {α β : Type} {p : Addr} {F H : Hp} {u : PuS}
theorem After.imp {r : Option (α × PuS)} {Φ Ψ : α → PuS → Hp → Hp → Prop} (h : After p F H r Φ) (k : ∀ a u' F' H', r = some (a, u') → Stp p F H F' H' → Gd p u' F' H' → Φ a u' F' H' → Ψ a u' F' H') : After p F H r Ψ := by
  cases r with
  | none => exact h
  | some x => obtain ⟨a, u'⟩ := x; exact fun F' H' s g => k a u' F' H' rfl s g (h F' H' s g)
theorem After.split {m : M α} {f : α → M β} {Φ : β → PuS → Hp → Hp → Prop} (h : After p F H (M.bind m f u) Φ) : After p F H (m u) fun a u1 F1 H1 => After p F1 H1 (f a u1) Φ := by
  unfold M.bind at h
  cases e : m u with
  | none => rw [e] at h; exact h
  | some x =>
    obtain ⟨a, u1⟩ := x
    rw [e] at h
    intro F1 H1 s g
    show After p F1 H1 (f a u1) Φ
    have h2 : After p F H (f a u1) Φ := h
    cases e2 : f a u1 with
    | none => rw [e2] at h2; exact h2
    | some y =>
      obtain ⟨b, u2⟩ := y
      rw [e2] at h2
      exact fun F2 H2 s2 g2 => h2 F2 H2 (s.trans g.ne s2) g2
theorem After.now {a : α} {Φ : α → PuS → Hp → Hp → Prop} (g : Gd p u F H) (h : After p F H (some (a, u)) Φ) : Φ a u F H := h F H Stp.refl g
end

abbrev ME := Env → M D
abbrev MT := Env → M Bool
abbrev MA := Env → M (List D)
inductive Fl where
  | nx (ρ : Env) | rt (d : D) | bk (ρ : Env) | ct (ρ : Env) | rl (ds : List D)
  | ex (ρ : Env) (c : Str) (ks : List Str) (ds : List D)
abbrev MS := Env → M Fl
abbrev MG := D → Env → Option Env

def rdE (c : Cf) (m : ME) : TE := fun σ H Q => ∃ F u ρ, Sta c u F H σ ρ ∧ After c.p F H (m ρ u) fun d _ F' H' => ∀ v, Rep c.W c.p F' v d → Q v H'
def rdT (c : Cf) (m : MT) : TT := fun σ H Q => ∃ F u ρ, Sta c u F H σ ρ ∧ After c.p F H (m ρ u) fun b _ _ H' => Q b H'
def rdA (c : Cf) (m : MA) : TA := fun σ H Q => ∃ F u ρ, Sta c u F H σ ρ ∧ After c.p F H (m ρ u) fun ds _ F' H' => ∀ vs, Reps c.W c.p F' vs ds → Q vs H'
/-- a fresh list, not frozen -/
def rdL (c : Cf) (m : MA) : TE := fun σ H Q => ∃ F u ρ, Sta c u F H σ ρ ∧ After c.p F H (m ρ u) fun ds _ F' H' => ∀ q vs, F' q = none → H q = none → H' q = some (.lst vs) → Reps c.W c.p F' vs ds → Q (.ref q) H'
/-- what is known of an error in flight: its class, its dict -/
def ExRep (W : Wo) (p : Addr) (F : Hp) (k : Str) (ks : List Str) (ds : List D) (cls : Value) (od : Option Addr) : Prop :=
  cls = .ref (W.cl k) ∧ k ∈ errs ∧ ∃ vs, ks.length = vs.length ∧ Reps W p F vs ds ∧ ((∃ dx, od = some dx ∧ F dx = some (.xd (ks.zip vs))) ∨ (od = none ∧ ks = []))
/-- no error is let out -/
abbrev noX : WX := fun _ _ _ _ => False
def flow (c : Cf) (F : Hp) (Dn : Ends) : Fl → PuS → Prop := fun f u' => match f with
  | .nx ρ' => ∀ σ' F' H', Same F F' → Sta c u' F' H' σ' ρ' → Dn.nx σ' H'
  | .bk ρ' => ∀ σ' F' H', Same F F' → Sta c u' F' H' σ' ρ' → Dn.bk σ' H'
  | .ct ρ' => ∀ σ' F' H', Same F F' → Sta c u' F' H' σ' ρ' → Dn.ct σ' H'
  | .rt d => ∀ v F' H', Stp c.p c.F0 c.H0 F' H' → Gd c.p u' F' H' → Rep c.W c.p F' v d → Dn.rt v H'
  | .rl ds => ∀ q vs F' H', Stp c.p c.F0 c.H0 F' H' → Gd c.p u' F' H' → F' q = none → c.H0 q = none → H' q = some (.lst vs) → Reps c.W c.p F' vs ds → Dn.rt (.ref q) H'
  | .ex ρ' k ks ds => ∀ σ' F' H' cls od, Same F F' → Sta c u' F' H' σ' ρ' → ExRep c.W c.p F' k ks ds cls od → c.xw cls od σ' H'
def flowO (c : Cf) (F : Hp) (Dn : Ends) : Option (Fl × PuS) → Prop
  | some (f, u') => flow c F Dn f u'
  | none => False
def rdS (c : Cf) (m : MS) : TS := fun Dn σ H => ∃ F u ρ, Sta c u F H σ ρ ∧ flowO c F Dn (m ρ u)
/-- two slot lists that differ at most at these places -/
def Agr (is : List Nat) (σ σ' : L2.St) : Prop := σ'.length = σ.length ∧ ∀ j, j ∉ is → σ'[j]? = σ[j]?
def rdG (c : Cf) (is : List Nat) (m : MG) : TG := fun v σ H Q => ∃ F u ρ d, Sta c u F H σ ρ ∧ Rep c.W c.p F v d ∧ match m d ρ with
  | some ρ' => ∀ σ', Sta c u F H σ' ρ' → Agr is σ σ' → Q σ' H
  | none => False
def rdGs (c : Cf) (is : List Nat) (m : List D → Env → Option Env) : TGs := fun vs σ H Q => ∃ F u ρ ds, Sta c u F H σ ρ ∧ Reps c.W c.p F vs ds ∧ match m ds ρ with
  | some ρ' => ∀ σ', Sta c u F H σ' ρ' → Agr is σ σ' → Q σ' H
  | none => False
/-- what a walk over data gives -/
def WalkD (W : Wo) (p : Addr) (J : It) (F : Hp) (ds : List D) : Prop := ∃ (G : Hp → Prop) (Y : Nat → Hp → V → Hp → Prop), Walk J ds.length G Y ∧ (∀ H, Same F H → G H) ∧
  ∀ (i : Nat) (H : Hp) (x : V) (H' F2 : Hp) (u : PuS) (d : D), ds[i]? = some d → Same F F2 → Gd p u F2 H → Y i H x H' → ∃ F3, Stp p F2 H F3 H' ∧ Gd p u F3 H' ∧ Rep W p F3 x d
def rdI (c : Cf) (m : MA) : TI := fun σ H R => ∃ F u ρ, Sta c u F H σ ρ ∧ After c.p F H (m ρ u) fun ds _ F' H' => ∀ J, WalkD c.W c.p J F' ds → R J H'
/-- a def's promise by its mirror -/
def spM (W : Wo) (n : Nat) (mf : List D → M D) : Sp := fun vs H Q _ => vs.length = n ∧ ∃ p F u ds, Gd p u F H ∧ Reps W p F vs ds ∧ After p F H (mf ds u) fun d _ F' H' => ∀ v, Rep W p F' v d → Q v H'

/-! ### the judgements -/
theorem _root_.L2.PE.imp {X : Cx} {e : Expr} {t t' : TE} (h : PE X e t) (k : ∀ σ H Q, t' σ H Q → t σ H Q) : PE X e t' := ⟨fun pins s σ H Q I q => h.run pins s σ H Q I (k σ H Q q)⟩
theorem _root_.L2.PT.imp {X : Cx} {e : Expr} {t t' : TT} (h : PT X e t) (k : ∀ σ H Q, t' σ H Q → t σ H Q) : PT X e t' := ⟨fun pins s σ H Q I q => h.run pins s σ H Q I (k σ H Q q)⟩
theorem _root_.L2.PW.imp {X : Cx} {e : Expr} {t t' : TT} (h : PW X e t) (k : ∀ σ H Q, t' σ H Q → t σ H Q) : PW X e t' := ⟨fun wh pins s σ H Q I q => h.run wh pins s σ H Q I (k σ H Q q)⟩
theorem _root_.L2.PA.imp {X : Cx} {e : List Expr} {t t' : TA} (h : PA X e t) (k : ∀ σ H Q, t' σ H Q → t σ H Q) : PA X e t' := ⟨fun pos pins s σ H Q I q => h.run pos pins s σ H Q I (k σ H Q q)⟩
theorem _root_.L2.PS.imp {X : Cx} {e : Stmt} {t t' : TS} (h : PS X e t) (k : ∀ Dn σ H, t' Dn σ H → t Dn σ H) : PS X e t' := ⟨fun pins s σ H Dn I q => h.run pins s σ H Dn I (k Dn σ H q)⟩
theorem _root_.L2.PSs.imp {X : Cx} {e : List Stmt} {t t' : TS} (h : PSs X e t) (k : ∀ Dn σ H, t' Dn σ H → t Dn σ H) : PSs X e t' := ⟨fun pins s σ H Dn I q => h.run pins s σ H Dn I (k Dn σ H q)⟩
theorem _root_.L2.PG.imp {X : Cx} {e : Expr} {t t' : TG} (h : PG X e t) (k : ∀ v σ H Q, t' v σ H Q → t v σ H Q) : PG X e t' := ⟨fun pins s σ H v u Q I r q => h.run pins s σ H v u Q I r (k v σ H Q q)⟩
theorem _root_.L2.PGs.imp {X : Cx} {e : List Expr} {t t' : TGs} (h : PGs X e t) (k : ∀ v σ H Q, t' v σ H Q → t v σ H Q) : PGs X e t' := ⟨fun pins s σ H v u Q I r q => h.run pins s σ H v u Q I r (k v σ H Q q)⟩
theorem _root_.L2.PI.imp {X : Cx} {tg e : Expr} {t t' : TI} (h : PI X tg e t) (k : ∀ σ H R, t' σ H R → t σ H R) : PI X tg e t' := ⟨fun pins s σ H R I q => h.run pins s σ H R I (k σ H R q)⟩
theorem _root_.L2.PTs.imp {X : Cx} {e : List Expr} {t t' : TT} (h : PTs X e t) (k : ∀ σ H Q, t' σ H Q → t σ H Q) : PTs X e t' := ⟨fun pins s σ H Q I q => h.run pins s σ H Q I (k σ H Q q)⟩

abbrev DE (X : Cx) (c : Cf) (e : Expr) (m : ME) : Prop := PE X e (rdE c m)
abbrev DT (X : Cx) (c : Cf) (e : Expr) (m : MT) : Prop := PT X e (rdT c m)
abbrev DA (X : Cx) (c : Cf) (e : List Expr) (m : MA) : Prop := PA X e (rdA c m)
abbrev DL (X : Cx) (c : Cf) (e : Expr) (m : MA) : Prop := PE X e (rdL c m)
abbrev DS (X : Cx) (c : Cf) (e : Stmt) (m : MS) : Prop := PS X e (rdS c m)
abbrev DB (X : Cx) (c : Cf) (e : List Stmt) (m : MS) : Prop := PSs X e (rdS c m)
end Mi

set_option Elab.async false
set_option linter.all false
set_option maxRecDepth 100000
set_option maxHeartbeats 2000000
/-! Mi1: expressions. -/
namespace Mi
open PySem PySem.Spec PyProof.Rows L2
variable [TB : Tabl]

section
variable {W : Wo} {p : Addr} {F H : Hp}
theorem Rep.int_ {v : V} {i : Int} (h : Rep W p F v (.int i)) : v = .int i := by cases h; rfl
theorem Rep.bl_ {v : V} {i : Bool} (h : Rep W p F v (.bl i)) : v = .bl i := by cases h; rfl
theorem Rep.str_ {v : V} {i : Str} (h : Rep W p F v (.str i)) : v = .str i := by cases h; rfl
theorem Rep.non_ {v : V} (h : Rep W p F v .non) : v = .non := by cases h; rfl
theorem Rep.ty_ {v : V} {n : String} (h : Rep W p F v (.ty n)) : v = .ty n := by cases h; rfl
theorem Rep.tup_ {v : V} {ds : List D} (h : Rep W p F v (.tup ds)) : ∃ a vs, v = .ref a ∧ SqT W.K F a vs ∧ Reps W p F vs ds := by
  cases h with
  | tup h l r => exact ⟨_, _, rfl, h, l, r⟩
theorem Rep.lst_ {v : V} {ds : List D} (h : Rep W p F v (.lst ds)) : ∃ a vs, v = .ref a ∧ F a = some (.lst vs) ∧ Reps W p F vs ds := by
  cases h with
  | lst h l r => exact ⟨_, _, rfl, h, l, r⟩
theorem Rep.obj_ {v : V} {c : Str} {ks : List Str} {ds : List D} (h : Rep W p F v (.obj c ks ds)) : ∃ a dx vs, v = .ref a ∧ F a = some (.ins (W.cl c) dx (ks.zip vs)) ∧ ks.length = vs.length ∧ Reps W p F vs ds := by
  cases h with
  | obj hc h lk l r => exact ⟨_, _, _, rfl, h, lk, l, r⟩
theorem Rep.objc {v : V} {c : Str} {ks : List Str} {ds : List D} (h : Rep W p F v (.obj c ks ds)) : c ∈ W.cs := by
  cases h with
  | obj hc h lk l r => exact hc
theorem Rep.cls_ {v : V} {c : Str} (h : Rep W p F v (.cls c)) : v = .ref (W.cl c) ∧ c ∈ W.cs := by
  cases h with
  | cls _ hc => exact ⟨rfl, hc⟩
theorem Rep.scr_ {v : V} {ns : List Int} (h : Rep W p F v (.scr ns)) : ∃ a, v = .ref a ∧ SqL W.K F a (ns.map V.int) := by
  cases h with
  | scr h => exact ⟨_, rfl, h⟩
theorem Rep.mkT {a : Addr} {vs : List V} {ds : List D} (h : F a = some (.tup vs)) (r : Reps W p F vs ds) : Rep W p F (.ref a) (.tup ds) := .tup (SqT.of h) r.1 r.2
theorem Rep.mkL {a : Addr} {vs : List V} {ds : List D} (h : F a = some (.lst vs)) (r : Reps W p F vs ds) : Rep W p F (.ref a) (.lst ds) := .lst h r.1 r.2
end

/-! ### names, constants -/
def vSh (ρ : Env) (i : Nat) : Option D := match ρ[i]? with
  | some (.sh d) => some d
  | _ => none
def mVar (i : Nat) : ME := fun ρ => lft (vSh ρ i)
def mC (d : D) : ME := fun _ => M.pure d
section
variable {X : Cx} {c : Cf} {pos : Pos}
theorem lft_some {α : Type} {o : Option α} {u : PuS} {p : Addr} {F H : Hp} {Φ : α → PuS → Hp → Hp → Prop} (h : After p F H (lft o u) Φ) : ∃ a, o = some a ∧ After p F H (some (a, u)) Φ := by
  cases o with
  | none => exact absurd h (by intro z; exact z)
  | some a => exact ⟨a, rfl, h⟩
theorem Sta.var {u : PuS} {F H : Hp} {σ : L2.St} {ρ : Env} {i : Nat} {d : D} (S : Sta c u F H σ ρ) (e : vSh ρ i = some d) : ∃ v, σ[i]? = some (some v) ∧ Rep c.W c.p F v d := by
  unfold vSh at e
  cases q : ρ[i]? with
  | none => rw [q] at e; cases e
  | some s =>
    rw [q] at e
    cases s with
    | sh d' => cases e; exact S.env.at_ i _ q
    | _ => cases e
theorem dVar (i : Nat) {x : Str} (hN : X.N[i]? = some x := by rfl) (hv : Vis X.env.scope x := by first | exact Or.inl rfl | exact Or.inr (Or.inl rfl) | exact Or.inr (Or.inr rfl)) (hd : (x == ("__debug__" : Str)) = false := by decide)
    (hcd : (x == ("__classdict__" : Str)) = false := by decide) : DE X c (.Name x pos) (mVar i) :=
  (pe_var hN hv hd hcd).imp fun σ H Q ⟨F, u, ρ, S, h⟩ => by
    obtain ⟨d, e, h⟩ := lft_some h
    obtain ⟨v, e1, r⟩ := S.var e
    exact ⟨v, e1, After.now S.gd h v r⟩
theorem dC_of {e : Expr} {v : V} {d : D} (h : PE X e (tC v)) (r : ∀ F, Rep c.W c.p F v d) : DE X c e (mC d) := h.imp fun σ H Q ⟨F, u, ρ, S, q⟩ => After.now S.gd q v (r F)
theorem dInt {i : Int} {j} : DE X c (.Constant (.int i) j pos) (mC (.int i)) := dC_of pe_int fun _ => .int i
theorem dBl {b : Bool} {j} : DE X c (.Constant (.bool b) j pos) (mC (.bl b)) := dC_of pe_bl fun _ => .bl b
theorem dNon {j} : DE X c (.Constant .none j pos) (mC .non) := dC_of pe_non fun _ => .non
theorem dStr {x : Str} {j} : DE X c (.Constant (.str x) j pos) (mC (.str x)) := dC_of pe_str fun _ => .str x
/-- a module's constant -/
theorem dGI {x : Str} {i : Int} {t : Tok} (hg : Gl X x) (hm : X.mg x = some (.int i t)) (hd : (x == ("__debug__" : Str)) = false := by decide) : DE X c (.Name x pos) (mC (.int i)) := dC_of (pe_glob (v := .int i) hg hm ⟨t, rfl⟩ hd) fun _ => .int i
theorem dGS {x : Str} {i : Str} {t : Tok} (hg : Gl X x) (hm : X.mg x = some (.str i t)) (hd : (x == ("__debug__" : Str)) = false := by decide) : DE X c (.Name x pos) (mC (.str i)) := dC_of (pe_glob (v := .str i) hg hm ⟨t, rfl⟩ hd) fun _ => .str i
theorem dGC {x k : Str} (hc : k ∈ c.W.cs) (hg : Gl X x) (hm : X.mg x = some (.ref (c.W.cl k))) (hd : (x == ("__debug__" : Str)) = false := by decide) : DE X c (.Name x pos) (mC (.cls k)) := dC_of (pe_glob (v := .ref (c.W.cl k)) hg hm rfl hd) fun _ => .cls k hc
theorem dTy {x : Str} {n : String} (hg : Gl X x) (hm : X.mg x = none) (hv : bootBuiltins x = some (.type n)) (hn : x ≠ "__name__" := by decide) (hd : (x == ("__debug__" : Str)) = false := by decide) : DE X c (.Name x pos) (mC (.ty n)) :=
  dC_of (pe_bltn (v := .ty n) hg hm hv rfl hn hd) fun _ => .ty n
end

/-! ### operators -/
/-- a mirror of an operator on values -/
def OpM (W : Wo) (r : R2) (f : D → D → Option D) : Prop := ∀ (p : Addr) (F H : Hp) (u : PuS) (x y : V) (a b : D) (Q : VK), Gd p u F H → Rep W p F x a → Rep W p F y b →
  After p F H (lft (f a b) u) (fun d _ F' H' => ∀ v, Rep W p F' v d → Q v H') → r x y H Q
def UnM (W : Wo) (r : V → Hp → VK → Prop) (f : D → Option D) : Prop := ∀ (p : Addr) (F H : Hp) (u : PuS) (x : V) (a : D) (Q : VK), Gd p u F H → Rep W p F x a →
  After p F H (lft (f a) u) (fun d _ F' H' => ∀ v, Rep W p F' v d → Q v H') → r x H Q
def CallM (W : Wo) (r : List V → Hp → VK → Prop) (f : List D → Option D) : Prop := ∀ (p : Addr) (F H : Hp) (u : PuS) (xs : List V) (as : List D) (Q : VK), Gd p u F H → Reps W p F xs as →
  After p F H (lft (f as) u) (fun d _ F' H' => ∀ v, Rep W p F' v d → Q v H') → r xs H Q
def mBin (f : D → D → Option D) (ma mb : ME) : ME := fun ρ => M.bind (ma ρ) fun x => M.bind (mb ρ) fun y => lft (f x y)
def mUn (f : D → Option D) (ma : ME) : ME := fun ρ => M.bind (ma ρ) fun x => lft (f x)
def mCB (f : List D → Option D) (ms : MA) : ME := fun ρ => M.bind (ms ρ) fun xs => lft (f xs)
def mNil : MA := fun _ => M.pure []
def mCons (m : ME) (ms : MA) : MA := fun ρ => M.bind (m ρ) fun x => M.bind (ms ρ) fun xs => M.pure (x :: xs)
section
variable {X : Cx} {c : Cf} {pos : Pos} {a b e : Expr} {es : List Expr} {ma mb m : ME} {ms : MA} {r : R2}
theorem rd2 {f : D → D → Option D} (hm : OpM c.W r f) : ∀ σ H Q, rdE c (mBin f ma mb) σ H Q → tOp r (rdE c ma) (rdE c mb) σ H Q := fun σ H Q ⟨F, u, ρ, S, h⟩ =>
  ⟨F, u, ρ, S, (After.split h).imp fun x u1 F1 H1 _ s1 g1 h1 v rv => ⟨F1, u1, ρ, S.step s1 g1, (After.split h1).imp fun y u2 F2 H2 _ s2 g2 h2 w rw => hm c.p F2 H2 u2 v w x y Q g2 (rv.mono s2.ef) rw h2⟩⟩
theorem dBin {op : Operator} {f : D → D → Option D} (ho : OpR X (binaryOp op) r) (hm : OpM c.W r f) (ha : DE X c a ma) (hb : DE X c b mb) : DE X c (.BinOp a op b pos) (mBin f ma mb) := (pe_op ho ha hb).imp (rd2 hm)
theorem dCmp {op : CmpOp} {f : D → D → Option D} (ho : OpR X (compareOp op) r) (hm : OpM c.W r f) (ha : DE X c a ma) (hb : DE X c b mb) (hk : behindInMarks op b = false) : DE X c (.Compare a [op] [b] pos) (mBin f ma mb) := (pe_cmpR ho ha hb hk).imp (rd2 hm)
theorem dIx {f : D → D → Option D} (ho : IxR X r) (hm : OpM c.W r f) (ha : DE X c a ma) (hb : DE X c b mb) (hs : PlainIx b := by exact fun _ _ => rfl) : DE X c (.Subscript a b pos) (mBin f ma mb) := (pe_ix ho ha hb hs).imp (rd2 hm)
theorem dUn {op : UnaryOp} {ru : V → Hp → VK → Prop} {f : D → Option D} (ho : UnR X (unaryOp op) ru) (hm : UnM c.W ru f) (ha : DE X c a ma) : DE X c (.UnaryOp op a pos) (mUn f ma) :=
  (pe_un ho ha).imp fun σ H Q ⟨F, u, ρ, S, h⟩ => ⟨F, u, ρ, S, (After.split h).imp fun x u1 F1 H1 _ s1 g1 h1 v rv => hm c.p F1 H1 u1 v x Q g1 rv h1⟩
theorem dNil : DA X c [] mNil := pa_nil.imp fun σ H Q ⟨F, u, ρ, S, h⟩ => After.now S.gd h [] Reps.nil
theorem dCons (ha : DE X c e m) (hr : DA X c es ms) (hs : starEach (e :: es) X.env = (false, eval e X.env) :: starEach es X.env := by rfl) : DA X c (e :: es) (mCons m ms) :=
  (pa_cons ha hr hs).imp fun σ H Q ⟨F, u, ρ, S, h⟩ => ⟨F, u, ρ, S, (After.split h).imp fun x u1 F1 H1 _ s1 g1 h1 v rv => ⟨F1, u1, ρ, S.step s1 g1, (After.split h1).imp fun xs u2 F2 H2 _ s2 g2 h2 vs rvs =>
    After.now g2 h2 (v :: vs) (Reps.cons (rv.mono s2.ef) rvs)⟩⟩
theorem rdCB {rc : List V → Hp → VK → Prop} {f : List D → Option D} (hm : CallM c.W rc f) : ∀ σ H Q, rdE c (mCB f ms) σ H Q → tCB rc (rdA c ms) σ H Q := fun σ H Q ⟨F, u, ρ, S, h⟩ =>
  ⟨F, u, ρ, S, (After.split h).imp fun xs u1 F1 H1 _ s1 g1 h1 vs rvs => hm c.p F1 H1 u1 vs xs Q g1 rvs h1⟩
theorem dCallB {rc : List V → Hp → VK → Prop} {f : List D → Option D} {id : String} {x : Str} {p : Pos} (hm : CallM c.W rc f) (hc : CallR X (.builtin id) rc) (hg : Gl X x) (hmg : X.mg x = none) (hv : bootBuiltins x = some (.builtin id)) (ha : DA X c (e :: es) ms)
    (hn : x ≠ "__name__" := by decide) (hdb : (x == ("__debug__" : Str)) = false := by decide)
    (he : starEach (e :: es) X.env = (false, eval e X.env) :: starEach es X.env := by rfl) (hpl : (backTo pos (starEach es X.env)).any (·.1) = false := by rfl) : DE X c (.Call (.Name x p) (e :: es) [] pos) (mCB f ms) :=
  (pe_callB hc hg hmg hv ha hn hdb he hpl).imp (rdCB hm)
theorem dCallT {rc : List V → Hp → VK → Prop} {f : List D → Option D} {id : String} {x : Str} {p : Pos} (hm : CallM c.W rc f) (hc : CallR X (.type id) rc) (hg : Gl X x) (hmg : X.mg x = none) (hv : bootBuiltins x = some (.type id)) (ha : DA X c (e :: es) ms)
    (hn : x ≠ "__name__" := by decide) (hdb : (x == ("__debug__" : Str)) = false := by decide)
    (he : starEach (e :: es) X.env = (false, eval e X.env) :: starEach es X.env := by rfl) (hpl : (backTo pos (starEach es X.env)).any (·.1) = false := by rfl) : DE X c (.Call (.Name x p) (e :: es) [] pos) (mCB f ms) :=
  (pe_callTy hc hg hmg hv ha hn hdb he hpl).imp (rdCB hm)
end

/-! ### displays -/
def mTup (ms : MA) : ME := fun ρ => M.bind (ms ρ) fun xs => lft (if xs.length ≤ 100000 then some (.tup xs) else none)
def mLstO (ms : MA) : MA := fun ρ => M.bind (ms ρ) fun xs => lft (if xs.length ≤ 100000 then some xs else none)
theorem sz5 {n : Nat} (h : n ≤ 100000) : n ≤ sizeLine := Nat.le_trans h (by decide)
theorem sz5l {n : Nat} (h : n ≤ 100000) : n < sizeLine := Nat.lt_of_le_of_lt h (by decide)
theorem lft_if {α : Type} {b : Prop} [Decidable b] {a : α} {u : PuS} {p : Addr} {F H : Hp} {Φ : α → PuS → Hp → Hp → Prop} (h : After p F H (lft (if b then some a else none) u) Φ) : b ∧ After p F H (some (a, u)) Φ := by
  obtain ⟨a', e, h⟩ := lft_some h
  by_cases hb : b
  · rw [if_pos hb] at e; cases e; exact ⟨hb, h⟩
  · rw [if_neg hb] at e; cases e
section
variable {X : Cx} {c : Cf} {pos : Pos} {es : List Expr} {ms : MA}
theorem dTup {x1} (h : DA X c es ms) : DE X c (.Tuple es x1 pos) (mTup ms) :=
  (pe_tup h).imp fun σ H Q ⟨F, u, ρ, S, h⟩ => ⟨F, u, ρ, S, (After.split h).imp fun xs u1 F1 H1 _ s1 g1 h1 vs rvs => by
    obtain ⟨hl, h2⟩ := lft_if h1
    refine ⟨sz5 (by rw [rvs.1]; exact hl), fun q hq => ?_⟩
    exact h2 _ _ (Stp.new g1 hq) (g1.new hq) _ (Rep.mkT upd_same (rvs.mono (Stp.new g1 hq).ef))⟩
theorem Stp.back {p q : Addr} {F H F' H' : Hp} (s : Stp p F H F' H') (hp : H' p ≠ none) (h : H' q = none) : H q = none := by
  cases e : H q with
  | none => rfl
  | some o =>
    by_cases hq : q = p
    · subst hq; exact absurd h hp
    · exact absurd h (s.kept hq (by rw [e]; simp))
theorem dLstO (h : DA X c es ms) : DL X c (.List es pos) (mLstO ms) :=
  (pe_lst h).imp fun σ H Q ⟨F, u, ρ, S, h⟩ => ⟨F, u, ρ, S, (After.split h).imp fun xs u1 F1 H1 _ s1 g1 h1 vs rvs => by
    obtain ⟨hl, h2⟩ := lft_if h1
    refine ⟨sz5 (by rw [rvs.1]; exact hl), fun q hq => ?_⟩
    exact h2 _ _ (Stp.own hq) (g1.own hq) q vs (g1.fresh hq) (s1.back g1.ne hq) upd_same rvs⟩
end

/-! ### tests -/
def mB (m : ME) : MT := fun ρ => M.bind (m ρ) fun d => match d with
  | .bl b => M.pure b
  | _ => lft none
def mAnd (t v : MT) : MT := fun ρ => M.bind (t ρ) fun b => if b = true then v ρ else M.pure false
def mOr (t v : MT) : MT := fun ρ => M.bind (t ρ) fun b => if b = true then M.pure true else v ρ
def mNot (t : MT) : MT := fun ρ => M.bind (t ρ) fun b => M.pure (!b)
def mIf (t : MT) (ma mb : ME) : ME := fun ρ => M.bind (t ρ) fun b => if b = true then ma ρ else mb ρ
def mAndV (ma mb : ME) : ME := fun ρ => M.bind (ma ρ) fun d => match d with
  | .bl b => if b = true then mb ρ else M.pure (.bl false)
  | _ => lft none
def mOrV (ma mb : ME) : ME := fun ρ => M.bind (ma ρ) fun d => match d with
  | .bl b => if b = true then M.pure (.bl true) else mb ρ
  | _ => lft none
def mNotV (ma : ME) : ME := fun ρ => M.bind (ma ρ) fun d => match d with
  | .bl b => M.pure (.bl (!b))
  | _ => lft none
section
variable {X : Cx} {c : Cf} {pos : Pos} {a b e : Expr} {rest : List Expr} {ma mb m : ME} {t v : MT} {r : R2}
theorem rdB : ∀ σ H Q, rdT c (mB m) σ H Q → tB (rdE c m) σ H Q := fun σ H Q ⟨F, u, ρ, S, h⟩ =>
  ⟨F, u, ρ, S, (After.split h).imp fun d u1 F1 H1 _ s1 g1 h1 w rw => by
    cases d with
    | bl k =>
      have h2 : After c.p F1 H1 (some (k, u1)) (fun b _ _ H' => Q b H') := h1
      exact ⟨k, rw.bl_, After.now g1 h2⟩
    | _ => exact False.elim h1⟩
theorem dTst (h : DE X c e m) (he : ∀ whole, isTrue e X.env whole = (do let v ← whole; standAt e.pos; holding [v] (truthy v)) := by intro _; rfl) : DT X c e (mB m) := (pt_val h he).imp rdB
theorem dTcmp {op : CmpOp} {f : D → D → Option D} (ho : OpR X (compareOp op) r) (hm : OpM c.W r f) (ha : DE X c a ma) (hb : DE X c b mb) (hk : behindInMarks op b = false) : DT X c (.Compare a [op] [b] pos) (mB (mBin f ma mb)) :=
  (pt_cmpR ho ha hb hk).imp fun σ H Q h => by
    obtain ⟨F, u, ρ, S, h⟩ := h
    refine rd2 hm σ H _ ⟨F, u, ρ, S, (After.split h).imp fun d u1 F1 H1 _ s1 g1 h1 w rw => ?_⟩
    cases d with
    | bl k =>
      have h2 : After c.p F1 H1 (some (k, u1)) (fun b _ _ H' => Q b H') := h1
      exact ⟨k, rw.bl_, After.now g1 h2⟩
    | _ => exact False.elim h1
theorem dNotT (h : DT X c e t) : DT X c (.UnaryOp .Not e pos) (mNot t) :=
  (pt_not h).imp fun σ H Q ⟨F, u, ρ, S, h⟩ => ⟨F, u, ρ, S, (After.split h).imp fun b u1 F1 H1 _ s1 g1 h1 => After.now g1 h1⟩
theorem dAnd1 (h : DT X c e t) : PW X (.BoolOp .And [e] pos) (rdT c t) := pw_and1 h
theorem dOr1 (h : DT X c e t) : PW X (.BoolOp .Or [e] pos) (rdT c t) := pw_or1 h
theorem dAndT (h : DT X c a t) (hb : PW X (.BoolOp .And (b :: rest) pos) (rdT c v)) : PW X (.BoolOp .And (a :: b :: rest) pos) (rdT c (mAnd t v)) :=
  (pw_and h hb).imp fun σ H Q ⟨F, u, ρ, S, h⟩ => ⟨F, u, ρ, S, (After.split h).imp fun b u1 F1 H1 _ s1 g1 h1 => by
    cases b with
    | true => exact ⟨F1, u1, ρ, S.step s1 g1, h1⟩
    | false =>
      have h2 : After c.p F1 H1 (some (false, u1)) (fun b _ _ H' => Q b H') := h1
      exact After.now g1 h2⟩
theorem dOrT (h : DT X c a t) (hb : PW X (.BoolOp .Or (b :: rest) pos) (rdT c v)) : PW X (.BoolOp .Or (a :: b :: rest) pos) (rdT c (mOr t v)) :=
  (pw_or h hb).imp fun σ H Q ⟨F, u, ρ, S, h⟩ => ⟨F, u, ρ, S, (After.split h).imp fun b u1 F1 H1 _ s1 g1 h1 => by
    cases b with
    | false => exact ⟨F1, u1, ρ, S.step s1 g1, h1⟩
    | true =>
      have h2 : After c.p F1 H1 (some (true, u1)) (fun b _ _ H' => Q b H') := h1
      exact After.now g1 h2⟩
theorem dIf {k : Expr} (hk : DT X c k t) (ha : DE X c a ma) (hb : DE X c b mb) : DE X c (.IfExp k a b pos) (mIf t ma mb) :=
  (pe_ifExp hk ha hb).imp fun σ H Q ⟨F, u, ρ, S, h⟩ => ⟨F, u, ρ, S, (After.split h).imp fun b u1 F1 H1 _ s1 g1 h1 => by
    cases b with
    | true => exact ⟨F1, u1, ρ, S.step s1 g1, h1⟩
    | false => exact ⟨F1, u1, ρ, S.step s1 g1, h1⟩⟩
theorem dOneV {op} (h : DE X c e m) : DE X c (.BoolOp op [e] pos) m := pe_one h
theorem dAndV (ha : DE X c a ma) (hb : DE X c (.BoolOp .And (b :: rest) pos) mb) : DE X c (.BoolOp .And (a :: b :: rest) pos) (mAndV ma mb) :=
  (pe_and ha hb).imp fun σ H Q ⟨F, u, ρ, S, h⟩ => ⟨F, u, ρ, S, (After.split h).imp fun d u1 F1 H1 _ s1 g1 h1 w rw => by
    cases d with
    | bl k =>
      refine ⟨k, rw.bl_, ?_⟩
      cases k with
      | true => exact ⟨F1, u1, ρ, S.step s1 g1, h1⟩
      | false =>
        have h2 : After c.p F1 H1 (some (D.bl false, u1)) (fun d _ F' H' => ∀ v, Rep c.W c.p F' v d → Q v H') := h1
        exact After.now g1 h2 _ (.bl false)
    | _ => exact False.elim h1⟩
theorem dOrV (ha : DE X c a ma) (hb : DE X c (.BoolOp .Or (b :: rest) pos) mb) : DE X c (.BoolOp .Or (a :: b :: rest) pos) (mOrV ma mb) :=
  (pe_or ha hb).imp fun σ H Q ⟨F, u, ρ, S, h⟩ => ⟨F, u, ρ, S, (After.split h).imp fun d u1 F1 H1 _ s1 g1 h1 w rw => by
    cases d with
    | bl k =>
      refine ⟨k, rw.bl_, ?_⟩
      cases k with
      | false => exact ⟨F1, u1, ρ, S.step s1 g1, h1⟩
      | true =>
        have h2 : After c.p F1 H1 (some (D.bl true, u1)) (fun d _ F' H' => ∀ v, Rep c.W c.p F' v d → Q v H') := h1
        exact After.now g1 h2 _ (.bl true)
    | _ => exact False.elim h1⟩
theorem dNotV (ha : DE X c a ma) : DE X c (.UnaryOp .Not a pos) (mNotV ma) :=
  (pe_not ha).imp fun σ H Q ⟨F, u, ρ, S, h⟩ => ⟨F, u, ρ, S, (After.split h).imp fun d u1 F1 H1 _ s1 g1 h1 w rw => by
    cases d with
    | bl k =>
      have h2 : After c.p F1 H1 (some (D.bl (!k), u1)) (fun d _ F' H' => ∀ v, Rep c.W c.p F' v d → Q v H') := h1
      exact ⟨k, rw.bl_, After.now g1 h2 _ (.bl (!k))⟩
    | _ => exact False.elim h1⟩
end
end Mi

set_option Elab.async false
set_option linter.all false
set_option maxRecDepth 100000
set_option maxHeartbeats 2000000
/-! Mi2: statements, loops, comprehensions. -/
namespace Mi
open PySem PySem.Spec PyProof.Rows L2
variable [TB : Tabl]

/-! ### slots are set -/
section
variable {c : Cf} {u : PuS} {F H : Hp} {σ : L2.St} {ρ : Env}
theorem set_get {α : Type} {l : List α} {i j : Nat} {a b : α} (h : (l.set i a)[j]? = some b) : (i = j ∧ b = a ∧ i < l.length) ∨ (i ≠ j ∧ l[j]? = some b) := by
  by_cases e : i = j
  · subst e
    rw [List.getElem?_set] at h
    simp only [if_true] at h
    split at h
    · rename_i hl
      cases h
      exact .inl ⟨rfl, rfl, hl⟩
    · cases h
  · rw [List.getElem?_set_ne e] at h
    exact .inr ⟨e, h⟩
theorem Sta.set {i : Nat} {v : V} {d : D} (S : Sta c u F H σ ρ) (r : Rep c.W c.p F v d) : Sta c u F H (σ.set i (some v)) (ρ.set i (.sh d)) := by
  refine ⟨S.ent, S.gd, by simpa using S.env.len, fun j s e => ?_, fun j k s t h e1 e2 o1 o2 => ?_⟩
  · rcases set_get e with ⟨rfl, rfl, hl⟩ | ⟨ne, e⟩
    · exact ⟨v, List.getElem?_set_self (by rw [S.env.len]; exact hl), r⟩
    · rw [List.getElem?_set_ne ne]; exact S.env.at_ j s e
  · rcases set_get e1 with ⟨rfl, rfl, _⟩ | ⟨n1, e1⟩
    · cases o1
    · rcases set_get e2 with ⟨rfl, rfl, _⟩ | ⟨n2, e2⟩
      · cases o2
      · rw [List.getElem?_set_ne n1, List.getElem?_set_ne n2]; exact S.env.ne j k s t h e1 e2 o1 o2
theorem SdOk.ref {x : Option (Option V)} {s : Sd} (h : SdOk c F H x s) (o : s.own = true) : ∃ q, x = some (some (.ref q)) ∧ H q ≠ none ∧ F q = none := by
  cases s with
  | un => cases o
  | sh d => cases o
  | ow ds => obtain ⟨q, vs, e, hq, hf, _⟩ := h; exact ⟨q, e, by rw [hq]; simp, hf⟩
  | oi k ks ds => obtain ⟨dx, vs, e, hq, hf, _⟩ := h; exact ⟨_, e, by rw [hq]; simp, hf⟩
  | od ks ds => obtain ⟨q, o, xs, vs, e, hq, hf, _⟩ := h; exact ⟨_, e, by rw [hq]; simp, hf⟩
/-- a fresh list at q is owned by the slot i -/
theorem Sta.setO {H1 : Hp} {i : Nat} {q : Addr} {vs : List V} {ds : List D} {u1 : PuS} {F1 : Hp} (S : Sta c u F H σ ρ) (s : Stp c.p F H F1 H1) (g : Gd c.p u1 F1 H1) (hF : F1 q = none) (hn : H q = none) (h1 : H1 q = some (.lst vs)) (r : Reps c.W c.p F1 vs ds) :
    Sta c u1 F1 H1 (σ.set i (some (.ref q))) (ρ.set i (.ow ds)) := by
  have S1 := S.step s g
  have hp : q ≠ c.p := fun e => S.gd.ne (e ▸ hn)
  have h0 : c.H0 q = none := S.ent.back S.gd.ne hn
  have nq : ∀ {j : Nat} {t : Sd}, ρ[j]? = some t → t.own = true → σ[j]? ≠ some (some (.ref q)) := fun {j t} e o z => by
    obtain ⟨q', e', hq', _⟩ := (S.env.at_ j t e).ref o
    rw [z] at e'
    injection e' with e'
    injection e' with e'
    injection e' with e'
    subst e'
    exact hq' hn
  refine ⟨S1.ent, S1.gd, by simpa using S.env.len, fun j t e => ?_, fun j k t t' h e1 e2 o1 o2 => ?_⟩
  · rcases set_get e with ⟨rfl, rfl, hl⟩ | ⟨ne, e⟩
    · exact ⟨q, vs, List.getElem?_set_self (by rw [S.env.len]; exact hl), h1, hF, hp, h0, r⟩
    · rw [List.getElem?_set_ne ne]; exact S1.env.at_ j t e
  · rcases set_get e1 with ⟨rfl, rfl, hl⟩ | ⟨n1, e1⟩
    · rcases set_get e2 with ⟨e, _, _⟩ | ⟨n2, e2⟩
      · exact absurd e h
      · rw [List.getElem?_set_self (by rw [S.env.len]; exact hl), List.getElem?_set_ne n2]; exact fun z => nq e2 o2 z.symm
    · rcases set_get e2 with ⟨rfl, rfl, hl⟩ | ⟨n2, e2⟩
      · rw [List.getElem?_set_self (by rw [S.env.len]; exact hl), List.getElem?_set_ne n1]; exact nq e1 o1
      · rw [List.getElem?_set_ne n1, List.getElem?_set_ne n2]; exact S.env.ne j k t t' h e1 e2 o1 o2
/-- the owned list of the slot i is changed -/
theorem Sta.put {i : Nat} {q : Addr} {vs : List V} {ds es : List D} (S : Sta c u F H σ ρ) (e : ρ[i]? = some (.ow ds)) (hq : σ[i]? = some (some (.ref q))) (r : Reps c.W c.p F vs es) :
    Sta c u F (upd H q (.lst vs)) σ (ρ.set i (.ow es)) := by
  obtain ⟨q', ws, e1, h1, hf, hp, h0, _⟩ := S.env.at_ i _ e
  rw [hq] at e1
  injection e1 with e1; injection e1 with e1; injection e1 with e1
  subst e1
  have qs : ∀ {j : Nat} {t : Sd} {a : Addr}, i ≠ j → ρ[j]? = some t → t.own = true → σ[j]? = some (some (.ref a)) → a ≠ q := fun {j t a} ne e2 o z h => by
    subst h
    exact S.env.ne i j _ t ne e e2 rfl o (hq.trans z.symm)
  refine ⟨⟨S.ent.ef, fun a o ha e n => ?_, fun a ps ha e => by
    obtain ⟨qs, e1⟩ := S.ent.et a ps ha e
    exact ⟨qs, by rw [upd_ne (fun z => by rw [z, h1] at e1; cases e1)]; exact e1⟩, S.ent.nw⟩, ⟨fun a o e => ?_, by rw [upd_ne (Ne.symm hp)]; exact S.gd.pu, S.gd.off, S.gd.nt, tabs_over h1 S.gd.tb, S.gd.hp⟩, by simpa using S.env.len, fun j t e2 => ?_, fun j k t t' h e1 e2 o1 o2 => ?_⟩
  · rw [upd_ne (fun z => by rw [z, h0] at e; cases e)]; exact S.ent.eh a o ha e n
  · rw [upd_ne (fun z => by rw [z, hf] at e; cases e)]; exact S.gd.ex a o e
  · rcases set_get e2 with ⟨rfl, rfl, hl⟩ | ⟨ne, e2⟩
    · exact ⟨q, vs, hq, upd_same, hf, hp, h0, r⟩
    · have k := S.env.at_ j t e2
      cases t with
      | un => trivial
      | sh d => exact k
      | ow ds' => obtain ⟨a, xs, z, ha, rest⟩ := k; exact ⟨a, xs, z, by rw [upd_ne (qs ne e2 rfl z)]; exact ha, rest⟩
      | oi kk ks ds' => obtain ⟨dx, xs, z, ha, rest⟩ := k; exact ⟨dx, xs, z, by rw [upd_ne (qs ne e2 rfl z)]; exact ha, rest⟩
      | od ks ds' => obtain ⟨a, ob, xs, ws, z, ha, rest⟩ := k; exact ⟨a, ob, xs, ws, z, by rw [upd_ne (qs ne e2 rfl z)]; exact ha, rest⟩
  · have back : ∀ {m : Nat} {y : Sd}, (ρ.set i (.ow es))[m]? = some y → y.own = true → ∃ y', ρ[m]? = some y' ∧ y'.own = true := fun {m y} z o => by
      rcases set_get z with ⟨rfl, rfl, _⟩ | ⟨_, z⟩
      · exact ⟨_, e, rfl⟩
      · exact ⟨y, z, o⟩
    obtain ⟨y1, z1, p1⟩ := back e1 o1
    obtain ⟨y2, z2, p2⟩ := back e2 o2
    exact S.env.ne j k y1 y2 h z1 z2 p1 p2
end

/-! ### blocks and small statements -/
def mNext : MS := fun ρ => M.pure (.nx ρ)
def mSeq (m n : MS) : MS := fun ρ => M.bind (m ρ) fun f => match f with
  | .nx ρ' => n ρ'
  | .rt d => M.pure (.rt d)
  | .rl d => M.pure (.rl d)
  | .bk ρ' => M.pure (.bk ρ')
  | .ct ρ' => M.pure (.ct ρ')
  | .ex ρ' k ks ds => M.pure (.ex ρ' k ks ds)
def mDrop (m : ME) : MS := fun ρ => M.bind (m ρ) fun _ => M.pure (.nx ρ)
def mRet (m : ME) : MS := fun ρ => M.bind (m ρ) fun d => M.pure (.rt d)
def mIfS (t : MT) (m n : MS) : MS := fun ρ => M.bind (t ρ) fun b => if b = true then m ρ else n ρ
def mSet (i : Nat) (m : ME) : MS := fun ρ => M.bind (m ρ) fun d => M.pure (.nx (ρ.set i (.sh d)))
def mSetO (i : Nat) (m : MA) : MS := fun ρ => M.bind (m ρ) fun ds => M.pure (.nx (ρ.set i (.ow ds)))
def mStuck : MS := fun _ => lft none
section
variable {X : Cx} {c : Cf} {pos : Pos} {st : Stmt} {rest : List Stmt} {e : Expr} {m n : MS} {me : ME} {ml : MA} {t : MT}
theorem flowO.split {F : Hp} {Dn : Ends} {u : PuS} {ρ : Env} (h : flowO c F Dn (mSeq m n ρ u)) : flowO c F { Dn with nx := rdS c n Dn } (m ρ u) := by
  unfold mSeq M.bind at h
  cases e : m ρ u with
  | none => rw [e] at h; exact h
  | some x =>
    obtain ⟨f, u1⟩ := x
    rw [e] at h
    cases f with
    | nx ρ1 =>
      intro σ' F' H' sm S'
      have h2 : flowO c F Dn (n ρ1 u1) := h
      refine ⟨F', u1, ρ1, S', ?_⟩
      cases e2 : n ρ1 u1 with
      | none => rw [e2] at h2; exact h2
      | some y =>
        obtain ⟨f2, u2⟩ := y
        rw [e2] at h2
        cases f2 with
        | nx ρ2 => exact fun σ2 F2 H2 s2 => h2 σ2 F2 H2 (sm.trans s2)
        | bk ρ2 => exact fun σ2 F2 H2 s2 => h2 σ2 F2 H2 (sm.trans s2)
        | ct ρ2 => exact fun σ2 F2 H2 s2 => h2 σ2 F2 H2 (sm.trans s2)
        | ex ρ2 k ks ds => exact fun σ2 F2 H2 cls od s2 => h2 σ2 F2 H2 cls od (sm.trans s2)
        | rt d => exact h2
        | rl d => exact h2
    | rt d => exact h
    | rl d => exact h
    | bk ρ1 => exact h
    | ct ρ1 => exact h
    | ex ρ1 k ks ds => exact h
theorem dBnil : DB X c [] mNext := pss_nil.imp fun Dn σ H ⟨F, u, ρ, S, h⟩ => h σ F H (Same.refl F) S
theorem dBcons (h1 : DS X c st m) (h2 : DB X c rest n) : DB X c (st :: rest) (mSeq m n) := (pss_cons h1 h2).imp fun Dn σ H ⟨F, u, ρ, S, h⟩ => ⟨F, u, ρ, S, h.split⟩
theorem dBone (h1 : DS X c st m) : DB X c [st] m := pss_one h1
theorem dNever : DS X c st mStuck := ps_never.imp fun Dn σ H ⟨F, u, ρ, S, h⟩ => h
/-- an expression's end, from a statement's -/
theorem flowO.after {α : Type} {F H : Hp} {Dn : Ends} {u : PuS} {ρ : Env} {σ : L2.St} {k : M α} {f : α → M Fl} (S : Sta c u F H σ ρ) (h : flowO c F Dn (M.bind k f u)) :
    After c.p F H (k u) fun a u1 F1 H1 => Sta c u1 F1 H1 σ ρ ∧ flowO c F1 Dn (f a u1) := by
  unfold M.bind at h
  cases e : k u with
  | none => rw [e] at h; exact h
  | some x =>
    obtain ⟨a, u1⟩ := x
    rw [e] at h
    intro F1 H1 s g
    refine ⟨S.step s g, ?_⟩
    have h2 : flowO c F Dn (f a u1) := h
    cases e2 : f a u1 with
    | none => rw [e2] at h2; exact h2
    | some y =>
      obtain ⟨f2, u2⟩ := y
      rw [e2] at h2
      cases f2 with
      | nx ρ2 => exact fun σ2 F2 H2 s2 => h2 σ2 F2 H2 (s.ef.trans s2)
      | bk ρ2 => exact fun σ2 F2 H2 s2 => h2 σ2 F2 H2 (s.ef.trans s2)
      | ct ρ2 => exact fun σ2 F2 H2 s2 => h2 σ2 F2 H2 (s.ef.trans s2)
      | ex ρ2 k ks ds => exact fun σ2 F2 H2 cls od s2 => h2 σ2 F2 H2 cls od (s.ef.trans s2)
      | rt d => exact h2
      | rl d => exact h2
theorem dExpr (he : DE X c e me) (hs : swapsWith e none pos.line X.env = pure false := by rfl) : DS X c (.Expr e pos) (mDrop me) :=
  (ps_expr he hs).imp fun Dn σ H ⟨F, u, ρ, S, h⟩ => ⟨F, u, ρ, S, (flowO.after S h).imp fun d u1 F1 H1 _ s1 g1 h1 v rv => h1.2 σ F1 H1 (Same.refl _) h1.1⟩
theorem dRet (he : DE X c e me) : DS X c (.Return (some e) pos) (mRet me) :=
  (ps_ret he).imp fun Dn σ H ⟨F, u, ρ, S, h⟩ => ⟨F, u, ρ, S, (flowO.after S h).imp fun d u1 F1 H1 _ s1 g1 h1 v rv => h1.2 v F1 H1 h1.1.ent g1 rv⟩
theorem dIfS {k : Expr} {a b : List Stmt} (hk : DT X c k t) (ha : DB X c a m) (hb : DB X c b n) : DS X c (.If k a b pos) (mIfS t m n) :=
  (ps_if hk ha hb).imp fun Dn σ H ⟨F, u, ρ, S, h⟩ => ⟨F, u, ρ, S, (flowO.after S h).imp fun b u1 F1 H1 _ s1 g1 h1 => by
    cases b with
    | true => exact ⟨F1, u1, ρ, h1.1, h1.2⟩
    | false => exact ⟨F1, u1, ρ, h1.1, h1.2⟩⟩
theorem dSet {i : Nat} {x : Str} {pos' : Pos} (hN : X.N.Nodup) (hi : X.N[i]? = some x) (hx : Loc X.env.scope x) (he : DE X c e me) (hs : swapsWith e (some (.Name x pos')) pos.line X.env = pure false := by rfl)
    (hf : X.fn x = true ∨ X.env.scope.names.lookup x = some .local := by first | exact .inl rfl | exact .inr rfl | assumption) : DS X c (.Assign [.Name x pos'] e pos) (mSet i me) :=
  (ps_set hN hi hx he hs hf).imp fun Dn σ H ⟨F, u, ρ, S, h⟩ => ⟨F, u, ρ, S, (flowO.after S h).imp fun d u1 F1 H1 _ s1 g1 h1 v rv => h1.2 _ F1 H1 (Same.refl _) (h1.1.set rv)⟩
theorem dSetO {i : Nat} {x : Str} {pos' : Pos} (hN : X.N.Nodup) (hi : X.N[i]? = some x) (hx : Loc X.env.scope x) (he : DL X c e ml) (hs : swapsWith e (some (.Name x pos')) pos.line X.env = pure false := by rfl)
    (hf : X.fn x = true ∨ X.env.scope.names.lookup x = some .local := by first | exact .inl rfl | exact .inr rfl | assumption) : DS X c (.Assign [.Name x pos'] e pos) (mSetO i ml) :=
  (ps_set hN hi hx he hs hf).imp fun Dn σ H ⟨F, u, ρ, S, h⟩ => ⟨F, u, ρ, S, (flowO.after S h).imp fun d u1 F1 H1 _ s1 g1 h1 q vs hF hn h3 r => h1.2 _ F1 H1 (Same.refl _) (S.setO s1 g1 hF hn h3 r)⟩
end

/-! ### targets -/
def mGn (i : Nat) : MG := fun d ρ => some (ρ.set i (.sh d))
def mGnil : List D → Env → Option Env := fun ds ρ => match ds with
  | [] => some ρ
  | _ => none
def mGcons (g : MG) (gs : List D → Env → Option Env) : List D → Env → Option Env := fun ds ρ => match ds with
  | d :: r => (g d ρ).bind fun ρ' => gs r ρ'
  | [] => none
def mGt (n : Nat) (gs : List D → Env → Option Env) : MG := fun d ρ => match d with
  | .tup ds => if ds.length = n then gs ds ρ else none
  | _ => none
def mAsg (m : ME) (g : MG) : MS := fun ρ => M.bind (m ρ) fun d => lft ((g d ρ).map Fl.nx)
abbrev DG (X : Cx) (c : Cf) (e : Expr) (is : List Nat) (g : MG) : Prop := PG X e (rdG c is g)
abbrev DGs (X : Cx) (c : Cf) (e : List Expr) (is : List Nat) (g : List D → Env → Option Env) : Prop := PGs X e (rdGs c is g)
section
variable {X : Cx} {c : Cf} {pos : Pos} {e : Expr} {es : List Expr} {g : MG} {gs : List D → Env → Option Env} {is js : List Nat}
theorem Agr.refl {σ : L2.St} : Agr is σ σ := ⟨rfl, fun _ _ => rfl⟩
theorem Agr.trans {σ σ1 σ2 : L2.St} (a : Agr is σ σ1) (b : Agr js σ1 σ2) : Agr (is ++ js) σ σ2 :=
  ⟨b.1.trans a.1, fun j hj => (b.2 j fun z => hj (List.mem_append_right _ z)).trans (a.2 j fun z => hj (List.mem_append_left _ z))⟩
theorem Agr.set {σ : L2.St} {i : Nat} {x : Option V} : Agr [i] σ (σ.set i x) := ⟨by simp, fun j hj => List.getElem?_set_ne (fun z => hj (by simp [z]))⟩
theorem dGn {i : Nat} {x : Str} (hN : X.N.Nodup) (hi : X.N[i]? = some x) (hx : Loc X.env.scope x) (hf : X.fn x = true ∨ X.env.scope.names.lookup x = some .local := by first | exact .inl rfl | exact .inr rfl | assumption) : DG X c (.Name x pos) [i] (mGn i) :=
  (pg_name hN hi hx hf).imp fun v σ H Q ⟨F, u, ρ, d, S, r, h⟩ => h _ (S.set r) Agr.set
theorem dGnil : DGs X c [] [] mGnil := pgs_nil.imp fun vs σ H Q ⟨F, u, ρ, ds, S, r, h⟩ => by
  cases ds with
  | nil => exact ⟨r.none, h σ S Agr.refl⟩
  | cons d ds => exact False.elim h
theorem dGcons (h1 : DG X c e is g) (h2 : DGs X c es js gs) (hs : (assignEach (e :: es) X.env).map (·.2) = assign e X.env :: (assignEach es X.env).map (·.2) := by rfl) : DGs X c (e :: es) (is ++ js) (mGcons g gs) :=
  (pgs_cons h1 h2 hs).imp fun vs σ H Q ⟨F, u, ρ, ds, S, r, h⟩ => by
    cases ds with
    | nil => exact False.elim h
    | cons d ds =>
      obtain ⟨v, vr, rfl, r1, r2⟩ := r.uncons
      refine ⟨v, vr, rfl, F, u, ρ, d, S, r1, ?_⟩
      have h' : match (g d ρ).bind fun ρ' => gs ds ρ' with
        | some ρ' => ∀ σ', Sta c u F H σ' ρ' → Agr (is ++ js) σ σ' → Q σ' H
        | none => False := h
      cases e1 : g d ρ with
      | none => rw [e1] at h'; exact h'
      | some ρ1 =>
        rw [e1] at h'
        intro σ1 S1 a1
        refine ⟨F, u, ρ1, ds, S1, r2, ?_⟩
        have h3 : match gs ds ρ1 with
          | some ρ' => ∀ σ', Sta c u F H σ' ρ' → Agr (is ++ js) σ σ' → Q σ' H
          | none => False := h'
        cases e2 : gs ds ρ1 with
        | none => rw [e2] at h3; exact h3
        | some ρ2 =>
          rw [e2] at h3
          exact fun σ2 S2 a2 => h3 σ2 S2 (a1.trans a2)
theorem dGt {k n : Nat} (hc : X.calm = true) (h : DGs X c es is gs) (hn : (assignEach es X.env).length = n := by rfl) (hst : (assignEach es X.env).findIdx? (·.1) = none := by rfl) (hK : X.K = c.W.K := by rfl) : DG X c (.Tuple es k pos) is (mGt n gs) :=
  (pg_tup hc h hn hst).imp fun v σ H Q ⟨F, u, ρ, d, S, r, h⟩ => by
    cases d with
    | tup ds =>
      obtain ⟨a, vs, rfl, ht, rs⟩ := r.tup_
      have h' : match (if ds.length = n then gs ds ρ else none) with
        | some ρ' => ∀ σ', Sta c u F H σ' ρ' → Agr is σ σ' → Q σ' H
        | none => False := h
      by_cases hl : ds.length = n
      · rw [if_pos hl] at h'
        exact ⟨a, vs, rfl, by rw [hK]; exact sq_t S.gd.ex ht, rs.1.trans hl, F, u, ρ, ds, S, rs, h'⟩
      · rw [if_neg hl] at h'; exact False.elim h'
    | _ => exact False.elim h
theorem dAsg {tg : Expr} {me : ME} (he : DE X c e me) (hg : DG X c tg is g) (hs : swapsWithSole [tg] e pos.line X.env = pure false := by rfl) (hw : swappedStores [tg] e X.env = pure none := by rfl)
    (h1 : (assignEach [tg] X.env).map (·.2) = [assign tg X.env] := by rfl) : DS X c (.Assign [tg] e pos) (mAsg me g) :=
  (ps_asg he hg hs hw h1).imp fun Dn σ H ⟨F, u, ρ, S, h⟩ => ⟨F, u, ρ, S, (flowO.after S h).imp fun d u1 F1 H1 _ s1 g1 h1 v rv => by
    refine ⟨F1, u1, ρ, d, h1.1, rv, ?_⟩
    have h2 := h1.2
    cases e1 : g d ρ with
    | none => rw [e1] at h2; exact h2
    | some ρ1 =>
      rw [e1] at h2
      exact fun σ' S' _ => h2 σ' F1 H1 (Same.refl _) S'⟩
end

/-! ### augmented assignment to a name -/
def IpM (W : Wo) (r : TIp) (f : D → D → Option D) : Prop := OpM W r f
def mAug (i : Nat) (f : D → D → Option D) (m : ME) : MS := fun ρ => M.bind (lft (vSh ρ i)) fun x => M.bind (m ρ) fun y => M.bind (lft (f x y)) fun z => M.pure (.nx (ρ.set i (.sh z)))
section
variable {X : Cx} {c : Cf} {pos : Pos} {e : Expr} {me : ME}
theorem flowO.lft {α : Type} {F H : Hp} {Dn : Ends} {u : PuS} {ρ : Env} {σ : L2.St} {o : Option α} {f : α → M Fl} (S : Sta c u F H σ ρ) (h : flowO c F Dn (M.bind (Mi.lft o) f u)) : ∃ a, o = some a ∧ flowO c F Dn (f a u) := by
  cases o with
  | none => exact False.elim h
  | some a => exact ⟨a, rfl, h⟩
theorem dAug {i : Nat} {x : Str} {op : Operator} {ti : TIp} {f : D → D → Option D} {pos' : Pos} (hm : IpM c.W ti f) (ho : PIp X op ti) (hN : X.N.Nodup) (hi : X.N[i]? = some x) (hx : Loc X.env.scope x) (he : DE X c e me)
    (hf : X.fn x = true ∨ X.env.scope.names.lookup x = some .local := by first | exact .inl rfl | exact .inr rfl | assumption) : DS X c (.AugAssign (.Name x pos') op e pos) (mAug i f me) :=
  (ps_aug hN hi hx he ho hf).imp fun Dn σ H ⟨F, u, ρ, S, h⟩ => by
    obtain ⟨x0, e0, h⟩ := flowO.lft S h
    obtain ⟨v0, e1, r0⟩ := S.var e0
    refine ⟨v0, e1, F, u, ρ, S, (flowO.after S h).imp fun y u1 F1 H1 _ s1 g1 h1 w rw => ?_⟩
    refine hm c.p F1 H1 u1 v0 w x0 y _ g1 (r0.mono s1.ef) rw ((flowO.after h1.1 h1.2).imp fun z u2 F2 H2 _ s2 g2 h2 v rv => ?_)
    exact h2.2 _ F2 H2 (Same.refl _) (h2.1.set rv)
end

/-! ### loops -/
def loopD (g : MG) (mb : MS) : List D → Env → M Fl
  | [], ρ => M.pure (.nx ρ)
  | d :: ds, ρ => M.bind (lft (g d ρ)) fun ρ1 => M.bind (mb ρ1) fun f => match f with
    | .nx ρ2 => loopD g mb ds ρ2
    | .ct ρ2 => loopD g mb ds ρ2
    | .bk ρ2 => M.pure (.nx ρ2)
    | .rt d => M.pure (.rt d)
    | .rl d => M.pure (.rl d)
    | .ex ρ2 k ks ds => M.pure (.ex ρ2 k ks ds)
def mFor (mi : MA) (g : MG) (mb : MS) : MS := fun ρ => M.bind (mi ρ) fun ds => loopD g mb ds ρ
def loopW (t : MT) (mb : MS) : Nat → Env → M Fl
  | 0, _ => lft none
  | n + 1, ρ => M.bind (t ρ) fun b => if b = true then M.bind (mb ρ) fun f => match f with
    | .nx ρ2 => loopW t mb n ρ2
    | .ct ρ2 => loopW t mb n ρ2
    | .bk ρ2 => M.pure (.nx ρ2)
    | .rt d => M.pure (.rt d)
    | .rl d => M.pure (.rl d)
    | .ex ρ2 k ks ds => M.pure (.ex ρ2 k ks ds)
    else M.pure (.nx ρ)
def mWhile (n : Nat) (t : MT) (mb : MS) : MS := fun ρ => loopW t mb n ρ
abbrev DI (X : Cx) (c : Cf) (tg e : Expr) (m : MA) : Prop := PI X tg e (rdI c m)
section
variable {X : Cx} {c : Cf} {pos : Pos} {tg iter : Expr} {body : List Stmt} {mi : MA} {g : MG} {mb : MS} {is : List Nat}
theorem flowO.mono {F F' : Hp} {Dn : Ends} {r : Option (Fl × PuS)} (e : Same F F') (h : flowO c F Dn r) : flowO c F' Dn r := by
  cases r with
  | none => exact h
  | some x =>
    obtain ⟨f, u⟩ := x
    cases f with
    | nx ρ2 => exact fun σ2 F2 H2 s2 => h σ2 F2 H2 (e.trans s2)
    | bk ρ2 => exact fun σ2 F2 H2 s2 => h σ2 F2 H2 (e.trans s2)
    | ct ρ2 => exact fun σ2 F2 H2 s2 => h σ2 F2 H2 (e.trans s2)
    | ex ρ2 k ks ds => exact fun σ2 F2 H2 cls od s2 => h σ2 F2 H2 cls od (e.trans s2)
    | rt d => exact h
    | rl d => exact h
theorem dFor (hp : PassesOwn (model X.prog X.w) X.A X.env X.xe) (hc : X.calm = true) (hi : DI X c tg iter mi) (hg : DG X c tg is g) (hb : DB X c body mb) (hs : ∀ x, foldedSetIterable iter X.env x = pure x := by intro _; rfl) : DS X c (.For tg iter body [] pos) (mFor mi g mb) :=
  (ps_for hp hc hi hg hb hs).imp fun Dn σ H ⟨F, u, ρ, S, h⟩ => ⟨F, u, ρ, S, (flowO.after S h).imp fun ds u1 F1 H1 _ s1 g1 h1 J hJ => by
    obtain ⟨G, Y, w, hG, hY⟩ := hJ
    refine for_it w (fun i σ H => ∃ F' u' ρ', Same F1 F' ∧ Sta c u' F' H σ ρ' ∧ flowO c F' Dn (loopD g mb (ds.drop i) ρ' u')) ⟨F1, u1, ρ, Same.refl _, h1.1, by simpa using h1.2⟩
      (fun i σ H _ ⟨F', u', ρ', e, S', _⟩ => hG H (e.trans S'.gd.ex)) (fun i x σ H H' hi ⟨F', u', ρ', e, S', hf⟩ hy => ?_) (fun σ H ⟨F', u', ρ', e, S', hf⟩ => ?_)
    · have hd : ds[i]? = some ds[i] := List.getElem?_eq_getElem hi
      obtain ⟨F3, s3, g3, r3⟩ := hY i H x H' F' u' _ hd e S'.gd hy
      rw [List.drop_eq_getElem_cons hi] at hf
      unfold loopD at hf
      obtain ⟨ρ1, e1, hf⟩ := flowO.lft S' hf
      have S3 := S'.step s3 g3
      refine ⟨F3, u', ρ', ds[i], S3, r3, ?_⟩
      rw [e1]
      intro σ1 S1 _
      refine ⟨F3, u', ρ1, S1, ?_⟩
      have hf3 := hf.mono s3.ef
      unfold M.bind at hf3
      cases e2 : mb ρ1 u' with
      | none => rw [e2] at hf3; exact hf3
      | some y =>
        obtain ⟨f2, u2⟩ := y
        rw [e2] at hf3
        cases f2 with
        | nx ρ2 => exact fun σ2 F2 H2 sm S2 => ⟨F2, u2, ρ2, (e.trans s3.ef).trans sm, S2, flowO.mono sm hf3⟩
        | ct ρ2 => exact fun σ2 F2 H2 sm S2 => ⟨F2, u2, ρ2, (e.trans s3.ef).trans sm, S2, flowO.mono sm hf3⟩
        | bk ρ2 => exact fun σ2 F2 H2 sm S2 => hf3 σ2 F2 H2 sm S2
        | ex ρ2 k ks ds => exact fun σ2 F2 H2 cls od sm S2 => hf3 σ2 F2 H2 cls od sm S2
        | rt d => exact hf3
        | rl d => exact hf3
    · rw [List.drop_eq_nil_of_le (Nat.le_refl _)] at hf
      exact hf σ F' H (Same.refl _) S'⟩
theorem dWhile {k : Expr} {t : MT} (n : Nat) (hp : PassesOwn (model X.prog X.w) X.A X.env X.xe) (hk : DT X c k t) (hb : DB X c body mb) : DS X c (.While k body [] pos) (mWhile n t mb) :=
  (ps_while hp hk hb).imp fun Dn σ H ⟨F, u, ρ, S, h⟩ => by
    refine ⟨fun m σ H => ∃ F u ρ, Sta c u F H σ ρ ∧ flowO c F Dn (loopW t mb m ρ u), ⟨n, F, u, ρ, S, h⟩, fun m σ H ⟨F, u, ρ, S, h⟩ => ?_⟩
    cases m with
    | zero => exact False.elim h
    | succ m =>
      unfold loopW at h
      refine ⟨F, u, ρ, S, (flowO.after S h).imp fun b u1 F1 H1 _ s1 g1 h1 => ?_⟩
      cases b with
      | false => exact h1.2 σ F1 H1 (Same.refl _) h1.1
      | true =>
        refine ⟨fun σ' H' => ∃ F u ρ, Sta c u F H' σ' ρ ∧ flowO c F Dn (loopW t mb m ρ u), fun σ' H' z => ⟨m, Nat.lt_succ_self _, z⟩, F1, u1, ρ, h1.1, ?_⟩
        have hf3 : flowO c F1 Dn (M.bind (mb ρ) (fun f => match f with
          | .nx ρ2 => loopW t mb m ρ2
          | .ct ρ2 => loopW t mb m ρ2
          | .bk ρ2 => M.pure (.nx ρ2)
          | .rt d => M.pure (.rt d)
          | .rl d => M.pure (.rl d)
          | .ex ρ2 k ks ds => M.pure (.ex ρ2 k ks ds)) u1) := h1.2
        unfold M.bind at hf3
        cases e2 : mb ρ u1 with
        | none => rw [e2] at hf3; exact hf3
        | some y =>
          obtain ⟨f2, u2⟩ := y
          rw [e2] at hf3
          cases f2 with
          | nx ρ2 => exact fun σ2 F2 H2 sm S2 => ⟨F2, u2, ρ2, S2, flowO.mono sm hf3⟩
          | ct ρ2 => exact fun σ2 F2 H2 sm S2 => ⟨F2, u2, ρ2, S2, flowO.mono sm hf3⟩
          | bk ρ2 => exact fun σ2 F2 H2 sm S2 => hf3 σ2 F2 H2 sm S2
          | ex ρ2 k ks ds => exact fun σ2 F2 H2 cls od sm S2 => hf3 σ2 F2 H2 cls od sm S2
          | rt d => exact hf3
          | rl d => exact hf3
end
end Mi

set_option Elab.async false
set_option linter.all false
set_option maxRecDepth 100000
set_option maxHeartbeats 2000000
/-! Mi3: what is walked, comprehensions, owned lists, calls, classes, a def's promise. -/
namespace Mi
open PySem PySem.Spec PyProof.Rows L2
variable [TB : Tabl]

/-! ### what is walked -/
section
variable {W : Wo} {p : Addr} {F : Hp}
theorem walkD_at {J : It} {G : Hp → Prop} {vs : List V} {ds : List D} (w : Walk J vs.length G (YAt vs)) (hG : ∀ H, Same F H → G H) (r : Reps W p F vs ds) : WalkD W p J F ds := by
  refine ⟨G, YAt vs, by rw [← r.1]; exact w, hG, fun i H x H' F2 u d hd e g hy => ?_⟩
  obtain ⟨rfl, hx⟩ := hy
  exact ⟨F2, Stp.refl, g, (r.2 i x d hx hd).mono e⟩
theorem walkD_list {a : Addr} {vs : List V} {ds : List D} (h : F a = some (.lst vs)) (r : Reps W p F vs ds) : WalkD W p (Itl W.K a) F ds := walkD_at walk_list (fun H e => SqL.of (e _ _ h)) r
theorem walkD_tup {a : Addr} {vs : List V} {ds : List D} (h : SqT W.K F a vs) (r : Reps W p F vs ds) : WalkD W p (Itt W.K a) F ds := walkD_at walk_tup (fun H e => sq_t e h) r
def rngD (lo : Int) (n : Nat) : List D := (List.range n).map fun i => .int (lo + (i : Nat))
theorem rngD_len (lo : Int) (n : Nat) : (rngD lo n).length = n := by simp [rngD]
theorem rngD_at {lo : Int} {n i : Nat} {d : D} (h : (rngD lo n)[i]? = some d) : d = .int (lo + (i : Nat)) := by
  unfold rngD at h
  rw [List.getElem?_map] at h
  by_cases hi : i < n
  · rw [List.getElem?_range hi] at h
    exact (Option.some.inj h).symm
  · rw [List.getElem?_eq_none (by simpa using hi)] at h; cases h
theorem walkD_range {lo : Int} {n : Nat} : WalkD W p (Itr lo n) F (rngD lo n) := by
  refine ⟨_, _, by rw [rngD_len]; exact walk_range, fun _ _ => trivial, fun i H x H' F2 u d hd e g hy => ?_⟩
  obtain ⟨rfl, rfl⟩ := hy
  exact ⟨F2, Stp.refl, g, by rw [rngD_at hd]; exact .int _⟩
/-- pairs of the items of two walks -/
theorem walkD_pair {J : It} {n : Nat} {G : Hp → Prop} {xs ys : Nat → Option V} {ds : List D} (hn : ds.length = n) (w : Walk J n G (YPair xs ys)) (hG : ∀ H, Same F H → G H)
    (r : ∀ i x y d, xs i = some x → ys i = some y → ds[i]? = some d → ∃ a b, d = .tup [a, b] ∧ Rep W p F x a ∧ Rep W p F y b) : WalkD W p J F ds := by
  refine ⟨G, _, by rw [hn]; exact w, hG, fun i H x H' F2 u d hd e g hy => ?_⟩
  obtain ⟨T, x1, y1, rfl, hT, rfl, hx, hy⟩ := hy
  obtain ⟨a, b, rfl, ra, rb⟩ := r i x1 y1 d hx hy hd
  have e2 := e.trans (Stp.new (o := .tup [x1, y1]) g hT).ef
  exact ⟨_, Stp.new g hT, g.new hT, Rep.mkT upd_same (Reps.cons (ra.mono e2) (Reps.cons (rb.mono e2) Reps.nil))⟩
end
def mIseq (m : ME) : MA := fun ρ => M.bind (m ρ) fun d => lft (match d with
  | .lst ds => some ds
  | _ => none)
def mItup (m : ME) : MA := fun ρ => M.bind (m ρ) fun d => lft (match d with
  | .tup ds => some ds
  | _ => none)
def rng1 : List D → Option (List D) := fun ds => match ds with
  | [.int j] => if -100000 ≤ j ∧ j ≤ 100000 then some (rngD 0 j.toNat) else none
  | _ => none
def rng2 : List D → Option (List D) := fun ds => match ds with
  | [.int i, .int j] => if (-100000 ≤ i ∧ i ≤ 100000) ∧ -100000 ≤ j ∧ j ≤ 100000 then some (rngD i (j - i).toNat) else none
  | _ => none
def mIof (f : List D → Option (List D)) (ms : MA) : MA := fun ρ => M.bind (ms ρ) fun ds => lft (f ds)
def zipD : List D → List D → List D := fun xs ys => (xs.zip ys).map fun q => .tup [q.1, q.2]
def enumD (xs : List D) : List D := xs.mapIdx fun i d => .tup [.int (i : Nat), d]
def enum1 : List D → Option (List D) := fun ds => match ds with
  | [.lst xs] => some (enumD xs)
  | _ => none
theorem zipD_at {xs ys : List D} {i : Nat} {d : D} (h : (zipD xs ys)[i]? = some d) : ∃ x y, xs[i]? = some x ∧ ys[i]? = some y ∧ d = .tup [x, y] := by
  unfold zipD at h
  rw [List.getElem?_map] at h
  cases e : (xs.zip ys)[i]? with
  | none => rw [e] at h; cases h
  | some q =>
    rw [e] at h
    obtain ⟨h1, h2⟩ := List.getElem?_zip_eq_some.mp e
    exact ⟨q.1, q.2, h1, h2, (Option.some.inj h).symm⟩
theorem enumD_at {xs : List D} {i : Nat} {d : D} (h : (enumD xs)[i]? = some d) : ∃ x, xs[i]? = some x ∧ d = .tup [.int (i : Nat), x] := by
  unfold enumD at h
  rw [List.getElem?_mapIdx] at h
  cases e : xs[i]? with
  | none => rw [e] at h; cases h
  | some q =>
    rw [e] at h
    exact ⟨q, rfl, (Option.some.inj h).symm⟩
theorem enumD_len (xs : List D) : (enumD xs).length = xs.length := by simp [enumD]
theorem zipD_len (xs ys : List D) : (zipD xs ys).length = min xs.length ys.length := by simp [zipD]
section
variable {X : Cx} {c : Cf} {tg e a b : Expr} {m : ME} {ms : MA} {pos q : Pos}
theorem dIlist (h : DE X c e m) (hK : X.K = c.W.K := by rfl) : DI X c tg e (mIseq m) :=
  (pi_list h).imp fun σ H R ⟨F, u, ρ, S, h⟩ => ⟨F, u, ρ, S, (After.split h).imp fun d u1 F1 H1 _ s1 g1 h1 v rv => by
    obtain ⟨ds, e1, h2⟩ := lft_some h1
    cases d with
    | lst es =>
      cases e1
      obtain ⟨a, vs, rfl, ha, rs⟩ := rv.lst_
      exact ⟨a, rfl, ⟨vs, SqL.of (g1.ex _ _ ha)⟩, by rw [hK]; exact After.now g1 h2 _ (walkD_list ha rs)⟩
    | _ => cases e1⟩
theorem dItup (h : DE X c e m) (hK : X.K = c.W.K := by rfl) : DI X c tg e (mItup m) :=
  (pi_tup h).imp fun σ H R ⟨F, u, ρ, S, h⟩ => ⟨F, u, ρ, S, (After.split h).imp fun d u1 F1 H1 _ s1 g1 h1 v rv => by
    obtain ⟨ds, e1, h2⟩ := lft_some h1
    cases d with
    | tup es =>
      cases e1
      obtain ⟨a, vs, rfl, ha, rs⟩ := rv.tup_
      exact ⟨a, rfl, ⟨vs, by rw [hK]; exact sq_t g1.ex ha⟩, by rw [hK]; exact After.now g1 h2 _ (walkD_tup ha rs)⟩
    | _ => cases e1⟩
theorem dIrng1 (hg : Gl X "range") (hm : X.mg "range" = none) (ha : DA X c [a] ms) (hs : starEach [a] X.env = [(false, eval a X.env)] := by rfl) : DI X c tg (.Call (.Name "range" q) [a] [] pos) (mIof rng1 ms) :=
  (pi_range1 hg hm ha hs).imp fun σ H R ⟨F, u, ρ, S, h⟩ => ⟨F, u, ρ, S, (After.split h).imp fun ds u1 F1 H1 _ s1 g1 h1 vs rv => by
    obtain ⟨es, e1, h2⟩ := lft_some h1
    unfold rng1 at e1
    split at e1
    · rename_i j _h
      split at e1
      · rename_i hj
        cases e1
        obtain ⟨v, vr, rfl, r1, r2⟩ := rv.uncons
        rw [r2.none, r1.int_]
        exact ⟨j, rfl, by omega, by omega, After.now g1 h2 _ walkD_range⟩
      · cases e1
    · cases e1⟩
theorem dIrng2 (hg : Gl X "range") (hm : X.mg "range" = none) (ha : DA X c [a, b] ms) (hs : starEach [a, b] X.env = [(false, eval a X.env), (false, eval b X.env)] := by rfl) (hs2 : starEach [b] X.env = [(false, eval b X.env)] := by rfl) :
    DI X c tg (.Call (.Name "range" q) [a, b] [] pos) (mIof rng2 ms) :=
  (pi_range2 hg hm ha hs hs2).imp fun σ H R ⟨F, u, ρ, S, h⟩ => ⟨F, u, ρ, S, (After.split h).imp fun ds u1 F1 H1 _ s1 g1 h1 vs rv => by
    obtain ⟨es, e1, h2⟩ := lft_some h1
    unfold rng2 at e1
    split at e1
    · rename_i i j _h
      split at e1
      · rename_i hj
        cases e1
        obtain ⟨v, vr, rfl, r1, r2⟩ := rv.uncons
        obtain ⟨w, wr, rfl, r3, r4⟩ := r2.uncons
        rw [r4.none, r1.int_, r3.int_]
        exact ⟨i, j, rfl, ⟨by omega, by omega, by omega, by omega⟩, After.now g1 h2 _ walkD_range⟩
      · cases e1
    · cases e1⟩
theorem dIenum {elts : List Expr} {kk : Nat} {tpos : Pos} (hg : Gl X "enumerate") (hm : X.mg "enumerate" = none) (ha : DA X c [a] ms) (hs : starEach [a] X.env = [(false, eval a X.env)] := by rfl) (hK : X.K = c.W.K := by rfl) :
    DI X c (.Tuple elts kk tpos) (.Call (.Name "enumerate" q) [a] [] pos) (mIof enum1 ms) :=
  (pi_enum hg hm ha hs).imp fun σ H R ⟨F, u, ρ, S, h⟩ => ⟨F, u, ρ, S, (After.split h).imp fun ds u1 F1 H1 _ s1 g1 h1 vs rv => by
    obtain ⟨es, e1, h2⟩ := lft_some h1
    unfold enum1 at e1
    split at e1
    · rename_i xs _h
      cases e1
      obtain ⟨v, vr, rfl, r1, r2⟩ := rv.uncons
      rw [r2.none]
      obtain ⟨p1, v1, rfl, f1, q1⟩ := r1.lst_
      refine ⟨p1, v1, rfl, SqL.of (g1.ex _ _ f1), After.now g1 h2 _ ?_⟩
      rw [hK]
      refine walkD_pair (n := v1.length) (by rw [enumD_len, q1.1]) walk_enum (fun H e => SqL.of (e _ _ f1)) fun i x y d hx hy hd => ?_
      obtain ⟨y', e2, rfl⟩ := enumD_at hd
      cases hx
      exact ⟨_, y', rfl, .int _, q1.2 i y y' hy e2⟩
    · cases e1⟩
end

/-! ### comprehensions -/
def wipeE (ρ : Env) : List Nat → Env
  | [] => ρ
  | v :: vs => (wipeE ρ vs).set v .un
theorem wipe_get {σ : L2.St} {j : Nat} : ∀ {vs : List Nat}, j ∉ vs → (wipe σ vs)[j]? = σ[j]?
  | [], _ => rfl
  | v :: vs, h => by
    show ((wipe σ vs).set v none)[j]? = _
    rw [List.getElem?_set_ne (fun z => h (by simp [z])), wipe_get (fun z => h (List.mem_cons_of_mem _ z))]
theorem wipeE_len (ρ : Env) : ∀ vs : List Nat, (wipeE ρ vs).length = ρ.length
  | [] => rfl
  | v :: vs => by show ((wipeE ρ vs).set v .un).length = _; rw [List.length_set, wipeE_len ρ vs]
theorem wipeE_get {ρ : Env} {j : Nat} {s : Sd} : ∀ {vs : List Nat}, (wipeE ρ vs)[j]? = some s → s = .un ∨ (j ∉ vs ∧ ρ[j]? = some s)
  | [], h => .inr ⟨by simp, h⟩
  | v :: vs, h => by
    have h' : ((wipeE ρ vs).set v .un)[j]? = some s := h
    rcases set_get h' with ⟨_, e, _⟩ | ⟨ne, h2⟩
    · exact .inl e
    · rcases wipeE_get h2 with e | ⟨a, b⟩
      · exact .inl e
      · exact .inr ⟨fun z => (List.mem_cons.mp z).elim (fun q => ne q.symm) a, b⟩
theorem Sta.wipe {c : Cf} {u : PuS} {F H : Hp} {σ : L2.St} {ρ : Env} (S : Sta c u F H σ ρ) (vs : List Nat) : Sta c u F H (wipe σ vs) (wipeE ρ vs) := by
  refine ⟨S.ent, S.gd, by rw [wipe_length, wipeE_len]; exact S.env.len, fun i s e => ?_, fun i j s t h e1 e2 o1 o2 => ?_⟩
  · rcases wipeE_get e with rfl | ⟨hn, e⟩
    · trivial
    · rw [wipe_get hn]; exact S.env.at_ i s e
  · rcases wipeE_get e1 with rfl | ⟨n1, e1⟩
    · cases o1
    · rcases wipeE_get e2 with rfl | ⟨n2, e2⟩
      · cases o2
      · rw [wipe_get n1, wipe_get n2]; exact S.env.ne i j s t h e1 e2 o1 o2
theorem wipe_in {σ : L2.St} {j : Nat} : ∀ {vs : List Nat}, j ∈ vs → (wipe σ vs)[j]? = if j < σ.length then some none else none
  | [], h => by cases h
  | v :: vs, h => by
    show ((wipe σ vs).set v none)[j]? = _
    by_cases e : v = j
    · subst e
      rw [List.getElem?_set]
      simp [wipe_length]
    · rw [List.getElem?_set_ne e]
      exact wipe_in ((List.mem_cons.mp h).resolve_left fun z => e z.symm)
theorem wipe_agr {σ σ' : L2.St} {is vs : List Nat} (h : ∀ i ∈ is, i ∈ vs) (a : Agr is (wipe σ vs) σ') : wipe σ' vs = wipe σ vs := by
  apply List.ext_getElem?
  intro j
  have hl : σ'.length = σ.length := by rw [a.1, wipe_length]
  by_cases hj : j ∈ vs
  · rw [wipe_in hj, wipe_in hj, hl]
  · rw [wipe_get hj, a.2 j (fun z => hj (h j z))]
theorem bind_some {α β : Type} {m : M α} {f : α → M β} {u : PuS} {r : β × PuS} (h : M.bind m f u = some r) : ∃ a u1, m u = some (a, u1) ∧ f a u1 = some r := by
  unfold M.bind at h
  cases e : m u with
  | none => rw [e] at h; cases h
  | some x =>
    obtain ⟨a, u1⟩ := x
    rw [e] at h
    exact ⟨a, u1, rfl, h⟩
def lcD (g : MG) (mt : MT) (me : ME) (ρ : Env) : List D → M (List D)
  | [] => M.pure []
  | d :: ds => M.bind (lft (g d ρ)) fun ρ1 => M.bind (mt ρ1) fun b =>
    if b = true then M.bind (me ρ1) fun y => M.bind (lcD g mt me ρ ds) fun ys => M.pure (y :: ys) else lcD g mt me ρ ds
def mLcO (vs : List Nat) (mi : MA) (g : MG) (mt : MT) (me : ME) : MA := fun ρ => M.bind (mi ρ) fun ds => if ds.length ≤ 100000 then lcD g mt me (wipeE ρ vs) ds else lft none
/-- a fresh list, frozen -/
def mFz (m : MA) : ME := fun ρ => M.bind (m ρ) fun ds => M.pure (.lst ds)
theorem dFz {X : Cx} {c : Cf} {e : Expr} {m : MA} (h : DL X c e m) : DE X c e (mFz m) := h.imp fun σ H Q ⟨F, u, ρ, S, h⟩ => by
  refine ⟨F, u, ρ, S, ?_⟩
  have h' : After c.p F H (M.bind (m ρ) (fun ds => M.pure (.lst ds)) u) fun d _ F' H' => ∀ v, Rep c.W c.p F' v d → Q v H' := h
  unfold M.bind at h'
  cases e1 : m ρ u with
  | none => rw [e1] at h'; exact h'
  | some x =>
    obtain ⟨ds, u1⟩ := x
    rw [e1] at h'
    intro F1 H1 s1 g1 q ws hF hn hq r
    have h2 : After c.p F H (some (D.lst ds, u1)) (fun d _ F' H' => ∀ v, Rep c.W c.p F' v d → Q v H') := h'
    have hsm : Same F1 (upd F1 q (.lst ws)) := fun a o e => by rw [upd_ne (fun z => by rw [z, hF] at e; cases e)]; exact e
    have hpq : c.p ≠ q := fun z => S.gd.ne (z ▸ hn)
    refine h2 (upd F1 q (.lst ws)) H1 ⟨s1.ef.trans hsm, s1.eh, s1.et, fun a o e => ?_⟩ ⟨fun a o e => ?_, g1.pu, fun l e => by rw [upd_ne hpq]; exact g1.off l e, nt_upd g1.nt (by intro _ z; cases z), g1.tb, g1.hp⟩ (.ref q) (Rep.mkL upd_same (r.mono hsm))
    · by_cases ha : a = q
      · subst ha; exact .inr hn
      · rw [upd_ne ha] at e; exact s1.nw a o e
    · by_cases ha : a = q
      · subst ha; rw [upd_same] at e; cases e; exact hq
      · rw [upd_ne ha] at e; exact g1.ex a o e
def mYes : MT := fun _ => M.pure true
section
variable {c : Cf} {is vs : List Nat} {mi : MA} {g : MG} {mt : MT} {me : ME}
/-- the reading of a comprehension, from its mirror: the new list is handed over, not frozen -/
theorem rdLc (his : ∀ i ∈ is, i ∈ vs) (σ : L2.St) (H : Hp) (Q : VK) (F : Hp) (u : PuS) (ρ : Env) (S : Sta c u F H σ ρ)
    (h : After c.p F H (mLcO vs mi g mt me ρ u) fun ds _ F' H' => ∀ q ws, F' q = none → H q = none → H' q = some (.lst ws) → Reps c.W c.p F' ws ds → Q (.ref q) H') : tLc (rdI c mi) (rdG c is g) (rdT c mt) (rdE c me) vs σ H Q := by
  refine ⟨F, u, ρ, S, (After.split h).imp fun ds u1 F1 H1 _ s1 g1 h1 J hJ Dl hD => ?_⟩
  have S1 := S.step s1 g1
  by_cases hlen : ds.length ≤ 100000
  case neg => rw [if_neg hlen] at h1; exact False.elim h1
  rw [if_pos hlen] at h1
  obtain ⟨G, Y, w, hG, hY⟩ := hJ
  -- what is wanted at the end
  cases hr : lcD g mt me (wipeE ρ vs) ds u1 with
  | none => rw [hr] at h1; exact False.elim h1
  | some out =>
    obtain ⟨out, uf⟩ := out
    rw [hr] at h1
    refine lc_it w (fun i H' => ∃ F' u' done acc rest, Stp c.p F1 H1 F' H' ∧ Gd c.p u' F' H' ∧ F' Dl = none ∧ H' Dl = some (.lst acc) ∧ Reps c.W c.p F' acc done ∧ done.length ≤ i ∧
      lcD g mt me (wipeE ρ vs) (ds.drop i) u' = some (rest, uf) ∧ done ++ rest = out) ?_ ?_ ?_ ?_
    · exact ⟨F1, u1, [], [], out, Stp.own hD, g1.own hD, g1.fresh hD, upd_same, Reps.nil, Nat.le_refl _, by simpa using hr, rfl⟩
    · rintro i H' _ ⟨F', u', done, acc, rest, s', g', _⟩
      exact hG H' (s'.ef.trans g'.ex)
    · rintro i x H2 H3 hi ⟨F', u', done, acc, rest, s', g', hf, ha, ra, hl, hd, ho⟩ hy
      have hdi : ds[i]? = some ds[i] := List.getElem?_eq_getElem hi
      obtain ⟨F3, s3, g3, r3⟩ := hY i H2 x H3 F' u' _ hdi s'.ef g' hy
      rw [List.drop_eq_getElem_cons hi] at hd
      unfold lcD at hd
      have S3 : Sta c u' F3 H3 (wipe σ vs) (wipeE ρ vs) := ((S1.step s' g').step s3 g3).wipe vs
      refine ⟨F3, u', wipeE ρ vs, ds[i], S3, r3, ?_⟩
      cases eg : g ds[i] (wipeE ρ vs) with
      | none => rw [eg] at hd; cases hd
      | some ρ1 =>
        rw [eg] at hd
        intro σ2 S2 a2
        refine ⟨wipe_agr his a2, F3, u', ρ1, S2, ?_⟩
        have hd2 : M.bind (mt ρ1) (fun b => if b = true then M.bind (me ρ1) fun y => M.bind (lcD g mt me (wipeE ρ vs) (ds.drop (i + 1))) fun ys => M.pure (y :: ys) else lcD g mt me (wipeE ρ vs) (ds.drop (i + 1))) u' = some (rest, uf) := hd
        unfold M.bind at hd2
        have s13 := s'.trans g'.ne s3
        cases et : mt ρ1 u' with
        | none => rw [et] at hd2; cases hd2
        | some bt =>
          obtain ⟨bt, u2⟩ := bt
          rw [et] at hd2
          intro F4 H4 s4 g4
          have s14 := s13.trans g3.ne s4
          have hf4 : F4 Dl = none := s4.off (s3.off hf (by rw [ha]; simp)) (by rw [s3.eh Dl _ (fun z => g1.ne (z ▸ hD)) ha (.inr (by intro _ z; cases z))]; simp)
          have ha4 : H4 Dl = some (.lst acc) := s4.eh Dl _ (fun z => g1.ne (z ▸ hD)) (s3.eh Dl _ (fun z => g1.ne (z ▸ hD)) ha (.inr (by intro _ z; cases z))) (.inr (by intro _ z; cases z))
          have hpd : Dl ≠ c.p := fun z => g1.ne (z ▸ hD)
          cases bt with
          | false =>
            show ∃ F' u' done acc rest, _
            exact ⟨F4, u2, done, acc, rest, s14, g4, hf4, ha4, ra.mono (s3.ef.trans s4.ef), by omega, hd2, ho⟩
          | true =>
            show rdE c me σ2 H4 _
            refine ⟨F4, u2, ρ1, S2.step s4 g4, ?_⟩
            have hd3 : M.bind (me ρ1) (fun y => M.bind (lcD g mt me (wipeE ρ vs) (ds.drop (i + 1))) fun ys => M.pure (y :: ys)) u2 = some (rest, uf) := hd2
            unfold M.bind at hd3
            cases ee : me ρ1 u2 with
            | none => rw [ee] at hd3; cases hd3
            | some y =>
              obtain ⟨y, u3⟩ := y
              rw [ee] at hd3
              intro F5 H5 s5 g5 v rv
              have ha5 := s5.eh Dl _ hpd ha4 (.inr (by intro _ z; cases z))
              have hf5 : F5 Dl = none := s5.off hf4 (by rw [ha4]; simp)
              refine ⟨acc, ha5, sz5l (by have := ra.1; omega), ?_⟩
              obtain ⟨ys, u4, el, e5⟩ := bind_some (m := lcD g mt me (wipeE ρ vs) (ds.drop (i + 1))) (f := fun ys => M.pure (y :: ys)) (u := u3) (r := (rest, uf)) hd3
              have e5 : some (y :: ys, u4) = some (rest, uf) := e5
              injection e5 with e5
              injection e5 with e6 e7
              subst e6 e7
              have s15 := s14.trans g4.ne s5
              refine ⟨F5, u3, done ++ [y], acc ++ [v], ys, ⟨s15.ef, fun a o hap e n => ?_, fun a ps ha e => by
                obtain ⟨qs, e1⟩ := s15.et a ps ha e
                exact ⟨qs, by rw [upd_ne (ne_of_none e hD)]; exact e1⟩, s15.nw⟩, ⟨fun a o e => ?_, ?_, g5.off, g5.nt, tabs_over ha5 g5.tb, g5.hp⟩, hf5, upd_same, ?_, by simp; omega, el, by simpa using ho⟩
              · rw [upd_ne (ne_of_none e hD)]; exact s15.eh a o hap e n
              · rw [upd_ne (fun z => by rw [z, hf5] at e; cases e)]; exact g5.ex a o e
              · rw [upd_ne (Ne.symm hpd)]; exact g5.pu
              · exact (ra.mono ((s3.ef.trans s4.ef).trans s5.ef)).append (Reps.cons rv Reps.nil)
    · rintro H' ⟨F', u', done, acc, rest, s', g', hf, ha, ra, hl, hd, ho⟩
      rw [List.drop_eq_nil_of_le (Nat.le_refl _)] at hd
      have hd' : some (([] : List D), u') = some (rest, uf) := hd
      injection hd' with hd'
      injection hd' with e1 e2
      subst e1 e2
      rw [List.append_nil] at ho
      subst ho
      exact h1 F' H' s' g' Dl acc hf (s1.back g1.ne hD) ha ra
end
section
variable {X : Cx} {c : Cf} {elt tg iter : Expr} {ifs : List Expr} {scope : Scope} {own : List (Str × Nat)} {pos : Pos} {is : List Nat} {mi : MA} {g : MG} {mt : MT} {me : ME}
theorem dYes : PTs X [] (rdT c mYes) := pts_nil.imp fun σ H Q ⟨F, u, ρ, S, h⟩ => After.now S.gd h
theorem dLcO (hc : X.calm = true) (hN : X.N.Nodup) (hi : DI X c tg iter mi) (ok : BlkOk X.N X.env.scope scope own) (hg : ∀ (s : Shared) (H : Hp) (C : Addr) (cl : List (Str × Addr)) (fp : List Addr), DG (X.blk s H scope (compEnvC scope cl C X.env) fp) c tg is g)
    (ht : ∀ (s : Shared) (H : Hp) (C : Addr) (cl : List (Str × Addr)) (fp : List Addr), PTs (X.blk s H scope (compEnvC scope cl C X.env) fp) ifs (rdT c mt)) (he : ∀ (s : Shared) (H : Hp) (C : Addr) (cl : List (Str × Addr)) (fp : List Addr), DE (X.blk s H scope (compEnvC scope cl C X.env) fp) c elt me)
    (his : ∀ i ∈ is, i ∈ own.map (·.2) := by decide) (hs : ∀ x, foldedSetIterable iter X.env x = pure x := by intro _; rfl) : DL X c (.ListComp elt [⟨tg, iter, ifs, 0⟩] scope pos) (mLcO (own.map (·.2)) mi g mt me) :=
  (pe_lc hc hN hi ok hg ht he hs).imp fun σ H Q ⟨F, u, ρ, S, h⟩ => rdLc his σ H Q F u ρ S h
end
end Mi

set_option Elab.async false
set_option linter.all false
set_option maxRecDepth 100000
set_option maxHeartbeats 2000000
/-! Mi4: owned lists, calls, classes, a def's promise. -/
namespace Mi
open PySem PySem.Spec PyProof.Rows L2
variable [TB : Tabl]

/-! ### owned lists -/
def vOw (ρ : Env) (i : Nat) : Option (List D) := match ρ[i]? with
  | some (.ow ds) => some ds
  | _ => none
def mApp (i : Nat) (m : ME) : MS := fun ρ => M.bind (m ρ) fun d => M.bind (lft (vOw ρ i)) fun ds => M.bind (lft (if ds.length < 100000 then some () else none)) fun _ => M.pure (.nx (ρ.set i (.ow (ds ++ [d]))))
def mIxO (i : Nat) (mi : ME) : ME := fun ρ => M.bind (mi ρ) fun k => M.bind (lft (vOw ρ i)) fun ds => lft (match k with
  | .int j => atI ds j
  | _ => none)
def frz (i : Nat) (ρ : Env) : Env := match vOw ρ i with
  | some ds => ρ.set i (.sh (.lst ds))
  | none => ρ
def mFrz (i : Nat) (m : MS) : MS := fun ρ => m (frz i ρ)
section
variable {X : Cx} {c : Cf} {pos : Pos} {e ie : Expr} {m mi : ME} {i : Nat} {x : Str}
theorem vOw_at {ρ : Env} {ds : List D} (h : vOw ρ i = some ds) : ρ[i]? = some (.ow ds) := by
  unfold vOw at h
  split at h
  · rename_i z; cases h; exact z
  · cases h
theorem Sta.ow {u : PuS} {F H : Hp} {σ : L2.St} {ρ : Env} {ds : List D} (S : Sta c u F H σ ρ) (h : vOw ρ i = some ds) :
    ∃ q vs, σ[i]? = some (some (.ref q)) ∧ H q = some (.lst vs) ∧ F q = none ∧ q ≠ c.p ∧ c.H0 q = none ∧ Reps c.W c.p F vs ds := S.env.at_ i _ (vOw_at h)
theorem lft_some' {α β : Type} {o : Option α} {f : α → M β} {u : PuS} {p : Addr} {F H : Hp} {Φ : β → PuS → Hp → Hp → Prop} (h : After p F H (M.bind (lft o) f u) Φ) : ∃ a, o = some a ∧ After p F H (f a u) Φ := by
  cases o with
  | none => exact False.elim h
  | some a => exact ⟨a, rfl, h⟩
theorem dApp (i : Nat) {x : Str} {p0 apos cpos : Pos} (he : DE X c e m) (hN : X.N[i]? = some x := by rfl) (hv : Vis X.env.scope x := by first | exact Or.inl rfl | exact Or.inr (Or.inl rfl) | exact Or.inr (Or.inr rfl)) (hd : (x == ("__debug__" : Str)) = false := by decide)
    (hcd : (x == ("__classdict__" : Str)) = false := by decide) (hbase : attributeBase (.Name x p0) "append" X.env (eval (.Name x p0) X.env) = eval (.Name x p0) X.env := by rfl)
    (hfew : ((backTo cpos (starEach [e] X.env)).all (fun x => !x.1) && (backToKw cpos (keywordEach [] X.env)).all (fun x => x.1.isSome)
      && decide (([e] : List Expr).length + ([] : List Keyword).length + (if ([] : List Keyword).isEmpty then 0 else 1) < 30)) = true := by rfl)
    (hline : (apos.endLine == cpos.line) = true := by rfl) (hst : starEach [e] X.env = (false, eval e X.env) :: starEach [] X.env := by rfl) (hplain : (backTo cpos (starEach [] X.env)).any (·.1) = false := by rfl)
    (hs : swapsWith (.Call (.Attribute (.Name x p0) "append" apos) [e] [] cpos) none pos.line X.env = pure false := by rfl) :
    DS X c (.Expr (.Call (.Attribute (.Name x p0) "append" apos) [e] [] cpos) pos) (mApp i m) :=
  (ps_expr (pe_bm PySem.F.plainAttrs_list PySem.F.slot_list_append PySem.F.type_list_append mt_append (pe_var (i := i) hN hv hd hcd) (pa_cons he pa_nil hst) hbase hfew hline hst hplain) hs).imp fun Dn σ H ⟨F, u, ρ, S, h⟩ => by
    unfold mApp at h
    have key : ∀ ds, vOw ρ i = some ds → tDrop (tBM X.K "list" rAppend (tVar i) (tCons (rdE c m) tNil)) Dn σ H := fun ds hds => by
      obtain ⟨q, vs, e1, hq, _⟩ := S.ow hds
      refine ⟨.ref q, e1, .inl ⟨rfl, vs, SqL.of hq⟩, F, u, ρ, S, (flowO.after S h).imp fun d u1 F1 H1 _ s1 g1 h1 v rv => ?_⟩
      obtain ⟨ds', e2, h2⟩ := flowO.lft h1.1 h1.2
      rw [hds] at e2
      cases e2
      obtain ⟨_, e3, h3⟩ := flowO.lft h1.1 h2
      obtain ⟨q', vs', e1', hq', _, _, _, r'⟩ := h1.1.ow hds
      rw [e1] at e1'
      cases e1'
      split at e3
      · rename_i hl
        refine ⟨q, vs', v, rfl, rfl, hq', sz5l (by rw [r'.1]; omega), h3 σ F1 _ (Same.refl _) ?_⟩
        exact h1.1.put (vOw_at hds) e1 (r'.append (Reps.cons rv Reps.nil))
      · cases e3
    cases ho : vOw ρ i with
    | some ds => exact key ds ho
    | none =>
      exfalso
      cases e1 : m ρ u with
      | none =>
        unfold M.bind at h
        rw [e1] at h
        exact h
      | some y =>
        unfold M.bind at h
        rw [e1, ho] at h
        exact h
theorem dIxO (i : Nat) {x : Str} {p0 : Pos} (hk : DE X c ie mi) (hN : X.N[i]? = some x := by rfl) (hv : Vis X.env.scope x := by first | exact Or.inl rfl | exact Or.inr (Or.inl rfl) | exact Or.inr (Or.inr rfl)) (hd : (x == ("__debug__" : Str)) = false := by decide)
    (hcd : (x == ("__classdict__" : Str)) = false := by decide) (hs : PlainIx ie := by exact fun _ _ => rfl) : DE X c (.Subscript (.Name x p0) ie pos) (mIxO i mi) :=
  (pe_ix ix_list (pe_var (i := i) hN hv hd hcd) hk hs).imp fun σ H Q ⟨F, u, ρ, S, h⟩ => by
    have key : ∀ ds, vOw ρ i = some ds → ∃ w, σ[i]? = some (some w) ∧ rdE c mi σ H fun y H2 => rIxL X.K w y H2 Q := fun ds hds => by
      obtain ⟨q, vs, e1, _⟩ := S.ow hds
      refine ⟨.ref q, e1, F, u, ρ, S, (After.split h).imp fun k u2 F2 H2 _ s2 g2 h2 w rw => ?_⟩
      obtain ⟨ds', e2, h3⟩ := lft_some' h2
      rw [hds] at e2
      cases e2
      obtain ⟨d, e3, h4⟩ := lft_some h3
      obtain ⟨q', vs', e1', hq', _, _, _, r'⟩ := (S.step s2 g2).ow hds
      rw [e1] at e1'
      cases e1'
      cases k with
      | int j =>
        have e4 : atI ds j = some d := e3
        unfold atI at e4
        cases hj : ixN ds.length j with
        | none => rw [hj] at e4; cases e4
        | some n =>
          rw [hj] at e4
          obtain ⟨v, ev, rv⟩ := r'.get e4
          refine ⟨q, vs', j, v, rfl, rw.int_, SqL.of hq', by unfold atI; rw [r'.1, hj]; exact ev, After.now g2 h4 v rv⟩
      | _ => cases e3
    cases ho : vOw ρ i with
    | some ds => exact key ds ho
    | none =>
      exfalso
      unfold mIxO M.bind at h
      cases e1 : mi ρ u with
      | none => rw [e1] at h; exact h
      | some y => rw [e1, ho] at h; exact h
theorem Sta.frz {u : PuS} {F H : Hp} {σ : L2.St} {ρ : Env} (S : Sta c u F H σ ρ) (i : Nat) : ∃ F', Same F F' ∧ Sta c u F' H σ (frz i ρ) := by
  unfold Mi.frz
  cases ho : vOw ρ i with
  | none => exact ⟨F, Same.refl F, S⟩
  | some ds =>
    obtain ⟨q, vs, e1, hq, hf, hp, h0, r⟩ := S.ow ho
    have hsm : Same F (upd F q (.lst vs)) := fun a o e => by rw [upd_ne (fun z => by rw [z, hf] at e; cases e)]; exact e
    have qs : ∀ {j : Nat} {t : Sd} {a : Addr}, i ≠ j → ρ[j]? = some t → t.own = true → σ[j]? = some (some (.ref a)) → a ≠ q := fun {j t a} ne e2 o z h => by
      subst h
      exact S.env.ne i j _ t ne (vOw_at ho) e2 rfl o (e1.trans z.symm)
    refine ⟨upd F q (.lst vs), hsm, ⟨S.ent.ef.trans hsm, S.ent.eh, S.ent.et, fun a o e => ?_⟩, ⟨fun a o e => ?_, S.gd.pu, fun l e => by rw [upd_ne (Ne.symm hp)]; exact S.gd.off l e, nt_upd S.gd.nt (by intro _ z; cases z), S.gd.tb, S.gd.hp⟩, by simpa using S.env.len, fun j t e => ?_, fun j k t t' h ea eb o1 o2 => ?_⟩
    · by_cases ha : a = q
      · subst ha; exact .inr h0
      · rw [upd_ne ha] at e; exact S.ent.nw a o e
    · by_cases ha : a = q
      · subst ha; rw [upd_same] at e; cases e; exact hq
      · rw [upd_ne ha] at e; exact S.gd.ex a o e
    · rcases set_get e with ⟨rfl, rfl, _⟩ | ⟨ne, e⟩
      · exact ⟨.ref q, e1, Rep.mkL upd_same (r.mono hsm)⟩
      · have k := S.env.at_ j t e
        cases t with
        | un => trivial
        | sh d => obtain ⟨v, z, r'⟩ := k; exact ⟨v, z, r'.mono hsm⟩
        | ow es => obtain ⟨a, xs, z, ha, hfa, w1, w2, r'⟩ := k; exact ⟨a, xs, z, ha, by rw [upd_ne (qs ne e rfl z)]; exact hfa, w1, w2, r'.mono hsm⟩
        | oi kk ks es => obtain ⟨dx, xs, z, ha, hfa, w1, w2, w3, r'⟩ := k; exact ⟨dx, xs, z, ha, by rw [upd_ne (qs ne e rfl z)]; exact hfa, w1, w2, w3, r'.mono hsm⟩
        | od ks es => obtain ⟨a, ob, xs, ws, z, ha, hfa, w1, w2, w3, r'⟩ := k; exact ⟨a, ob, xs, ws, z, ha, by rw [upd_ne (qs ne e rfl z)]; exact hfa, w1, w2, w3, r'.mono hsm⟩
    · rcases set_get ea with ⟨rfl, rfl, _⟩ | ⟨n1, ea⟩
      · cases o1
      · rcases set_get eb with ⟨rfl, rfl, _⟩ | ⟨n2, eb⟩
        · cases o2
        · exact S.env.ne j k t t' h ea eb o1 o2
theorem dFrzS (i : Nat) {st : Stmt} {ms : MS} (h : DS X c st ms) : DS X c st (mFrz i ms) := h.imp fun Dn σ H ⟨F, u, ρ, S, h⟩ => by
  obtain ⟨F', sm, S'⟩ := S.frz i
  exact ⟨F', u, _, S', flowO.mono sm h⟩
end

/-! ### a def's promise -/
def startE (n : Nat) (ds : List D) : Env := ds.map Sd.sh ++ List.replicate (n - ds.length) Sd.un
def mFn (n : Nat) (mb : MS) : List D → M D := fun ds u => match mb (startE n ds) u with
  | some (.rt d, u') => some (d, u')
  | some (.nx _, u') => some (.non, u')
  | _ => none
theorem env_start {c : Cf} {F H : Hp} {N : List Str} {vs : List V} {ds : List D} (r : Reps c.W c.p F vs ds) : EnvOk c F H (L2.start N vs) (startE N.length ds) := by
  have hl := r.1
  have nown : ∀ {i : Nat} {s : Sd}, (startE N.length ds)[i]? = some s → s.own = false := fun {i s} e => by
    unfold startE at e
    by_cases hi : i < (ds.map Sd.sh).length
    · rw [List.getElem?_append_left hi, List.getElem?_map] at e
      cases q : ds[i]? with
      | none => rw [q] at e; cases e
      | some d => rw [q] at e; cases e; rfl
    · rw [List.getElem?_append_right (by omega), List.getElem?_replicate] at e
      split at e
      · cases e; rfl
      · cases e
  refine ⟨?_, fun i s e => ?_, fun i j s t _ e1 _ o1 _ => by rw [nown e1] at o1; cases o1⟩
  · unfold L2.start startE
    simp [hl]
  · unfold startE at e
    by_cases hi : i < (ds.map Sd.sh).length
    · rw [List.getElem?_append_left hi, List.getElem?_map] at e
      cases q : ds[i]? with
      | none => rw [q] at e; cases e
      | some d =>
        rw [q] at e
        cases e
        obtain ⟨v, ev, rv⟩ := r.get q
        refine ⟨v, ?_, rv⟩
        unfold L2.start
        rw [List.getElem?_append_left (by simpa [hl] using hi), List.getElem?_map, ev]
        rfl
    · rw [List.getElem?_append_right (by omega), List.getElem?_replicate] at e
      split at e
      · cases e; trivial
      · cases e
section
variable {P : Program} {w : World} {K : PySem.W.Frag} {mg : Str → Option Value} {base : Heap} {x qual : Str} {params : Arguments} {body : List Stmt} {scope : Scope} {dvs : List V} {kws : List (Str × V)} {f : Addr} {fd : FuncData} {W : Wo} {N ps : List Str} {k : Nat} {mb : MS}
/-- a def by its body's mirror -/
theorem fn_mir (F : FunD K x qual params body scope dvs kws f fd) (S : FnScope N ps scope)
    (hb : ∀ (cdv : Value) (A : Around) (outer : List PySem.Env) (s : Shared) (H : Hp) (E : XK) (p : Addr) (F0 : Hp), Room k (A.deeper (envOfC qual scope s.heap.objs.size f cdv)) → DB (cxOf CX0 P w K mg base N qual scope f cdv A outer s H E).nox ⟨W, p, F0, H, 0, noX⟩ body mb) :
    FnOk P w K mg base CX0 (k + 1) f fd ps (spM W ps.length (mFn N.length mb)) := by
  refine F.ok S (fun vs H Q E h => h.1) (fun cdv A outer s H vs Q E hr h => ?_)
  obtain ⟨hl, p, F0, u, ds, g, r, h⟩ := h
  refine ⟨_, PSs.nox (hb cdv A outer s H E p F0 hr), F0, u, startE N.length ds, ⟨Stp.refl, g, env_start r⟩, ?_⟩
  unfold mFn at h
  cases e : mb (startE N.length ds) u with
  | none => rw [e] at h; exact h
  | some y =>
    obtain ⟨fl, u1⟩ := y
    rw [e] at h
    cases fl with
    | rt d =>
      intro v F' H' s' g' rv
      have h2 : After p F0 H (some (d, u1)) (fun d _ F' H' => ∀ v, Rep W p F' v d → Q v H') := h
      exact h2 F' H' s' g' v rv
    | rl ds' => exact False.elim h
    | nx ρ' =>
      intro σ' F' H' _ S'
      have h2 : After p F0 H (some (D.non, u1)) (fun d _ F' H' => ∀ v, Rep W p F' v d → Q v H') := h
      exact h2 F' H' S'.ent S'.gd .non .non
    | bk ρ' => exact False.elim h
    | ct ρ' => exact False.elim h
    | ex ρ' k' ks' ds' => exact False.elim h
end

/-! ### calls -/
def mCall (n : Nat) (mf : List D → M D) (ms : MA) : ME := fun ρ => M.bind (ms ρ) fun ds => if ds.length = n then mf ds else lft none
section
variable {X : Cx} {c : Cf} {CX : CXT} {k n : Nat} {f : Addr} {fd : FuncData} {ps : List Str} {x m : Str} {p pos apos : Pos} {e o : Expr} {es : List Expr} {ms : MA} {mo : ME} {mf : List D → M D}
theorem call_ok {p : Addr} {F H : Hp} {u : PuS} {vs : List V} {ds : List D} {W : Wo} {Q : VK} {E : XK} (g : Gd p u F H) (r : Reps W p F vs ds) (h : After p F H ((if ds.length = n then mf ds else lft none) u) fun d _ F' H' => ∀ v, Rep W p F' v d → Q v H') : spM W n mf vs H Q E := by
  by_cases hl : ds.length = n
  · rw [if_pos hl] at h
    exact ⟨r.1.trans hl, p, F, u, ds, g, r, h⟩
  · rw [if_neg hl] at h; exact False.elim h
theorem dCall (G : FnOk X.prog X.w X.K X.mg X.base CX0 k f fd ps (spM c.W n mf)) (hr : Room k X.A) (hg : Gl X x) (hm : X.mg x = some (.ref f)) (hk : PySem.W.keepIn X.K (.ref f) = true) (hb : Binds X.K fd ps [])
    (ha : DA X c (e :: es) ms) (hdb : (x == ("__debug__" : Str)) = false := by decide) (he : starEach (e :: es) X.env = (false, eval e X.env) :: starEach es X.env := by rfl) (hpl : (backTo pos (starEach es X.env)).any (·.1) = false := by rfl) :
    DE X c (.Call (.Name x p) (e :: es) [] pos) (mCall n mf ms) :=
  (pe_call G hr hg hm hk hb .nil pass0 ha hdb he hpl).imp fun σ H Q ⟨F, u, ρ, S, h⟩ => ⟨F, u, ρ, S, (After.split h).imp fun ds u1 F1 H1 _ s1 g1 h1 vs rvs => by
    show spM c.W n mf (vs ++ []) H1 Q E0
    rw [List.append_nil]
    exact call_ok g1 rvs h1⟩
/-! ### fields, properties, methods -/
/-- the field number i of an object of the class k with the fields ks -/
def fldD (k : Str) (ks : List Str) (i : Nat) : D → Option D := fun d => match d with
  | .obj c ks' ds => if c = k ∧ ks' = ks then ds[i]? else none
  | _ => none
theorem zip_lookup {ks : List Str} {vs : List V} {i : Nat} {f : Str} {v : V} (nd : ks.Nodup) (hk : ks[i]? = some f) (hv : vs[i]? = some v) : (ks.zip vs).lookup f = some v := by
  induction ks generalizing vs i with
  | nil => cases hk
  | cons a ks ih =>
    cases vs with
    | nil => cases hv
    | cons b vs =>
      cases i with
      | zero =>
        simp at hk hv
        subst hk hv
        simp [List.lookup]
      | succ i =>
        simp at hk hv
        have hne : (f == a) = false := by
          rw [beq_eq_false_iff_ne]
          rintro rfl
          exact (List.nodup_cons.mp nd).1 (List.mem_of_getElem? hk)
        show (match f == a with | true => some b | false => (ks.zip vs).lookup f) = some v
        rw [hne]
        exact ih (List.nodup_cons.mp nd).2 hk hv
theorem dFld {ck f : Str} {ks : List Str} (i : Nat) (hi : ks[i]? = some f) (nd : ks.Nodup) (hc : Cls X.K (c.W.cl ck)) (hn : NoAttr X.K (c.W.cl ck) f) (he : DE X c e mo) (hb : attributeBase e f X.env (eval e X.env) = eval e X.env := by rfl) : DE X c (.Attribute e f pos) (mUn (fldD ck ks i) mo) :=
  (pe_fld he hb).imp fun σ H Q ⟨F, u, ρ, S, h⟩ => ⟨F, u, ρ, S, (After.split h).imp fun d u1 F1 H1 _ s1 g1 h1 v rv => by
    obtain ⟨y, e1, h2⟩ := lft_some h1
    unfold fldD at e1
    split at e1
    · rename_i c' ks' ds _h
      split at e1
      · rename_i hh
        obtain ⟨rfl, rfl⟩ := hh
        obtain ⟨a, dx, vs, rfl, ha, lk, r⟩ := rv.obj_
        obtain ⟨w, ew, rw⟩ := r.get e1
        exact ⟨a, _, dx, _, w, rfl, g1.ex _ _ ha, hc, hn, zip_lookup nd hi ew, After.now g1 h2 w rw⟩
      · cases e1
    · cases e1⟩
def mSelf (k : Str) (mf : List D → M D) (mo : ME) : ME := fun ρ => M.bind (mo ρ) fun d => match d with
  | .obj c ks ds => if c = k then mf [.obj c ks ds] else lft none
  | _ => lft none
theorem dProp {ck f : Str} {pr g : Addr} (he : DE X c e mo) (hc : Cls X.K (c.W.cl ck)) (hp : PropOf X.K (c.W.cl ck) f pr g) (G : FnOk X.prog X.w X.K X.mg X.base CX0 k g fd ps (spM c.W 1 mf)) (hr : Room (k + 1) X.A) (hb : Binds X.K fd ps [])
    (hab : attributeBase e f X.env (eval e X.env) = eval e X.env := by rfl) : DE X c (.Attribute e f pos) (mSelf ck mf mo) :=
  (pe_prop he hc hp G hr hb .nil pass0 hab).imp fun σ H Q ⟨F, u, ρ, S, h⟩ => ⟨F, u, ρ, S, (After.split h).imp fun d u1 F1 H1 _ s1 g1 h1 v rv => by
    split at h1
    · rename_i c' ks' ds _h
      split at h1
      · rename_i hh
        subst hh
        obtain ⟨a, dx, vs, rfl, ha, lk, r⟩ := id rv.obj_
        exact ⟨a, dx, _, rfl, g1.ex _ _ ha, rfl, c.p, F1, u1, [_], g1, Reps.cons rv Reps.nil, h1⟩
      · exact False.elim h1
    · exact False.elim h1⟩
end
end Mi

set_option Elab.async false
set_option linter.all false
set_option maxRecDepth 100000
set_option maxHeartbeats 2000000
/-! Mi5: mirrors of operators and built-ins. -/
namespace Mi
open PySem PySem.Spec PyProof.Rows L2
variable [TB : Tabl]

section
variable {W : Wo} {p : Addr} {F H : Hp} {u : PuS}
theorem OpM.ret {Q : VK} {d : D} {o : Option D} {v : V} (g : Gd p u F H) (h : After p F H (lft o u) fun d _ F' H' => ∀ v, Rep W p F' v d → Q v H') (e : o = some d) (r : Rep W p F v d) : Q v H := by
  subst e
  exact After.now g h v r
theorem OpM.new {Q : VK} {d : D} {o : Option D} {q : Addr} {ob : HO} (g : Gd p u F H) (h : After p F H (lft o u) fun d _ F' H' => ∀ v, Rep W p F' v d → Q v H') (e : o = some d) (hq : H q = none) (r : Same F (upd F q ob) → Rep W p (upd F q ob) (.ref q) d) (no : ∀ ps, ob ≠ .tbl ps := by intro _ z; cases z) : Q (.ref q) (upd H q ob) := by
  subst e
  exact h _ _ (Stp.new g hq) (g.new hq no) _ (r (Stp.new g hq).ef)
end

/-! ### ints -/
def int2 (f : Int → Int → Option D) : D → D → Option D
  | .int a, .int b => f a b
  | _, _ => none
theorem int2_some {f : Int → Int → Option D} {a b d : D} (h : int2 f a b = some d) : ∃ i j, a = .int i ∧ b = .int j ∧ f i j = some d := by
  unfold int2 at h
  split at h
  · exact ⟨_, _, rfl, rfl, h⟩
  · cases h
/-- an operator on ints with a condition C, mirrored by the decidable condition c -/
theorem opm_I {W : Wo} {C : Int → Int → Prop} {g : Int → Int → V} {c : Int → Int → Bool} {f : Int → Int → D} (hc : ∀ i j, c i j = true → C i j) (hg : ∀ p F i j, Rep W p F (g i j) (f i j)) : OpM W (rI C g) (int2 fun i j => if c i j = true then some (f i j) else none) := by
  intro p F H u x y a b Q gd rx ry h
  obtain ⟨d, e, _⟩ := lft_some h
  obtain ⟨i, j, rfl, rfl, e2⟩ := int2_some e
  split at e2
  · rename_i hcc
    cases e2
    exact ⟨i, j, rx.int_, ry.int_, hc i j hcc, OpM.ret gd h e (hg p F i j)⟩
  · cases e2
theorem opm_I0 {W : Wo} {g : Int → Int → V} {f : Int → Int → D} (hg : ∀ p F i j, Rep W p F (g i j) (f i j)) : OpM W (rI0 g) (int2 fun i j => some (f i j)) := by
  intro p F H u x y a b Q gd rx ry h
  obtain ⟨d, e, _⟩ := lft_some h
  obtain ⟨i, j, rfl, rfl, e2⟩ := int2_some e
  cases e2
  exact ⟨i, j, rx.int_, ry.int_, OpM.ret gd h e (hg p F i j)⟩
def subD : D → D → Option D := int2 fun i j => some (.int (i - j))
def ltD : D → D → Option D := int2 fun i j => some (.bl (decide (i < j)))
def leD : D → D → Option D := int2 fun i j => some (.bl (decide (i ≤ j)))
def gtD : D → D → Option D := int2 fun i j => some (.bl (decide (j < i)))
def geD : D → D → Option D := int2 fun i j => some (.bl (decide (j ≤ i)))
def fdivC (_ j : Int) : Bool := decide (0 < j ∧ j.natAbs.log2 < 9000)
def fdivD : D → D → Option D := int2 fun i j => if fdivC i j = true then some (.int (i / j)) else none
def modD : D → D → Option D := int2 fun i j => if decide (0 < j) = true then some (.int (i % j)) else none
def powC (i j : Int) : Bool := decide (0 ≤ j ∧ j ≤ 1000000 ∧ i.natAbs < 18446744073709551616)
def powD : D → D → Option D := int2 fun i j => if powC i j = true then some (.int (i ^ j.toNat)) else none
def CMulA (i j : Int) : Prop := CMul i j ∨ CMulW i j
def mulC (i j : Int) : Bool := decide ((-(2 ^ 64) < i ∧ i < 2 ^ 64) ∨ (-(2 ^ 64) < j ∧ j < 2 ^ 64)) || decide (i.natAbs.log2 + j.natAbs.log2 < 1000000)
theorem mulC_ok {i j : Int} (h : mulC i j = true) : CMulA i j := by
  unfold mulC at h
  rcases Bool.or_eq_true_iff.mp h with h | h
  · exact .inl (of_decide_eq_true (p := (-(2 ^ 64) < i ∧ i < 2 ^ 64) ∨ (-(2 ^ 64) < j ∧ j < 2 ^ 64)) h)
  · exact .inr (of_decide_eq_true (p := i.natAbs.log2 + j.natAbs.log2 < 1000000) h)
theorem CMulA.ok {i j : Int} (h : CMulA i j) : IntMulOk i j := h.elim CMul.ok CMulW.ok
theorem op_mulB {X : Cx} : OpR X (binaryOp .Mult) (rI CMulA fun i j => .int (i * j)) := opI fun _ _ _ _ _ _ _ hc q => mul_int q hc.ok
theorem m_sub {W : Wo} : OpM W (rI0 fun i j => .int (i - j)) subD := opm_I0 fun _ _ _ _ => .int _
theorem m_lt {W : Wo} : OpM W (rI0 fun i j => .bl (decide (i < j))) ltD := opm_I0 fun _ _ _ _ => .bl _
theorem m_le {W : Wo} : OpM W (rI0 fun i j => .bl (decide (i ≤ j))) leD := opm_I0 fun _ _ _ _ => .bl _
theorem m_gt {W : Wo} : OpM W (rI0 fun i j => .bl (decide (j < i))) gtD := opm_I0 fun _ _ _ _ => .bl _
theorem m_ge {W : Wo} : OpM W (rI0 fun i j => .bl (decide (j ≤ i))) geD := opm_I0 fun _ _ _ _ => .bl _
theorem m_fdiv {W : Wo} : OpM W (rI CDivW fun i j => .int (i / j)) fdivD := opm_I (fun i j h => of_decide_eq_true (p := 0 < j ∧ j.natAbs.log2 < 9000) h) fun _ _ _ _ => .int _
theorem m_mod {W : Wo} : OpM W (rI (fun _ j => 0 < j) fun i j => .int (i % j)) modD := opm_I (fun i j h => of_decide_eq_true h) fun _ _ _ _ => .int _
theorem m_pow {W : Wo} : OpM W (rI CPow fun i j => .int (i ^ j.toNat)) powD := opm_I (fun i j h => by
  have := of_decide_eq_true h
  exact ⟨this.1, this.2.1, by have e : (2 : Nat) ^ 64 = 18446744073709551616 := by decide
                              rw [e]; exact this.2.2⟩) fun _ _ _ _ => .int _
def negD : D → Option D
  | .int i => some (.int (-i))
  | _ => none
theorem m_neg {W : Wo} : UnM W (rU fun i => .int (-i)) negD := by
  intro p F H u x a Q gd rx h
  obtain ⟨d, e, _⟩ := lft_some h
  cases a with
  | int i => cases e; exact ⟨i, rx.int_, OpM.ret gd h rfl (.int _)⟩
  | _ => cases e

/-! ### + and * -/
def addD : D → D → Option D
  | .int a, .int b => some (.int (a + b))
  | .str a, .str b => if a.length + b.length ≤ 10000000 then some (.str (a ++ b)) else none
  | .lst a, .lst b => if a.length + b.length ≤ 100000 then some (.lst (a ++ b)) else none
  | .tup a, .tup b => if a.length + b.length ≤ 100000 then some (.tup (a ++ b)) else none
  | _, _ => none
def rAddA (K : PySem.W.Frag) : R2 := fun x y H Q => rI0 (fun i j => .int (i + j)) x y H Q ∨ (∃ i j, x = .str i ∧ y = .str j ∧ i.length + j.length ≤ sizeLine ∧ Q (.str (i ++ j)) H) ∨ rCat x y H Q ∨ rCatA K x y H Q
theorem op_addA {X : Cx} : OpR X (binaryOp .Add) (rAddA X.K) := op_add.or (op_add_str.or (op_cat.or op_catA))
theorem m_add {W : Wo} : OpM W (rAddA W.K) addD := by
  intro p F H u x y a b Q gd rx ry h
  obtain ⟨d, e, _⟩ := lft_some h
  unfold addD at e
  split at e
  · cases e
    exact .inl ⟨_, _, rx.int_, ry.int_, OpM.ret gd h rfl (.int _)⟩
  · rename_i i j
    split at e
    · rename_i hl
      cases e
      exact .inr (.inl ⟨i, j, rx.str_, ry.str_, Nat.le_trans hl (by decide), OpM.ret gd h (if_pos hl) (.str _)⟩)
    · cases e
  · rename_i xs ys
    split at e
    · rename_i hl
      cases e
      obtain ⟨a, vs, rfl, ha, ra⟩ := rx.lst_
      obtain ⟨b, ws, rfl, hb, rb⟩ := ry.lst_
      exact .inr (.inr (.inl ⟨a, b, vs, ws, rfl, rfl, gd.ex _ _ ha, gd.ex _ _ hb, sz5 (by rw [ra.1, rb.1]; exact hl), fun q hq => OpM.new gd h (if_pos hl) hq fun sm => Rep.mkL upd_same ((ra.mono sm).append (rb.mono sm))⟩))
    · cases e
  · rename_i xs ys
    split at e
    · rename_i hl
      cases e
      obtain ⟨a, vs, rfl, ha, ra⟩ := id rx.tup_
      obtain ⟨b, ws, rfl, hb, rb⟩ := id ry.tup_
      refine .inr (.inr (.inr ⟨a, b, vs, ws, rfl, rfl, sq_t gd.ex ha, sq_t gd.ex hb, sz5 (by rw [ra.1, rb.1]; exact hl), fun z => ?_, fun z z2 => ?_, fun z z2 q hq => OpM.new gd h (if_pos hl) hq fun sm => Rep.mkT upd_same ((ra.mono sm).append (rb.mono sm))⟩))
      · have e0 : xs = [] := List.eq_nil_of_length_eq_zero (by rw [← ra.1, z]; rfl)
        exact OpM.ret gd h (if_pos hl) (by rw [e0]; exact ry)
      · have e0 : ys = [] := List.eq_nil_of_length_eq_zero (by rw [← rb.1, z2]; rfl)
        exact OpM.ret gd h (if_pos hl) (by rw [e0, List.append_nil]; exact rx)
    · cases e
  · cases e
theorem Reps.rep {W : Wo} {p : Addr} {F : Hp} {vs : List V} {ds : List D} (r : Reps W p F vs ds) : ∀ n : Nat, Reps W p F (List.replicate n vs).flatten (List.replicate n ds).flatten
  | 0 => Reps.nil
  | n + 1 => by
    rw [List.replicate_succ, List.replicate_succ, List.flatten_cons, List.flatten_cons]
    exact r.append (Reps.rep r n)
def mulD : D → D → Option D
  | .int a, .int b => if mulC a b = true then some (.int (a * b)) else none
  | .lst a, .int k => if k ≤ 100000 ∧ -100000 ≤ k ∧ a.length * k.toNat ≤ 100000 then some (.lst (List.replicate k.toNat a).flatten) else none
  | _, _ => none
def rMulA : R2 := fun x y H Q => rI CMulA (fun i j => .int (i * j)) x y H Q ∨ rRep x y H Q
theorem op_mulA {X : Cx} : OpR X (binaryOp .Mult) rMulA := op_mulB.or op_rep
theorem m_mul {W : Wo} : OpM W rMulA mulD := by
  intro p F H u x y a b Q gd rx ry h
  obtain ⟨d, e, _⟩ := lft_some h
  unfold mulD at e
  split at e
  · split at e
    · rename_i hc
      cases e
      exact .inl ⟨_, _, rx.int_, ry.int_, mulC_ok hc, OpM.ret gd h (if_pos hc) (.int _)⟩
    · cases e
  · rename_i xs k
    split at e
    · rename_i hl
      cases e
      obtain ⟨a, vs, rfl, ha, ra⟩ := rx.lst_
      refine .inr ⟨a, k, vs, rfl, ry.int_, gd.ex _ _ ha, by omega, by omega, sz5 (by rw [ra.1]; exact hl.2.2), fun q hq => OpM.new gd h (if_pos hl) hq fun sm => Rep.mkL upd_same ((ra.mono sm).rep _)⟩
    · cases e
  · cases e

/-! ### == and != of plain data -/
mutual
def toPD : D → Option PyData
  | .non => some .none
  | .bl b => some (.bool b)
  | .int i => some (.int i)
  | .str x => some (.str x)
  | .tup ds => (toPDs ds).map .tuple
  | .lst ds => (toPDs ds).map .list
  | _ => none
def toPDs : List D → Option (List PyData)
  | [] => some []
  | d :: ds => match toPD d, toPDs ds with
    | some a, some as => some (a :: as)
    | _, _ => none
end
mutual
theorem dp_of {W : Wo} {p : Addr} {F H : Hp} (sm : Same F H) : ∀ (d : D) (v : V) (a : PyData), Rep W p F v d → toPD d = some a → Dp W.K H v a
  | .non, v, a, r, e => by cases e; cases r; exact .non
  | .bl b, v, a, r, e => by cases e; cases r; exact .bl b
  | .int i, v, a, r, e => by cases e; cases r; exact .int i
  | .str x, v, a, r, e => by cases e; cases r; exact .str x
  | .tup ds, v, a, r, e => by
    obtain ⟨q, vs, rfl, h, rs⟩ := r.tup_
    unfold toPD at e
    cases e1 : toPDs ds with
    | none => rw [e1] at e; cases e
    | some as => rw [e1] at e; cases e; exact .tup (sq_t sm h) (dps_of sm ds vs as rs e1)
  | .lst ds, v, a, r, e => by
    obtain ⟨q, vs, rfl, h, rs⟩ := r.lst_
    unfold toPD at e
    cases e1 : toPDs ds with
    | none => rw [e1] at e; cases e
    | some as => rw [e1] at e; cases e; exact .lst (SqL.of (sm _ _ h)) (dps_of sm ds vs as rs e1)
  | .obj _ _ _, v, a, r, e => by cases e
  | .pur, v, a, r, e => by cases e
  | .ty _, v, a, r, e => by cases e
  | .cls _, v, a, r, e => by cases e
theorem dps_of {W : Wo} {p : Addr} {F H : Hp} (sm : Same F H) : ∀ (ds : List D) (vs : List V) (as : List PyData), Reps W p F vs ds → toPDs ds = some as → DpAll W.K H vs as
  | [], vs, as, r, e => by cases e; rw [r.none]; exact .nil
  | d :: ds, vs, as, r, e => by
    obtain ⟨v, vr, rfl, r1, r2⟩ := r.uncons
    unfold toPDs at e
    cases e1 : toPD d with
    | none => rw [e1] at e; cases e
    | some a =>
      cases e2 : toPDs ds with
      | none => rw [e1, e2] at e; cases e
      | some as' =>
        rw [e1, e2] at e
        cases e
        exact .cons (dp_of sm d v a r1 e1) (dps_of sm ds vr as' r2 e2)
end
def eqD : D → D → Option Bool := fun x y => match toPD x, toPD y with
  | some a, some b => if SeqAt.shaped a = true ∧ SeqAt.shaped b = true then some (PyData.eqv a b) else none
  | _, _ => none
def eqMD : D → D → Option D := fun x y => (eqD x y).map .bl
def neMD : D → D → Option D := fun x y => (eqD x y).map fun b => .bl (!b)
theorem eqD_some {W : Wo} {p : Addr} {F H : Hp} {x y : V} {a b : D} {r : Bool} (sm : Same F H) (rx : Rep W p F x a) (ry : Rep W p F y b) (e : eqD a b = some r) : ∃ d d', Dp W.K H x d ∧ Dp W.K H y d' ∧ SeqAt.shaped d = true ∧ SeqAt.shaped d' = true ∧ PyData.eqv d d' = r := by
  unfold eqD at e
  split at e
  · rename_i d d' e1 e2
    split at e
    · rename_i hs
      cases e
      exact ⟨d, d', dp_of sm a x d rx e1, dp_of sm b y d' ry e2, hs.1, hs.2, rfl⟩
    · cases e
  · cases e
theorem m_eq {W : Wo} : OpM W (rEqD W.K) eqMD := by
  intro p F H u x y a b Q gd rx ry h
  obtain ⟨d, e, _⟩ := lft_some h
  unfold eqMD at e
  cases e1 : eqD a b with
  | none => rw [e1] at e; cases e
  | some r =>
    obtain ⟨d1, d2, h1, h2, h3, h4, h5⟩ := eqD_some gd.ex rx ry e1
    refine ⟨d1, d2, h1, h2, h3, h4, ?_⟩
    rw [h5]
    exact OpM.ret gd h (by unfold eqMD; rw [e1]; rfl) (.bl r)
theorem m_ne {W : Wo} : OpM W (rNeD W.K) neMD := by
  intro p F H u x y a b Q gd rx ry h
  obtain ⟨d, e, _⟩ := lft_some h
  unfold neMD at e
  cases e1 : eqD a b with
  | none => rw [e1] at e; cases e
  | some r =>
    obtain ⟨d1, d2, h1, h2, h3, h4, h5⟩ := eqD_some gd.ex rx ry e1
    refine ⟨d1, d2, h1, h2, h3, h4, ?_⟩
    rw [h5]
    exact OpM.ret gd h (by unfold neMD; rw [e1]; rfl) (.bl !r)

/-! ### is, items, slices -/
def isNonD : D → Bool
  | .non => true
  | _ => false
def isD : D → D → Option D := fun x y => match y with
  | .non => some (.bl (isNonD x))
  | .bl b => match x with
    | .bl a => some (.bl (decide (a = b)))
    | _ => none
  | _ => none
def isntD : D → D → Option D := fun x y => match y with
  | .non => some (.bl (!isNonD x))
  | .bl b => match x with
    | .bl a => some (.bl (!decide (a = b)))
    | _ => none
  | _ => none
theorem Rep.isNon {W : Wo} {p : Addr} {F : Hp} {v : V} {d : D} (r : Rep W p F v d) : decide (v = .non) = isNonD d := by
  cases r <;> rfl
def rIsA : R2 := fun x y H Q => (y = .non ∧ Q (.bl (decide (x = .non))) H) ∨ rIsB x y H Q
def rIsntA : R2 := fun x y H Q => (y = .non ∧ Q (.bl (!decide (x = .non))) H) ∨ rNotB x y H Q
theorem op_isA {X : Cx} : OpR X (compareOp .Is) rIsA := op_isN.or op_isBl
theorem op_isntA {X : Cx} : OpR X (compareOp .IsNot) rIsntA := op_notN.or op_notBl
theorem m_is {W : Wo} : OpM W rIsA isD := by
  intro p F H u x y a b Q gd rx ry h
  obtain ⟨d, e, _⟩ := lft_some h
  unfold isD at e
  split at e
  · cases e
    exact .inl ⟨ry.non_, by rw [rx.isNon]; exact OpM.ret gd h rfl (.bl _)⟩
  · split at e
    · rename_i k l
      cases e
      exact .inr ⟨_, _, rx.bl_, ry.bl_, OpM.ret gd h rfl (.bl _)⟩
    · cases e
  · cases e
theorem m_isnt {W : Wo} : OpM W rIsntA isntD := by
  intro p F H u x y a b Q gd rx ry h
  obtain ⟨d, e, _⟩ := lft_some h
  unfold isntD at e
  split at e
  · cases e
    exact .inl ⟨ry.non_, by rw [rx.isNon]; exact OpM.ret gd h rfl (.bl _)⟩
  · split at e
    · rename_i k l
      cases e
      exact .inr ⟨_, _, rx.bl_, ry.bl_, OpM.ret gd h rfl (.bl _)⟩
    · cases e
  · cases e
def ixD : D → D → Option D
  | .lst ds, .int i => atI ds i
  | .tup ds, .int i => atI ds i
  | .scr ns, .int i => (atI ns i).map .int
  | .str x, .int i => if x.length ≤ 10000000 then (atI x.cps.toList i).map fun c => .str ⟨#[c]⟩ else none
  | _, _ => none
theorem atI_map {α β : Type} (f : α → β) (l : List α) (i : Int) : L2.atI (l.map f) i = (L2.atI l i).map f := by
  unfold L2.atI
  rw [List.length_map]
  cases ixN l.length i with
  | none => rfl
  | some n => show (l.map f)[n]? = (l[n]?).map f; rw [List.getElem?_map]
theorem Reps.atI {W : Wo} {p : Addr} {F : Hp} {vs : List V} {ds : List D} {i : Int} {d : D} (r : Reps W p F vs ds) (h : atI ds i = some d) : ∃ v, L2.atI vs i = some v ∧ Rep W p F v d := by
  unfold L2.atI at h ⊢
  rw [r.1]
  cases hj : ixN ds.length i with
  | none => rw [hj] at h; cases h
  | some n =>
    rw [hj] at h
    obtain ⟨v, ev, rv⟩ := r.get h
    exact ⟨v, ev, rv⟩
theorem m_ix {W : Wo} : OpM W (rIx W.K) ixD := by
  intro p F H u x y a b Q gd rx ry h
  obtain ⟨d, e, _⟩ := lft_some h
  unfold ixD at e
  split at e
  · obtain ⟨q, vs, rfl, hq, r⟩ := rx.lst_
    obtain ⟨v, ev, rv⟩ := r.atI e
    exact .inl ⟨q, vs, _, v, rfl, ry.int_, SqL.of (gd.ex _ _ hq), ev, OpM.ret gd h e rv⟩
  · obtain ⟨q, vs, rfl, hq, r⟩ := rx.tup_
    obtain ⟨v, ev, rv⟩ := r.atI e
    exact .inr (.inl ⟨q, vs, _, v, rfl, ry.int_, sq_t gd.ex hq, ev, OpM.ret gd h e rv⟩)
  · rename_i ns i
    obtain ⟨q, rfl, hq⟩ := rx.scr_
    cases e1 : L2.atI ns i with
    | none => rw [e1] at e; cases e
    | some n =>
      rw [e1] at e
      cases e
      exact .inl ⟨q, _, _, .int n, rfl, ry.int_, sq_l gd.ex hq, by rw [atI_map, e1]; rfl, OpM.ret gd h (show (L2.atI ns i).map D.int = some (.int n) by rw [e1]; rfl) (.int n)⟩
  · rename_i z i
    split at e
    · rename_i hl
      cases e1 : L2.atI z.cps.toList i with
      | none => rw [e1] at e; cases e
      | some k =>
        rw [e1] at e
        cases e
        exact .inr (.inr ⟨z, i, k, rx.str_, ry.int_, Nat.le_trans hl (by decide), e1, OpM.ret gd h (show (if z.length ≤ 10000000 then (L2.atI z.cps.toList i).map fun c => D.str ⟨#[c]⟩ else none) = some (.str ⟨#[k]⟩) by rw [if_pos hl, e1]; rfl) (.str _)⟩)
    · cases e
  · cases e
end Mi

set_option Elab.async false
set_option linter.all false
set_option maxRecDepth 100000
set_option maxHeartbeats 2000000
/-! Mi6: mirrors of built-ins, slices, in, isinstance. -/
namespace Mi
open PySem PySem.Spec PyProof.Rows L2
variable [TB : Tabl]

/-! ### flat data -/
def flatD : D → Option V
  | .non => some .non
  | .bl b => some (.bl b)
  | .int i => some (.int i)
  | .str x => some (.str x)
  | _ => none
theorem flatD_rep {W : Wo} {p : Addr} {F : Hp} {v w : V} {d : D} (r : Rep W p F v d) (h : flatD d = some w) : v = w ∧ flatV w = true := by
  cases r <;> first | (cases h; exact ⟨rfl, rfl⟩) | cases h
def flatDs : List D → Option (List V)
  | [] => some []
  | d :: ds => match flatD d, flatDs ds with
    | some a, some as => some (a :: as)
    | _, _ => none
theorem flatDs_rep {W : Wo} {p : Addr} {F : Hp} : ∀ {vs ws : List V} {ds : List D}, Reps W p F vs ds → flatDs ds = some ws → vs = ws ∧ ws.all flatV = true
  | vs, ws, [], r, h => by cases h; rw [r.none]; exact ⟨rfl, rfl⟩
  | vs, ws, d :: ds, r, h => by
    obtain ⟨v, vr, rfl, r1, r2⟩ := r.uncons
    unfold flatDs at h
    split at h
    · rename_i a as e1 e2
      cases h
      obtain ⟨h1, h2⟩ := flatD_rep r1 e1
      obtain ⟨h3, h4⟩ := flatDs_rep r2 e2
      subst h1 h3
      exact ⟨rfl, by rw [List.all_cons, h2, h4]; rfl⟩
    · cases h
def inS (x y : D) : Option Bool := match x, y with
  | .str a, .str z => match a.cps.toList with
    | [c] => some (decide (c ∈ z.cps.toList))
    | _ => none
  | _, _ => none
def inB (x y : D) : Option Bool := match flatD x with
  | some a => match y with
    | .lst ds => (flatDs ds).map fun ws => inV a ws
    | .tup ds => (flatDs ds).map fun ws => inV a ws
    | _ => none
  | none => none
def inA (x y : D) : Option Bool := match y with
  | .str _ => inS x y
  | _ => inB x y
def inD : D → D → Option D := fun x y => (inA x y).map .bl
def ninD : D → D → Option D := fun x y => (inA x y).map fun b => .bl (!b)
theorem inB_some {W : Wo} {p : Addr} {F H : Hp} {x y : V} {a b : D} {r : Bool} (sm : Same F H) (rx : Rep W p F x a) (ry : Rep W p F y b) (e : inB a b = some r) :
    ∃ q xs, y = .ref q ∧ (SqL W.K H q xs ∨ SqT W.K H q xs) ∧ flatV x = true ∧ xs.all flatV = true ∧ inV x xs = r := by
  unfold inB at e
  split at e
  · rename_i v hv
    obtain ⟨h1, h2⟩ := flatD_rep rx hv
    subst h1
    split at e
    · rename_i ds
      obtain ⟨q, vs, rfl, hq, rs⟩ := ry.lst_
      cases e1 : flatDs ds with
      | none => rw [e1] at e; cases e
      | some ws =>
        rw [e1] at e
        cases e
        obtain ⟨h3, h4⟩ := flatDs_rep rs e1
        subst h3
        exact ⟨q, vs, rfl, .inl (SqL.of (sm _ _ hq)), h2, h4, rfl⟩
    · rename_i ds
      obtain ⟨q, vs, rfl, hq, rs⟩ := ry.tup_
      cases e1 : flatDs ds with
      | none => rw [e1] at e; cases e
      | some ws =>
        rw [e1] at e
        cases e
        obtain ⟨h3, h4⟩ := flatDs_rep rs e1
        subst h3
        exact ⟨q, vs, rfl, .inr (sq_t sm hq), h2, h4, rfl⟩
    · cases e
  · cases e
theorem inS_some {W : Wo} {p : Addr} {F : Hp} {x y : V} {a b : D} {r : Bool} (rx : Rep W p F x a) (ry : Rep W p F y b) (e : inS a b = some r) :
    ∃ (c : Nat) (z : Str), x = .str ⟨#[c]⟩ ∧ y = .str z ∧ decide (c ∈ z.cps.toList) = r := by
  unfold inS at e
  split at e
  · rename_i i z
    split at e
    · rename_i c hc
      cases e
      refine ⟨c, z, ?_, ry.str_, rfl⟩
      rw [rx.str_]
      congr 1
      cases i with
      | mk cps =>
        have : cps = #[c] := by
          apply Array.toList_inj.mp
          simpa using hc
        rw [this]
    · cases e
  · cases e
def rInA (K : PySem.W.Frag) : R2 := fun x y H Q => rIn K false x y H Q ∨ ∃ (c : Nat) (z : Str), x = .str ⟨#[c]⟩ ∧ y = .str z ∧ Q (.bl (decide (c ∈ z.cps.toList))) H
def rNinA (K : PySem.W.Frag) : R2 := fun x y H Q => rIn K true x y H Q ∨ ∃ (c : Nat) (z : Str), x = .str ⟨#[c]⟩ ∧ y = .str z ∧ Q (.bl (!decide (c ∈ z.cps.toList))) H
theorem op_inA {X : Cx} : OpR X (compareOp .In) (rInA X.K) := op_in_seq.or op_in_sign
theorem op_ninA {X : Cx} : OpR X (compareOp .NotIn) (rNinA X.K) := op_notIn_seq.or op_notIn_sign
theorem inA_some {x y : D} {b : Bool} (h : inA x y = some b) : inS x y = some b ∨ inB x y = some b := by
  unfold inA at h
  split at h
  · exact .inl h
  · exact .inr h
theorem m_in {W : Wo} : OpM W (rInA W.K) inD := by
  intro p F H u x y a b Q gd rx ry h
  obtain ⟨d, e, _⟩ := lft_some h
  have e0 := e
  unfold inD at e
  cases e1 : inA a b with
  | none => rw [e1] at e; cases e
  | some r =>
    rw [e1] at e
    cases e
    rcases inA_some e1 with e1 | e1
    · obtain ⟨c, z, rfl, rfl, hr⟩ := inS_some rx ry e1
      exact .inr ⟨c, z, rfl, rfl, by rw [hr]; exact OpM.ret gd h e0 (.bl r)⟩
    · obtain ⟨q, xs, rfl, hq, h1, h2, h3⟩ := inB_some gd.ex rx ry e1
      exact .inl ⟨q, xs, rfl, hq, h1, h2, by rw [h3]; exact OpM.ret gd h e0 (.bl r)⟩
theorem m_nin {W : Wo} : OpM W (rNinA W.K) ninD := by
  intro p F H u x y a b Q gd rx ry h
  obtain ⟨d, e, _⟩ := lft_some h
  have e0 := e
  unfold ninD at e
  cases e1 : inA a b with
  | none => rw [e1] at e; cases e
  | some r =>
    rw [e1] at e
    cases e
    rcases inA_some e1 with e1 | e1
    · obtain ⟨c, z, rfl, rfl, hr⟩ := inS_some rx ry e1
      exact .inr ⟨c, z, rfl, rfl, by rw [hr]; exact OpM.ret gd h e0 (.bl (!r))⟩
    · obtain ⟨q, xs, rfl, hq, h1, h2, h3⟩ := inB_some gd.ex rx ry e1
      exact .inl ⟨q, xs, rfl, hq, h1, h2, by rw [h3]; exact OpM.ret gd h e0 (.bl (!r))⟩

/-! ### slices -/
abbrev MO := Env → M (Option Int)
def rdO (c : Cf) (m : MO) : TO := fun σ H Q => ∃ F u ρ, Sta c u F H σ ρ ∧ After c.p F H (m ρ u) fun o _ _ H' => Q o H'
def mOn : MO := fun _ => M.pure none
def mOs (m : ME) : MO := fun ρ => M.bind (m ρ) fun d => match d with
  | .int i => M.pure (some i)
  | _ => lft none
def cutD (xs : List D) (lo hi : Option Int) : List D := (xs.drop (HT.sIx xs.length 0 lo)).take (HT.sIx xs.length xs.length hi - HT.sIx xs.length 0 lo)
def slD (d : D) (lo hi : Option Int) : Option D := match d with
  | .lst ds => some (.lst (cutD ds lo hi))
  | .tup ds => some (.tup (cutD ds lo hi))
  | .scr ns => some (.lst (cutD (ns.map .int) lo hi))
  | .str x => if x.length ≤ 10000000 then some (.str (cutS x lo hi)) else none
  | _ => none
def mSl (m : ME) (ml mh : MO) : ME := fun ρ => M.bind (m ρ) fun d => M.bind (ml ρ) fun lo => M.bind (mh ρ) fun hi => lft (slD d lo hi)
theorem Reps.drop {W : Wo} {p : Addr} {F : Hp} {vs : List V} {ds : List D} (r : Reps W p F vs ds) (n : Nat) : Reps W p F (vs.drop n) (ds.drop n) :=
  ⟨by simp [r.1], fun i v d h1 h2 => r.2 (n + i) v d (by rw [List.getElem?_drop] at h1; exact h1) (by rw [List.getElem?_drop] at h2; exact h2)⟩
theorem Reps.take {W : Wo} {p : Addr} {F : Hp} {vs : List V} {ds : List D} (r : Reps W p F vs ds) (n : Nat) : Reps W p F (vs.take n) (ds.take n) := by
  refine ⟨by simp [r.1], fun i v d h1 h2 => ?_⟩
  by_cases hi : i < n
  · rw [List.getElem?_take_of_lt hi] at h1 h2
    exact r.2 i v d h1 h2
  · rw [List.getElem?_eq_none (by simp; omega)] at h1
    cases h1
theorem Reps.cut {W : Wo} {p : Addr} {F : Hp} {vs : List V} {ds : List D} (r : Reps W p F vs ds) (lo hi : Option Int) : Reps W p F (cutV vs lo hi) (cutD ds lo hi) := by
  unfold cutV cutD
  rw [r.1]
  exact (r.drop _).take _
theorem Reps.reverse {W : Wo} {p : Addr} {F : Hp} {vs : List V} {ds : List D} (r : Reps W p F vs ds) : Reps W p F vs.reverse ds.reverse := by
  refine ⟨by simp [r.1], fun i v d h1 h2 => ?_⟩
  have hi : i < vs.length := by
    have := (List.getElem?_eq_some_iff.mp h1).1
    simpa using this
  rw [List.getElem?_reverse hi] at h1
  rw [List.getElem?_reverse (by rw [← r.1]; exact hi), ← r.1] at h2
  exact r.2 _ v d h1 h2
theorem reps_ints {W : Wo} {p : Addr} {F : Hp} (ns : List Int) : Reps W p F (ns.map V.int) (ns.map D.int) := by
  induction ns with
  | nil => exact Reps.nil
  | cons n ns ih => exact Reps.cons (.int n) ih
def rSlAll (K : PySem.W.Frag) : V → Option Int → Option Int → Hp → VK → Prop := fun x lo hi H Q => rSlL K x lo hi H Q ∨ rSlA K x lo hi H Q ∨ rSlS x lo hi H Q
theorem cutD_whole {xs : List D} {lo hi : Option Int} (h : HT.sIx xs.length 0 lo = 0 ∧ HT.sIx xs.length xs.length hi = xs.length) : cutD xs lo hi = xs := by
  unfold cutD
  rw [h.1, h.2]
  simp
section
variable {X : Cx} {c : Cf} {e : Expr} {lo hi : Option Expr} {m : ME} {ml mh : MO} {pos p2 : Pos}
theorem dOn : PO X none (rdO c mOn) := by
  have h := po_none (X := X)
  exact ⟨fun pins s σ H Q I ⟨F, u, ρ, S, q⟩ => h.run pins s σ H Q I (After.now S.gd q)⟩
theorem dOs (he : DE X c e m) : PO X (some e) (rdO c (mOs m)) := by
  have h := po_some he
  refine ⟨fun pins s σ H Q I ⟨F, u, ρ, S, q⟩ => h.run pins s σ H Q I ⟨F, u, ρ, S, (After.split q).imp fun d u1 F1 H1 _ s1 g1 h1 v rv => ?_⟩⟩
  cases d with
  | int i =>
    have h2 : After c.p F1 H1 (some (some i, u1)) (fun o _ _ H' => Q o H') := h1
    exact ⟨i, rv.int_, After.now g1 h2⟩
  | _ => exact False.elim h1
theorem sl_all : SlR X (rSlAll X.K) := sl_list.or (sl_tupA.or sl_str)
theorem dSl (he : DE X c e m) (hl : PO X lo (rdO c ml)) (hh : PO X hi (rdO c mh)) (hK : X.K = c.W.K := by rfl) : DE X c (.Subscript e (.Slice lo hi none p2) pos) (mSl m ml mh) :=
  (pe_slice sl_all he hl hh).imp fun σ H Q ⟨F, u, ρ, S, h⟩ => ⟨F, u, ρ, S, (After.split h).imp fun d u1 F1 H1 _ s1 g1 h1 v rv => ⟨F1, u1, ρ, S.step s1 g1, (After.split h1).imp fun l u2 F2 H2 _ s2 g2 h2 => ⟨F2, u2, ρ, (S.step s1 g1).step s2 g2, (After.split h2).imp fun r u3 F3 H3 _ s3 g3 h3 => by
    have rv := rv.mono (s2.ef.trans s3.ef)
    obtain ⟨z, e1, _⟩ := lft_some h3
    rw [hK]
    unfold slD at e1
    split at e1
    · cases e1
      obtain ⟨a, vs, rfl, ha, ra⟩ := rv.lst_
      exact .inl ⟨a, vs, rfl, SqL.of (g3.ex _ _ ha), fun q hq => OpM.new g3 h3 rfl hq fun sm => Rep.mkL upd_same ((ra.mono sm).cut l r)⟩
    · cases e1
      obtain ⟨a, vs, rfl, ha, ra⟩ := id rv.tup_
      refine .inr (.inl ⟨a, vs, rfl, sq_t g3.ex ha, fun hw => ?_, fun _ q hq => OpM.new g3 h3 rfl hq fun sm => Rep.mkT upd_same ((ra.mono sm).cut l r)⟩)
      rw [ra.1] at hw
      exact OpM.ret g3 h3 rfl (by rw [cutD_whole hw]; exact rv)
    · rename_i ns _h _h2
      cases e1
      obtain ⟨a, rfl, ha⟩ := rv.scr_
      exact .inl ⟨a, _, rfl, sq_l g3.ex ha, fun q hq => OpM.new g3 h3 rfl hq fun sm => Rep.mkL upd_same ((reps_ints ns).cut l r)⟩
    · rename_i x _h _h2
      split at e1
      · rename_i hl
        cases e1
        exact .inr (.inr ⟨x, rv.str_, Nat.le_trans hl (by decide), OpM.ret g3 h3 (if_pos hl) (.str _)⟩)
      · cases e1
    · cases e1⟩⟩⟩
end

/-! ### built-ins -/
def lenD : List D → Option D := fun ds => match ds with
  | [.lst xs] => some (.int xs.length)
  | [.tup xs] => some (.int xs.length)
  | [.scr ns] => some (.int ns.length)
  | [.str x] => if x.length ≤ 10000000 then some (.int x.length) else none
  | _ => none
def rLenA (K : PySem.W.Frag) : List V → Hp → VK → Prop := fun xs H Q => (∃ p ys, xs = [.ref p] ∧ (SqL K H p ys ∨ SqT K H p ys) ∧ Q (.int ys.length) H) ∨ ∃ z, xs = [.str z] ∧ z.length ≤ sizeLine ∧ Q (.int z.length) H
theorem call_lenA {X : Cx} : CallR X (.builtin "len") (rLenA X.K) := call_len_seq.or call_len_str
theorem Reps.one {W : Wo} {p : Addr} {F : Hp} {vs : List V} {d : D} (r : Reps W p F vs [d]) : ∃ v, vs = [v] ∧ Rep W p F v d := by
  obtain ⟨v, vr, rfl, h, r2⟩ := r.uncons
  rw [r2.none]
  exact ⟨v, rfl, h⟩
theorem Reps.two {W : Wo} {p : Addr} {F : Hp} {vs : List V} {a b : D} (r : Reps W p F vs [a, b]) : ∃ v w, vs = [v, w] ∧ Rep W p F v a ∧ Rep W p F w b := by
  obtain ⟨v, vr, rfl, h, r2⟩ := r.uncons
  obtain ⟨w, rfl, h2⟩ := r2.one
  exact ⟨v, w, rfl, h, h2⟩
theorem m_len {W : Wo} : CallM W (rLenA W.K) lenD := by
  intro p F H u xs as Q gd r h
  obtain ⟨d, e, _⟩ := lft_some h
  unfold lenD at e
  split at e
  · cases e
    obtain ⟨v, rfl, rv⟩ := r.one
    obtain ⟨q, vs, rfl, hq, rs⟩ := rv.lst_
    exact .inl ⟨q, vs, rfl, .inl (SqL.of (gd.ex _ _ hq)), OpM.ret gd h rfl (by rw [rs.1]; exact .int _)⟩
  · cases e
    obtain ⟨v, rfl, rv⟩ := r.one
    obtain ⟨q, vs, rfl, hq, rs⟩ := rv.tup_
    exact .inl ⟨q, vs, rfl, .inr (sq_t gd.ex hq), OpM.ret gd h rfl (by rw [rs.1]; exact .int _)⟩
  · rename_i ns
    cases e
    obtain ⟨v, rfl, rv⟩ := r.one
    obtain ⟨q, rfl, hq⟩ := rv.scr_
    exact .inl ⟨q, _, rfl, .inl (sq_l gd.ex hq), OpM.ret gd h rfl (by rw [List.length_map]; exact .int _)⟩
  · rename_i x
    split at e
    · rename_i hl
      cases e
      obtain ⟨v, rfl, rv⟩ := r.one
      exact .inr ⟨x, by rw [rv.str_], Nat.le_trans hl (by decide), OpM.ret gd h (if_pos hl) (.int _)⟩
    · cases e
  · cases e
/-- ints out of data -/
def intsD : List D → Option (List Int)
  | [] => some []
  | .int i :: ds => (intsD ds).map (i :: ·)
  | _ => none
theorem intsD_rep {W : Wo} {p : Addr} {F : Hp} : ∀ {vs : List V} {ds : List D} {ns : List Int}, Reps W p F vs ds → intsD ds = some ns → vs = ns.map V.int
  | vs, [], ns, r, h => by cases h; exact r.none
  | vs, d :: ds, ns, r, h => by
    obtain ⟨v, vr, rfl, r1, r2⟩ := r.uncons
    cases d with
    | int i =>
      have h' : (intsD ds).map (i :: ·) = some ns := h
      cases e : intsD ds with
      | none => rw [e] at h'; cases h'
      | some ms =>
        rw [e] at h'
        cases h'
        rw [r1.int_, intsD_rep r2 e]
        rfl
    | _ => cases h
theorem intsD_map (ns : List Int) : intsD (ns.map D.int) = some ns := by
  induction ns with
  | nil => rfl
  | cons n ns ih => show (intsD (ns.map D.int)).map (n :: ·) = _; rw [ih]; rfl
def rSumT (K : PySem.W.Frag) : List V → Hp → VK → Prop := fun vs H Q => ∃ (a : Addr) (ns : List Int), vs = [V.ref a] ∧ SqT K H a (ns.map V.int) ∧ Q (.int ns.sum) H
theorem cr_sumT {X : Cx} (hc : X.calm = true) : CallR X (.builtin "sum") (rSumT X.K) := by
  intro pins s σ H vs us Q I r h
  obtain ⟨a, ns, rfl, hq, q⟩ := h
  obtain ⟨u1, rfl, ru⟩ := Vals.one r
  cases ru
  obtain ⟨its, rv, ht, hz⟩ := I.tuple hq
  have hi := Vals.ints rv
  obtain ⟨xs, e⟩ := hi.allInts.items
  have hn : numsOf (intItems xs).toList = ns := by rw [← e]; exact hi.numsOf
  rw [nums_intItems] at hn
  rw [e] at ht
  refine PySem.W.ktm_sumG (I.ok.hd hc) ht fun h' tk t' hk => ?_
  rw [preSum_eq, List.take_of_length_le (by simp), hn]
  exact ⟨.int ns.sum, H, I.kept (t' := tk) hk, ⟨_, rfl⟩, q⟩
def sumD : List D → Option D := fun ds => match ds with
  | [.lst xs] => (intsD xs).map fun ns => .int ns.sum
  | [.tup xs] => (intsD xs).map fun ns => .int ns.sum
  | _ => none
def rSumA (K : PySem.W.Frag) : List V → Hp → VK → Prop := fun vs H Q => rSum K vs H Q ∨ rSumT K vs H Q
theorem cr_sumA {X : Cx} (hc : X.calm = true) : CallR X (.builtin "sum") (rSumA X.K) := (cr_sum hc).or (cr_sumT hc)
theorem m_sum {W : Wo} : CallM W (rSumA W.K) sumD := by
  intro p F H u xs as Q gd r h
  obtain ⟨d, e, _⟩ := lft_some h
  unfold sumD at e
  split at e
  · rename_i ds
    obtain ⟨v, rfl, rv⟩ := r.one
    obtain ⟨q, vs, rfl, hq, rs⟩ := rv.lst_
    cases e1 : intsD ds with
    | none => rw [e1] at e; cases e
    | some ns =>
      rw [e1] at e
      cases e
      refine .inl ⟨q, ns, rfl, SqL.of (by rw [← intsD_rep rs e1]; exact gd.ex _ _ hq), OpM.ret gd h (show (intsD ds).map (fun ns => D.int ns.sum) = some (.int ns.sum) by rw [e1]; rfl) (.int _)⟩
  · rename_i ds
    obtain ⟨v, rfl, rv⟩ := r.one
    obtain ⟨q, vs, rfl, hq, rs⟩ := rv.tup_
    cases e1 : intsD ds with
    | none => rw [e1] at e; cases e
    | some ns =>
      rw [e1] at e
      cases e
      refine .inr ⟨q, ns, rfl, by rw [← intsD_rep rs e1]; exact sq_t gd.ex hq, OpM.ret gd h (show (intsD ds).map (fun ns => D.int ns.sum) = some (.int ns.sum) by rw [e1]; rfl) (.int _)⟩
  · cases e
def minL : List Int → Int
  | [] => 0
  | [a] => a
  | a :: b :: r => min a (minL (b :: r))
theorem minL_mem : ∀ {ns : List Int}, ns ≠ [] → minL ns ∈ ns ∧ ∀ y ∈ ns, minL ns ≤ y
  | [], h => absurd rfl h
  | [a], _ => by simp [minL]
  | a :: b :: r, _ => by
    obtain ⟨h1, h2⟩ := minL_mem (ns := b :: r) (by simp)
    refine ⟨?_, fun y hy => ?_⟩
    · show min a (minL (b :: r)) ∈ a :: b :: r
      by_cases hm : minL (b :: r) ≤ a
      · rw [Int.min_eq_right hm]; exact List.mem_cons_of_mem _ h1
      · rw [Int.min_eq_left (by omega)]; exact List.mem_cons_self ..
    · show min a (minL (b :: r)) ≤ y
      rcases List.mem_cons.mp hy with rfl | hy
      · exact Int.min_le_left ..
      · exact Int.le_trans (Int.min_le_right ..) (h2 y hy)
theorem minL_is {ns : List Int} {m : Int} (h1 : m ∈ ns) (h2 : ∀ y ∈ ns, m ≤ y) : minL ns = m := by
  have hne : ns ≠ [] := fun e => by rw [e] at h1; cases h1
  obtain ⟨h3, h4⟩ := minL_mem hne
  have := h2 _ h3
  have := h4 _ h1
  omega
def minD : List D → Option D := fun ds => match ds with
  | [.lst xs] => match intsD xs with
    | some (n :: ns) => some (.int (minL (n :: ns)))
    | _ => none
  | [.int a, .int b] => some (.int (if b < a then b else a))
  | _ => none
def rMinA (K : PySem.W.Frag) : List V → Hp → VK → Prop := fun vs H Q => rMin K vs H Q ∨ ∃ i j, vs = [.int i, .int j] ∧ Q (.int (if j < i then j else i)) H
theorem cr_minA {X : Cx} (hc : X.calm = true) : CallR X (.builtin "min") (rMinA X.K) := (cr_min hc).or (call_min2 hc)
theorem m_min {W : Wo} : CallM W (rMinA W.K) minD := by
  intro p F H u xs as Q gd r h
  obtain ⟨d, e, _⟩ := lft_some h
  have e0 := e
  unfold minD at e
  split at e
  · rename_i ds
    split at e
    · rename_i n ns e1
      cases e
      obtain ⟨v, rfl, rv⟩ := r.one
      obtain ⟨q, vs, rfl, hq, rs⟩ := rv.lst_
      refine .inl ⟨q, n :: ns, rfl, SqL.of (by rw [← intsD_rep rs e1]; exact gd.ex _ _ hq), by simp, fun m hm hle => ?_⟩
      rw [← minL_is hm hle]
      exact OpM.ret gd h e0 (.int _)
    · cases e
  · rename_i i j
    cases e
    obtain ⟨v, w, rfl, rv, rw⟩ := r.two
    exact .inr ⟨i, j, by rw [rv.int_, rw.int_], OpM.ret gd h e0 (.int _)⟩
  · cases e
def blsD : List D → Option (List Bool)
  | [] => some []
  | .bl i :: ds => (blsD ds).map (i :: ·)
  | _ => none
theorem blsD_rep {W : Wo} {p : Addr} {F : Hp} : ∀ {vs : List V} {ds : List D} {ns : List Bool}, Reps W p F vs ds → blsD ds = some ns → vs = ns.map V.bl
  | vs, [], ns, r, h => by cases h; exact r.none
  | vs, d :: ds, ns, r, h => by
    obtain ⟨v, vr, rfl, r1, r2⟩ := r.uncons
    cases d with
    | bl i =>
      have h' : (blsD ds).map (i :: ·) = some ns := h
      cases e : blsD ds with
      | none => rw [e] at h'; cases h'
      | some ms =>
        rw [e] at h'
        cases h'
        rw [r1.bl_, blsD_rep r2 e]
        rfl
    | _ => cases h
theorem blsD_map (ns : List Bool) : blsD (ns.map D.bl) = some ns := by
  induction ns with
  | nil => rfl
  | cons n ns ih => show (blsD (ns.map D.bl)).map (n :: ·) = _; rw [ih]; rfl
def allD : List D → Option D := fun ds => match ds with
  | [.lst xs] => (blsD xs).map fun bs => .bl (bs.all id)
  | _ => none
def anyD : List D → Option D := fun ds => match ds with
  | [.lst xs] => (blsD xs).map fun bs => .bl (bs.any id)
  | _ => none
theorem m_all {W : Wo} : CallM W (rAll W.K) allD := by
  intro p F H u xs as Q gd r h
  obtain ⟨d, e, _⟩ := lft_some h
  have e0 := e
  unfold allD at e
  split at e
  · rename_i ds
    cases e1 : blsD ds with
    | none => rw [e1] at e; cases e
    | some bs =>
      rw [e1] at e
      cases e
      obtain ⟨v, rfl, rv⟩ := r.one
      obtain ⟨q, vs, rfl, hq, rs⟩ := rv.lst_
      exact ⟨q, bs, rfl, SqL.of (by rw [← blsD_rep rs e1]; exact gd.ex _ _ hq), OpM.ret gd h e0 (.bl _)⟩
  · cases e
theorem m_any {W : Wo} : CallM W (rAny W.K) anyD := by
  intro p F H u xs as Q gd r h
  obtain ⟨d, e, _⟩ := lft_some h
  have e0 := e
  unfold anyD at e
  split at e
  · rename_i ds
    cases e1 : blsD ds with
    | none => rw [e1] at e; cases e
    | some bs =>
      rw [e1] at e
      cases e
      obtain ⟨v, rfl, rv⟩ := r.one
      obtain ⟨q, vs, rfl, hq, rs⟩ := rv.lst_
      exact ⟨q, bs, rfl, SqL.of (by rw [← blsD_rep rs e1]; exact gd.ex _ _ hq), OpM.ret gd h e0 (.bl _)⟩
  · cases e
def absD : List D → Option D := fun ds => match ds with
  | [.int i] => some (.int (if i < 0 then -i else i))
  | _ => none
theorem m_abs {W : Wo} : CallM W (fun xs H Q => ∃ i, xs = [.int i] ∧ Q (.int (if i < 0 then -i else i)) H) absD := by
  intro p F H u xs as Q gd r h
  obtain ⟨d, e, _⟩ := lft_some h
  have e0 := e
  unfold absD at e
  split at e
  · rename_i i
    cases e
    obtain ⟨v, rfl, rv⟩ := r.one
    exact ⟨i, by rw [rv.int_], OpM.ret gd h e0 (.int _)⟩
  · cases e
/-- int(n) of an int -/
def int1D : List D → Option D := fun ds => match ds with
  | [.int i] => some (.int i)
  | _ => none
theorem m_int1 {W : Wo} : CallM W (fun xs H Q => (∃ i, xs = [.int i] ∧ Q (.int i) H) ∨ ∃ k, xs = [.bl k] ∧ Q (.int (if k then 1 else 0)) H) int1D := by
  intro p F H u xs as Q gd r h
  obtain ⟨d, e, _⟩ := lft_some h
  have e0 := e
  unfold int1D at e
  split at e
  · rename_i i
    cases e
    obtain ⟨v, rfl, rv⟩ := r.one
    exact .inl ⟨i, by rw [rv.int_], OpM.ret gd h e0 (.int _)⟩
  · cases e
def tupD : List D → Option D := fun ds => match ds with
  | [.lst xs] => some (.tup xs)
  | [.tup xs] => some (.tup xs)
  | _ => none
theorem m_tup {W : Wo} : CallM W (fun xs H Q => ∃ p ys, xs = [.ref p] ∧ ((SqL W.K H p ys ∧ ∀ l, H l = none → Q (.ref l) (upd H l (.tup ys))) ∨ (SqT W.K H p ys ∧ Q (.ref p) H))) tupD := by
  intro p F H u xs as Q gd r h
  obtain ⟨d, e, _⟩ := lft_some h
  have e0 := e
  unfold tupD at e
  split at e
  · cases e
    obtain ⟨v, rfl, rv⟩ := r.one
    obtain ⟨q, vs, rfl, hq, rs⟩ := rv.lst_
    exact ⟨q, vs, rfl, .inl ⟨SqL.of (gd.ex _ _ hq), fun l hl => OpM.new gd h e0 hl fun sm => Rep.mkT upd_same (rs.mono sm)⟩⟩
  · cases e
    obtain ⟨v, rfl, rv⟩ := r.one
    obtain ⟨q, vs, rfl, hq, rs⟩ := id rv.tup_
    exact ⟨q, vs, rfl, .inr ⟨sq_t gd.ex hq, OpM.ret gd h e0 rv⟩⟩
  · cases e
def dmC (i j : Int) : Bool := decide (0 < j) && !Builtin.divisionGoesByPylong i j
def dmD : List D → Option D := fun ds => match ds with
  | [.int i, .int j] => if dmC i j = true then some (.tup [.int (i / j), .int (i % j)]) else none
  | _ => none
theorem m_dm {W : Wo} : CallM W (fun xs H Q => ∃ i j, xs = [.int i, .int j] ∧ CDivP i j ∧ ∀ p, H p = none → Q (.ref p) (upd H p (.tup [.int (i / j), .int (i % j)]))) dmD := by
  intro p F H u xs as Q gd r h
  obtain ⟨d, e, _⟩ := lft_some h
  have e0 := e
  unfold dmD at e
  split at e
  · rename_i i j
    split at e
    · rename_i hc
      cases e
      obtain ⟨v, w, rfl, rv, rw⟩ := r.two
      have hcc := Bool.and_eq_true_iff.mp (show (decide (0 < j) && !Builtin.divisionGoesByPylong i j) = true from hc)
      exact ⟨i, j, by rw [rv.int_, rw.int_], ⟨of_decide_eq_true hcc.1, by have := hcc.2; simpa using this⟩, fun l hl => OpM.new gd h e0 hl fun sm => Rep.mkT upd_same (Reps.cons (.int _) (Reps.cons (.int _) Reps.nil))⟩
    · cases e
  · cases e

/-! ### isinstance -/
def tyN : D → Option String
  | .non => some "NoneType"
  | .bl _ => some "bool"
  | .int _ => some "int"
  | .str _ => some "str"
  | .tup _ => some "tuple"
  | .lst _ => some "list"
  | .dct _ _ => some "dict"
  | _ => none
/-- what isinstance asks of the classes -/
structure IsiOk (W : Wo) : Prop where
  ty : ∀ c ∈ W.cs, ∀ (H : Hp) (a dx : Addr) (fs : List (Str × V)), H a = some (.ins (W.cl c) dx fs) → TyOf W.K H (.ref a) (.ref (W.cl c))
  own : ∀ c ∈ W.cs, ∀ k ∈ W.cs, PySem.W.kitOne W.K (.ref (W.cl c)) (.ref (W.cl k)) = some (subC c k)
  bi : ∀ a ∈ ["NoneType", "bool", "int", "str", "tuple", "list", "dict"], ∀ k ∈ W.cs, PySem.W.kitOne W.K (.type a) (.ref (W.cl k)) = some false
  ob : ∀ c ∈ W.cs, ∀ n ∈ ["int", "bool", "str", "tuple", "list"], PySem.W.kitOne W.K (.ref (W.cl c)) (.type n) = some false
def isiB (x y : D) : Option Bool := match y with
  | .ty n => match tyN x with
    | some a => if decide (n ∈ ["int", "bool", "str", "tuple", "list"]) = true then kitB a n else none
    | none => match x with
      | .obj _ _ _ => if n ∈ ["int", "bool", "str", "tuple", "list"] then some false else none
      | _ => none
  | .cls k => match tyN x with
    | some _ => some false
    | none => match x with
      | .obj c _ _ => some (subC c k)
      | _ => none
  | _ => none
def isiD : List D → Option D := fun ds => match ds with
  | [x, y] => (isiB x y).map .bl
  | _ => none
theorem tyN_mem {x : D} {a : String} (h : tyN x = some a) : a ∈ ["NoneType", "bool", "int", "str", "tuple", "list", "dict"] := by
  cases x <;> first | (cases h; decide) | cases h
theorem tyN_ty {W : Wo} {p : Addr} {F H : Hp} {v : V} {x : D} {a : String} (sm : Same F H) (r : Rep W p F v x) (h : tyN x = some a) : TyX W.K H v (.type a) := by
  cases r with
  | non => cases h; exact .base .non
  | bl b => cases h; exact .base (.bl b)
  | int i => cases h; exact .base (.int i)
  | str i => cases h; exact .base (.str i)
  | tup ht _ _ =>
    cases h
    rcases ht with (ht | ⟨o, ht⟩) | ⟨o, its, n, hk, hc, _⟩
    · exact .base (.tup (sm _ _ ht))
    · exact .fTuple (sm _ _ ht)
    · exact .kTuple hk hc
  | lst ht _ _ => cases h; exact .base (.lst (sm _ _ ht))
  | dct ht _ _ => cases h; exact .base (.dK (sm _ _ ht))
  | _ => cases h
theorem m_isi {W : Wo} (I : IsiOk W) : CallM W (rIsi W.K) isiD := by
  intro p F H u xs as Q gd r h
  obtain ⟨d, e, _⟩ := lft_some h
  have e0 := e
  unfold isiD at e
  split at e
  case h_2 => cases e
  rename_i x y
  obtain ⟨v, w, rfl, rv, rw⟩ := r.two
  cases e1 : isiB x y with
  | none => rw [e1] at e; cases e
  | some b =>
    rw [e1] at e
    cases e
    have fin : Q (.bl b) H := OpM.ret gd h e0 (.bl b)
    unfold isiB at e1
    split at e1
    · rename_i n
      have hw := rw.ty_
      subst hw
      split at e1
      · rename_i a ha
        split at e1
        · exact ⟨v, .ty n, .type a, .type n, b, rfl, .ty n, tyN_ty gd.ex rv ha, kit_ty e1, fin⟩
        · cases e1
      · split at e1
        · rename_i c ks ds _
          split at e1
          · rename_i hh
            cases e1
            have hcc := rv.objc
            obtain ⟨a, dx, vs, rfl, ha, _⟩ := rv.obj_
            exact ⟨_, .ty n, _, .type n, false, rfl, .ty n, .base (I.ty c hcc H a dx _ (gd.ex _ _ ha)), I.ob c hcc n hh, fin⟩
          · cases e1
        · cases e1
    · rename_i k
      obtain ⟨hw, hk⟩ := rw.cls_
      subst hw
      split at e1
      · rename_i a ha
        cases e1
        exact ⟨v, .ref (W.cl k), .type a, .ref (W.cl k), false, rfl, .own _, tyN_ty gd.ex rv ha, I.bi a (tyN_mem ha) k hk, fin⟩
      · split at e1
        · rename_i c ks ds _
          cases e1
          have hcc := rv.objc
          obtain ⟨a, dx, vs, rfl, ha, _⟩ := rv.obj_
          exact ⟨_, .ref (W.cl k), _, .ref (W.cl k), _, rfl, .own _, .base (I.ty c hcc H a dx _ (gd.ex _ _ ha)), I.own c hcc k hk, fin⟩
        · cases e1
    · cases e1
end Mi


set_option Elab.async false
set_option linter.all false
set_option maxRecDepth 100000
set_option maxHeartbeats 4000000
/-! Mi8: objects made, == and != by an own __eq__, len by an own __len__, static methods. -/
namespace Mi
open PySem PySem.Spec PyProof.Rows L2
variable [TB : Tabl]

/-! ### a def called from within a built-in -/
section
variable {X : Cx} {k : Nat} {f : Addr} {fd : FuncData} {ps : List Str} {sp : Sp}
end

/-! ### == and != of two objects of one class -/
section
variable {X : Cx} {k : Nat} {f C : Addr} {fd : FuncData} {ps : List Str} {sp : Sp}
end
section
variable {X : Cx} {c : Cf} {k : Nat} {f : Addr} {fd : FuncData} {ps : List Str} {mf : List D → M D} {ck : Str} {a b : Expr} {ma mb : ME} {pos : Pos}
/-! ### len of an object -/
end

/-! ### static methods called off the class -/
section
variable {X : Cx} {c : Cf} {k n : Nat} {C q g : Addr} {mc : Value} {sp : Sp} {fd : FuncData} {ps ks : List Str} {o e : Expr} {es : List Expr} {kws : List Keyword} {m : Str} {pos apos : Pos} {ta : TE} {t tk : TA} {pl : Sem Bool}
end

/-! ### objects made -/
def spI (W : Wo) (ck : Str) (n : Nat) (mf : List D → M (List Str × List D)) : Sp := fun vs H Q _ => vs.length = n + 1 ∧ ∃ p F u H1 x dx ws ds, vs = .ref x :: ws ∧ H1 x = none ∧ H1 dx = none ∧ dx ≠ x ∧
  H = upd (upd H1 dx (.own x)) x (.ins (W.cl ck) dx []) ∧ Gd p u F H1 ∧ Reps W p F ws ds ∧ After p F H1 (mf ds u) fun r _ F' H' => ∀ dx' vs', F' x = none → H' x = some (.ins (W.cl ck) dx' (r.1.zip vs')) → r.1.length = vs'.length → Reps W p F' vs' r.2 → Q .non H'
def startI (n : Nat) (ck : Str) (ds : List D) : Env := .oi ck [] [] :: startE (n - 1) ds
def mInit (n : Nat) (ck : Str) (mb : MS) : List D → M (List Str × List D) := fun ds u => match mb (startI n ck ds) u with
  | some (.nx ρ', u') => match (ρ'[0]? : Option Sd) with
    | some (Sd.oi k ks es) => if k = ck then some ((ks, es), u') else none
    | _ => none
  | _ => none
section
variable {P : Program} {w : World} {K : PySem.W.Frag} {mg : Str → Option Value} {base : Heap} {x qual : Str} {params : Arguments} {body : List Stmt} {scope : Scope} {dvs : List V} {kws : List (Str × V)} {f : Addr} {fd : FuncData} {W : Wo} {N ps : List Str} {k n : Nat} {mb : MS} {ck nm : Str}
theorem fn_init (F : FunD K x qual params body scope dvs kws f fd) (S : FnScope (nm :: N) ps scope) (hl : ps.length = n + 1)
    (hb : ∀ (cdv : Value) (A : Around) (outer : List PySem.Env) (s : Shared) (H : Hp) (E : XK) (p : Addr) (F0 H0 : Hp) (sf : Addr), Room k (A.deeper (envOfC qual scope s.heap.objs.size f cdv)) → DB (cxOf CX0 P w K mg base (nm :: N) qual scope f cdv A outer s H E).nox ⟨W, p, F0, H0, sf, noX⟩ body mb) :
    FnOk P w K mg base CX0 (k + 1) f fd ps (spI W ck n (mInit (N.length + 1) ck mb)) := by
  refine F.ok S (fun vs H Q E h => h.1.trans hl.symm) (fun cdv A outer s H vs Q E hr h => ?_)
  obtain ⟨hlen, p, F0, u, H1, x, dx, ws, ds, rfl, hx, hdx, hne, rfl, g, r, h⟩ := h
  have hpx : p ≠ x := fun z => g.ne (z ▸ hx)
  have hpd : p ≠ dx := fun z => g.ne (z ▸ hdx)
  have s1 : Stp p F0 H1 F0 (upd (upd H1 dx (.own x)) x (.ins (W.cl ck) dx [])) := ⟨fun _ _ e => e, fun a o _ e _ => by rw [upd_ne (ne_of_none e hx), upd_ne (ne_of_none e hdx)]; exact e, fun a ps _ e => ⟨ps, by rw [upd_ne (ne_of_none e hx), upd_ne (ne_of_none e hdx)]; exact e⟩, fun _ _ e => .inl e⟩
  have g1 : Gd p u F0 (upd (upd H1 dx (.own x)) x (.ins (W.cl ck) dx [])) := ⟨fun a o e => by rw [upd_ne (ne_of_none (g.ex a o e) hx), upd_ne (ne_of_none (g.ex a o e) hdx)]; exact g.ex a o e, by rw [upd_ne hpx, upd_ne hpd]; exact g.pu, g.off, g.nt, g.tb.ext fun b o e => by rw [upd_ne (ne_of_none e hx), upd_ne (ne_of_none e hdx)]; exact e, g.hp⟩
  have hFx : F0 x = none := g.fresh hx
  refine ⟨_, PSs.nox (hb cdv A outer s _ E p F0 H1 x hr), F0, u, startI (N.length + 1) ck ds, ⟨s1, g1, ?_⟩, ?_⟩
  · have e0 := env_start (c := ⟨W, p, F0, H1, x, noX⟩) (H := upd (upd H1 dx (.own x)) x (.ins (W.cl ck) dx [])) (N := N) r
    have es : L2.start (nm :: N) (.ref x :: ws) = some (.ref x) :: L2.start N ws := by
      unfold L2.start
      rw [List.length_cons, List.length_cons, Nat.add_sub_add_right]
      rfl
    have er : startI (N.length + 1) ck ds = .oi ck [] [] :: startE N.length ds := rfl
    rw [es, er]
    have nown : ∀ {i : Nat} {s : Sd}, (startE N.length ds)[i]? = some s → s.own = false := fun {i s} e => by
      unfold startE at e
      by_cases hi : i < (ds.map Sd.sh).length
      · rw [List.getElem?_append_left hi, List.getElem?_map] at e
        cases q : ds[i]? with
        | none => rw [q] at e; cases e
        | some d => rw [q] at e; cases e; rfl
      · rw [List.getElem?_append_right (by omega), List.getElem?_replicate] at e
        split at e
        · cases e; rfl
        · cases e
    refine ⟨by simp [e0.len], fun i t e => ?_, fun i j t t' hij e1 e2 o1 o2 => ?_⟩
    · cases i with
      | zero =>
        simp at e
        subst e
        exact ⟨dx, [], rfl, upd_same, hFx, Ne.symm hpx, hx, rfl, Reps.nil⟩
      | succ i => exact e0.at_ i t (by simpa using e)
    · cases i with
      | zero =>
        cases j with
        | zero => exact absurd rfl hij
        | succ j => rw [nown (by simpa using e2)] at o2; cases o2
      | succ i => rw [nown (by simpa using e1)] at o1; cases o1
  · unfold mInit at h
    cases e : mb (startI (N.length + 1) ck ds) u with
    | none => rw [e] at h; exact h
    | some y =>
      obtain ⟨fl, u1⟩ := y
      rw [e] at h
      cases fl with
      | nx ρ' =>
        intro σ' F' H' _ S'
        have h' : After p F0 H1 (match (ρ'[0]? : Option Sd) with
          | some (Sd.oi k ks es) => if k = ck then some ((ks, es), u1) else none
          | _ => none) fun r _ F' H' => ∀ dx' vs', F' x = none → H' x = some (.ins (W.cl ck) dx' (r.1.zip vs')) → r.1.length = vs'.length → Reps W p F' vs' r.2 → Q .non H' := h
        split at h'
        · rename_i k' ks es e0
          split at h'
          · rename_i hk
            subst hk
            obtain ⟨dx', vs', _, h2, h3, _, _, h5, h6⟩ := S'.env.at_ 0 _ e0
            exact h' F' H' S'.ent S'.gd dx' vs' h3 h2 h5 h6
          · exact False.elim h'
        · exact False.elim h'
      | _ => exact False.elim h
end
/-- self.f = e -/
def mSelfSet (i : Nat) (ck fn : Str) (m : ME) : MS := fun ρ => M.bind (m ρ) fun d => M.bind (lft (match (ρ[i]? : Option Sd) with
  | some (Sd.oi k ks es) => if k = ck ∧ fn ∉ ks ∧ ks.length < 900 then some (ks, es) else none
  | _ => none)) fun q => M.pure (.nx (ρ.set i (.oi ck (q.1 ++ [fn]) (q.2 ++ [d]))))
theorem putF_zip {fn : Str} {y : V} : ∀ {ks : List Str} {vs : List V}, fn ∉ ks → ks.length = vs.length → putF fn y (ks.zip vs) = (ks ++ [fn]).zip (vs ++ [y])
  | [], vs, _, hl => by
    have : vs = [] := List.eq_nil_of_length_eq_zero (by simpa using hl.symm)
    subst this
    rfl
  | a :: ks, [], _, hl => by simp at hl
  | a :: ks, b :: vs, h, hl => by
    show (if a = fn then _ else (a, b) :: putF fn y (ks.zip vs)) = _
    rw [if_neg (fun z => h (by simp [z])), putF_zip (fun z => h (List.mem_cons_of_mem _ z)) (by simpa using hl)]
    rfl
section
variable {X : Cx} {c : Cf} {pos p0 tp : Pos} {e : Expr} {m : ME} {ck fn x : Str}
theorem dSelfSet (i : Nat) (hc : Cls X.K (c.W.cl ck)) (hn : NoAttr X.K (c.W.cl ck) fn) (he : DE X c e m) (hN : X.N[i]? = some x := by rfl) (hv : Vis X.env.scope x := by first | exact Or.inl rfl | exact Or.inr (Or.inl rfl) | exact Or.inr (Or.inr rfl)) (hd : (x == ("__debug__" : Str)) = false := by decide)
    (hcd : (x == ("__classdict__" : Str)) = false := by decide) (hs : swapsWith e (some (.Attribute (.Name x p0) fn tp)) pos.line X.env = pure false := by rfl) : DS X c (.Assign [.Attribute (.Name x p0) fn tp] e pos) (mSelfSet i ck fn m) :=
  (ps_fld (pe_var (i := i) hN hv hd hcd) he hs).imp fun Dn σ H ⟨F, u, ρ, S, h⟩ => ⟨F, u, ρ, S, (flowO.after S h).imp fun d u1 F1 H1 _ s1 g1 h1 v rv => by
    obtain ⟨⟨ks, es⟩, e1, h2⟩ := flowO.lft h1.1 h1.2
    split at e1
    · rename_i k' ks' es' e0
      split at e1
      · rename_i hh
        obtain ⟨rfl, hf, hl⟩ := hh
        cases e1
        have S1 := h1.1
        obtain ⟨dx, vs, q1, q2, q3, q4, q5, q6, q7⟩ := id (S1.env.at_ i _ e0)
        refine ⟨.ref c.sf, q1, c.sf, _, dx, _, rfl, q2, hc, hn, by rw [List.length_zip]; omega, h2 σ F1 _ (Same.refl _) ?_⟩
        rw [putF_zip hf q6]
        have qs : ∀ {j : Nat} {t : Sd} {a : Addr}, i ≠ j → ρ[j]? = some t → t.own = true → σ[j]? = some (some (.ref a)) → a ≠ c.sf := fun {j t a} ne e2 o z h => by
          subst h
          exact S1.env.ne i j _ t ne e0 e2 rfl o (q1.trans z.symm)
        refine ⟨⟨S1.ent.ef, fun a o ha e n => ?_, fun a ps ha e => by
          obtain ⟨qs, e1⟩ := S1.ent.et a ps ha e
          exact ⟨qs, by rw [upd_ne (fun z => by rw [z, q5] at e; cases e)]; exact e1⟩, S1.ent.nw⟩, ⟨fun a o e => ?_, by rw [upd_ne (Ne.symm q4)]; exact S1.gd.pu, S1.gd.off, S1.gd.nt, tabs_overI q2 S1.gd.tb, S1.gd.hp⟩, by simpa using S1.env.len, fun j t e2 => ?_, fun j k t t' h e1 e2 o1 o2 => ?_⟩
        · rw [upd_ne (fun z => by rw [z, q5] at e; cases e)]; exact S1.ent.eh a o ha e n
        · rw [upd_ne (fun z => by rw [z, q3] at e; cases e)]; exact S1.gd.ex a o e
        · rcases set_get e2 with ⟨rfl, rfl, _⟩ | ⟨ne, e2⟩
          · exact ⟨dx, vs ++ [v], q1, upd_same, q3, q4, q5, by simp [q6], q7.append (Reps.cons rv Reps.nil)⟩
          · have k := S1.env.at_ j t e2
            cases t with
            | un => trivial
            | sh d => exact k
            | ow ds' => obtain ⟨a, xs, z, ha, rest⟩ := k; exact ⟨a, xs, z, by rw [upd_ne (qs ne e2 rfl z)]; exact ha, rest⟩
            | oi kk ks' ds' => obtain ⟨dx', xs, z, ha, rest⟩ := k; exact absurd rfl (qs ne e2 rfl z)
            | od ks' ds' => obtain ⟨a, ob, xs, ws, z, ha, rest⟩ := k; exact ⟨a, ob, xs, ws, z, by rw [upd_ne (qs ne e2 rfl z)]; exact ha, rest⟩
        · have back : ∀ {m : Nat} {y : Sd}, (ρ.set i (Sd.oi k' (ks ++ [fn]) (es ++ [d])))[m]? = some y → y.own = true → ∃ y', ρ[m]? = some y' ∧ y'.own = true := fun {m y} z o => by
            rcases set_get z with ⟨rfl, rfl, _⟩ | ⟨_, z⟩
            · exact ⟨_, e0, rfl⟩
            · exact ⟨y, z, o⟩
          obtain ⟨y1, z1, p1⟩ := back e1 o1
          obtain ⟨y2, z2, p2⟩ := back e2 o2
          exact S1.env.ne j k y1 y2 h z1 z2 p1 p2
      · cases e1
    · cases e1⟩
end
/-- C(e, ..) -/
def mMake (ck : Str) (n : Nat) (mf : List D → M (List Str × List D)) (ms : MA) : ME := fun ρ => M.bind (ms ρ) fun ds => if ds.length = n then M.bind (mf ds) fun r => M.pure (.obj ck r.1 r.2) else lft none
section
variable {X : Cx} {c : Cf} {k n : Nat} {f : Addr} {fd : FuncData} {ps : List Str} {x ck : Str} {p pos : Pos} {e : Expr} {es : List Expr} {ms : MA} {mf : List D → M (List Str × List D)}
theorem make_ok {p : Addr} {F1 H1 : Hp} {u1 : PuS} {vs : List V} {ds : List D} {W : Wo} {Q : VK} (hc : ck ∈ W.cs) (g1 : Gd p u1 F1 H1) (rvs : Reps W p F1 vs ds) (h1 : After p F1 H1 ((if ds.length = n then M.bind (mf ds) fun r => M.pure (D.obj ck r.1 r.2) else lft none) u1) fun d _ F' H' => ∀ v, Rep W p F' v d → Q v H')
    (a dx : Addr) (ha : H1 a = none) (hdx : H1 dx = none) (hne : dx ≠ a) : spI W ck n mf (.ref a :: vs) (upd (upd H1 dx (.own a)) a (.ins (W.cl ck) dx [])) (fun v H2 => v = .non ∧ Q (.ref a) H2) E0 := by
  split at h1
  · rename_i hl
    refine ⟨by simp [rvs.1, hl], p, F1, u1, H1, a, dx, vs, ds, rfl, ha, hdx, hne, rfl, g1, rvs, ?_⟩
    unfold M.bind at h1
    cases e1 : mf ds u1 with
    | none => rw [e1] at h1; exact h1
    | some y =>
      obtain ⟨r, u2⟩ := y
      rw [e1] at h1
      have h2 : After p F1 H1 (some (D.obj ck r.1 r.2, u2)) fun d _ F' H' => ∀ v, Rep W p F' v d → Q v H' := h1
      intro F' H' s' g' dx' vs' hF hH hlk hr
      have hsm : Same F' (upd F' a (.ins (W.cl ck) dx' (r.1.zip vs'))) := fun b o e => by rw [upd_ne (fun z => by rw [z, hF] at e; cases e)]; exact e
      have hpa : p ≠ a := fun z => g1.ne (z ▸ ha)
      refine ⟨rfl, h2 (upd F' a (.ins (W.cl ck) dx' (r.1.zip vs'))) H' ⟨s'.ef.trans hsm, s'.eh, s'.et, fun b o e => ?_⟩ ⟨fun b o e => ?_, g'.pu, fun l e => by rw [upd_ne hpa]; exact g'.off l e, nt_upd g'.nt (by intro _ z; cases z), g'.tb, g'.hp⟩ (.ref a) (.obj hc upd_same hlk hr.1 fun i v d x y => (hr.2 i v d x y).mono hsm)⟩
      · by_cases hb : b = a
        · subst hb; exact .inr ha
        · rw [upd_ne hb] at e; exact s'.nw b o e
      · by_cases hb : b = a
        · subst hb; rw [upd_same] at e; cases e; exact hH
        · rw [upd_ne hb] at e; exact g'.ex b o e
  · exact False.elim h1
theorem dMake (hc : ck ∈ c.W.cs) (Mk' : Mk X.K (c.W.cl ck) f) (G : FnOk X.prog X.w X.K X.mg X.base CX0 k f fd ps (spI c.W ck n mf)) (hr : Room (k + 1) X.A) (hg : Gl X x) (hm : X.mg x = some (.ref (c.W.cl ck))) (hb : Binds X.K fd ps [])
    (ha : DA X c (e :: es) ms) (hdb : (x == ("__debug__" : Str)) = false := by decide) (he : starEach (e :: es) X.env = (false, eval e X.env) :: starEach es X.env := by rfl) (hpl : (backTo pos (starEach es X.env)).any (·.1) = false := by rfl) :
    DE X c (.Call (.Name x p) (e :: es) [] pos) (mMake ck n mf ms) :=
  (pe_make Mk' G hr hg hm hb .nil pass0 ha hdb he hpl).imp fun σ H Q ⟨F, u, ρ, S, h⟩ => ⟨F, u, ρ, S, (After.split h).imp fun ds u1 F1 H1 _ s1 g1 h1 vs rvs => by
    intro a dx ha hdx hne
    show spI c.W ck n mf (.ref a :: (vs ++ [])) _ _ _
    rw [List.append_nil]
    exact make_ok hc g1 rvs h1 a dx ha hdx hne⟩
end
end Mi

set_option Elab.async false
set_option linter.all false
set_option maxRecDepth 100000
set_option maxHeartbeats 4000000
/-! Mi9: enumerate and zip of tuples. -/
namespace PySem
theorem mi_meets_enum1 {v : Value} {o : Obj} {H : Heap → Prop} (B : Begins v o H) :
    Meets (Builtin.«enumerate.__new__» ⟨[.type "enumerate", v], []⟩) (fun _ R s => H s.heap ∧
      R (.ok (.ret (.ref (s.heap.push o).objs.size))) { s with heap := (s.heap.push o).push { cls := .type "enumerate", data := .fields #[.none, .bool false, .ref s.heap.objs.size, rawInt 0, .none, .none] } }) :=
  .of_wp fun prog w A R s h => by
    obtain ⟨hp, g, d, tk, os⟩ := s; obtain ⟨h1, h⟩ := h
    have hsub := sub_enumerate
    have q1 : ∀ {A' : Around} {E : Value → Shared → Prop} {Q : Value → Shared → Prop}, Q (.ref hp.objs.size) ⟨hp.push o, g, d, tk, os⟩ → wpAny (model prog w) A' (pyIter v) Q E ⟨hp, g, d, tk, os⟩ :=
      fun q => B.iter prog w _ _ ⟨hp, g, d, tk, os⟩ _ h1 q
    wp_walk using q1
    refine wpAny_stack_any fun st => wpAny_pure ?_
    split
    · rename_i c _ _ _ _ _
      cases (c == Value.type "enumerate")
      · wp_walk using q1
        exact ⟨_, rfl, h⟩
      · wp_walk using q1
        exact ⟨_, rfl, h⟩
    · wp_walk using q1
      exact ⟨_, rfl, h⟩
theorem mi_enum_begins1 {prog : Program} {w : World} {A : Around} {E : Value → Shared → Prop} {s : Shared} {v : Value} {o : Obj} {H : Heap → Prop} {Q : Value → Shared → Prop} (B : Begins v o H) (h1 : H s.heap)
    (h : ∀ h', IsEnum h' (s.heap.objs.size + 1) s.heap.objs.size 0 .none → h'.get? s.heap.objs.size = some o → h'.objs.size = s.heap.objs.size + 2 →
      (∀ b o, s.heap.get? b = some o → h'.get? b = some o) → Q (.ref (s.heap.objs.size + 1)) { s with heap := h' }) :
    wpAny (model prog w) A (call (.type "enumerate") [v]) Q E s := by
  refine callType_new F.called_enumerate (by decide) (F.typeCall_enumerate_1 _) (F.newCall_enumerate_1 _) (fun obj => F.args_object_init_2 obj _) F.entry_enumerate_new
    (mi_meets_enum1 B) ⟨h1, ?_⟩
  have hz : (s.heap.push o).objs.size = s.heap.objs.size + 1 := Heap.size_push ..
  show _ ∧ _
  rw [hz]
  have he : IsEnum ((s.heap.push o).push { cls := .type "enumerate", data := .fields #[.none, .bool false, .ref s.heap.objs.size, rawInt 0, .none, .none] }) (s.heap.objs.size + 1) s.heap.objs.size 0 .none := by
    have := Heap.get?_push_size (s.heap.push o) (o := { cls := .type "enumerate", data := .fields #[.none, .bool false, .ref s.heap.objs.size, rawInt 0, .none, .none] }) rfl
    rw [hz] at this; exact this
  refine ⟨⟨_, he, rfl⟩, h _ he (Heap.get?_push_of_some _ (Heap.get?_push_size _ B.free)) (by rw [Heap.size_push, hz]) fun b o x => Heap.get?_push_of_some _ (Heap.get?_push_of_some _ x)⟩
end PySem

namespace Mi
open PySem PySem.Spec PyProof.Rows L2
variable [TB : Tabl]
/-- the tuple at a, each item in a new pair -/
def IteT (K : PySem.W.Frag) (a : Addr) : It :=
  ⟨fun i H => ∃ (xs : List V) (x : V), SqT K H a xs ∧ xs[i]? = some x, fun i H v H' => ∃ T x, v = .ref T ∧ H T = none ∧ H' = upd H T (.tup [.int (i : Nat), x]) ∧ ∀ xs, SqT K H a xs → xs[i]? = some x, fun i H => ∃ xs : List V, SqT K H a xs ∧ xs.length ≤ i⟩
theorem turn_enumT {P : Program} {w : World} {K : PySem.W.Frag} {elts : List Expr} {kk : Nat} {tpos : Pos} (a e it : Addr) (hai : a ≠ it) (hae : a ≠ e) :
    Turn P w K (.Tuple elts kk tpos) (IteT K a) [e, it] e (fun i h => (∃ old, IsEnum h e it ((i : Nat) : Int) old) ∧ h.IsTupleIter it a i ∧ e ≠ it) where
  mem := by simp
  obj := fun i h st b hb => by
    obtain ⟨⟨old, he⟩, ⟨o, ho, hc, hd⟩, _⟩ := st
    have e' : b = e ∨ b = it := by simpa using hb
    rcases e' with z | z
    · rw [z]; exact ⟨_, he, fun v q => nomatch q⟩
    · rw [z]; exact ⟨o, ho, fun v q => by rw [hd] at q; cases q⟩
  keep := fun i h h' st k => let ⟨⟨old, he⟩, hi, hne⟩ := st; ⟨⟨old, k e (by simp) _ he⟩, hi.at fun o q => k it (by simp) o q, hne⟩
  item := by
    intro X hP hw hK hc i pins s σ H E I hf st hg
    subst hP hw hK
    obtain ⟨⟨old, he⟩, hit, hne⟩ := st
    obtain ⟨xs, x, hq, hx⟩ := hg
    obtain ⟨its, rv, p, hz⟩ := I.tuple hq
    obtain ⟨u, hu, ru⟩ := rv.get hx
    have hel : e < s.heap.objs.size := Heap.lt_size he
    have hil : it < s.heap.objs.size := by obtain ⟨_, q, _⟩ := hit; exact Heap.lt_size q
    have hlt : i < its.toArray.size := by
      have := (List.getElem?_eq_some_iff.mp hu).1
      simpa using this
    have hnf : e ∉ [it, a] := by simp [hne, Ne.symm hae]
    refine wpAny_pyNext_enum_itemD (Draws.tuple (A := X.A.in1) (I.ok.hd hc) it a hai its.toArray) he ⟨hit, p⟩ hlt hne hnf fun x' h' tk hP ho hst' hT hsz hk => ?_
    have ex : x' = u := by
      have e1 : its[i]? = some x' := by simpa using hP
      rw [hu] at e1
      exact (Option.some.inj e1).symm
    subst ex
    refine ⟨_, rfl, wpAny_letOwnedTupleGo_enum (s := { s with heap := h', toks := tk + 1 }) ho fun h'' he' sb => ?_⟩
    have hT2 : h''.get? s.heap.objs.size = some { cls := .type "tuple", data := .seq #[.int i tk, x'] } := (sb.2 _ (Nat.ne_of_gt hel)).trans hT
    have new : ObjOk X.prog X.w (upd H s.heap.objs.size (.tup [.int (i : Nat), x])) h'' s.heap.objs.size (.tup [.int (i : Nat), x]) :=
      ⟨by show 2 ≤ sizeLine; decide, [.int i tk, x'], .cons ⟨_, rfl⟩ (.cons ru .nil), ⟨_, hT2, rfl, _, rfl⟩⟩
    have I1 : Inv X pins σ (upd H s.heap.objs.size (.tup [.int (i : Nat), x])) { s with heap := h'', toks := tk + 1 } :=
      I.turnedNew (ch := [e, it]) (fun b ob hb q => (sb.2 b (fun z => hb (by simp [z]))).trans (hk b ob (fun z => hb (by simp [z])) (fun z => hb (by simp [z])) q)) hf (Nat.le_refl _) new
    refine ⟨.ref s.heap.objs.size, _, I1, rfl, ⟨_, x, rfl, I.hok.fresh (Nat.le_refl _), rfl, fun ys hy => by rw [I.tuple_inj hy hq]; exact hx⟩, ⟨⟨x', ?_⟩, hst'.1.at fun o q => (sb.2 it (Ne.symm hne)).trans q, hne⟩, fun b hb => ?_⟩
    · have e1 : ((i + 1 : Nat) : Int) = (i : Int) + 1 := by omega
      rw [e1]; exact he'
    · have hb' : b < s.heap.objs.size := by
        have e' : b = e ∨ b = it := by simpa using hb
        rcases e' with z | z
        · rw [z]; exact hel
        · rw [z]; exact hil
      rw [upd_ne (Nat.ne_of_lt hb')]
      exact (hf b hb).1
  done := by
    intro X hP hw hK hc i pins s σ H E I hf st hg
    subst hP hw hK
    obtain ⟨⟨old, he⟩, hit, hne⟩ := st
    obtain ⟨xs, hq, hx⟩ := hg
    obtain ⟨its, rv, p, hz⟩ := I.tuple hq
    obtain ⟨f0, f1, f2, f3, f4, f5⟩ := hf it (by simp)
    have hl := rv.length
    have hT : s.TypeIs (.ref e) "enumerate" := ⟨_, he, rfl⟩
    unfold pyNext
    refine wpAny_bind (wpAny_attempt (wpAny_callSpecial?_slot (name := Str.ofString "__next__") hT F.slot_enumerate_next
      (wpAny_call_entry F.slot_enumerate_next hT F.entry_enumerate_next ?_ (F.args_enumerate_next_1 _))))
    show wpAny _ _ (field (.ref e) 2 >>= _) _ _ _
    refine wpAny_bind (wpAny_field he rfl (x := .ref it) rfl ?_)
    refine wpAny_bind (wpAny_nextOf_tuple_end (I.ok.hd hc) hit p (by simp; omega) fun h' x' he' hx' => ?_)
    obtain ⟨o, ho, hcc⟩ := hx'
    refine wpAny_bind (wpAny_isInstance (T := "StopIteration") (b := true) ⟨o, ho, hcc⟩ isSubtype_stop ?_)
    exact wpAny_pure ⟨rfl, I.turned (t' := s.toks) (fun b o hb q => he' b o hb q) f0 f1 f3 f4 f5⟩
  self := fun A i s Q E st h => let ⟨⟨_, he⟩, _⟩ := st; wpAny_pyIter_enum he h
def iEnumT (K : PySem.W.Frag) (ta : TA) : TI := fun σ H R => ta σ H fun vs H1 => ∃ a xs, vs = [.ref a] ∧ SqT K H1 a xs ∧ R (IteT K a) H1
theorem pi_enumT {X : Cx} {e : Expr} {ta : TA} {p pos tpos : Pos} {elts : List Expr} {kk : Nat} (hg : Gl X "enumerate") (hm : X.mg "enumerate" = none) (ha : PA X [e] ta) (hs : starEach [e] X.env = [(false, eval e X.env)] := by rfl) :
    PI X (.Tuple elts kk tpos) (.Call (.Name "enumerate" p) [e] [] pos) (iEnumT X.K ta) := by
  refine ⟨fun pins s σ H R I h => ?_⟩
  refine Call_ (ld_blt I hg hm boot_enumerate (PyProof.Rows.callWith_type1 (thn (ha.run pos pins s σ H _ I h) fun us s1 ⟨vs, H1, I1, r1, q1⟩ => ?_) hs rfl))
  obtain ⟨a, xs, ex, hq, q⟩ := q1
  subst ex
  cases r1 with
  | cons r rr =>
    cases rr
    cases r
    obtain ⟨its, rv, p', hz⟩ := I1.tuple hq
    have la : a < s1.heap.objs.size := p'.lt
    refine mi_enum_begins1 (begins_tuple a its.toArray) p' fun h' he hit hsz hk => wpAny_pyIter_enum he ?_
    have I2 : Inv X pins σ H1 { s1 with heap := h' } := I1.kept (t' := s1.toks) hk
    refine ⟨s1.heap.objs.size + 1, [s1.heap.objs.size + 1, s1.heap.objs.size], _, _, H1, rfl, I2, turn_enumT a (s1.heap.objs.size + 1) s1.heap.objs.size (Nat.ne_of_lt la) (Nat.ne_of_lt (Nat.lt_succ_of_lt la)), ⟨⟨.none, he⟩, ⟨_, hit, rfl, rfl⟩, Nat.succ_ne_self _⟩, fun b hb => ?_, q⟩
    have e' : b = s1.heap.objs.size + 1 ∨ b = s1.heap.objs.size := by simpa using hb
    have hle : s1.heap.objs.size ≤ b := by
      rcases e' with z | z
      · rw [z]; exact Nat.le_add_right _ _
      · rw [z]; exact Nat.le_refl _
    exact I1.fpOk hle (I1.hok.fresh hle)
theorem walk_enumT {K : PySem.W.Frag} {a : Addr} {xs : List V} : Walk (IteT K a) xs.length (fun H => SqT K H a xs) (YPair (fun i => some (.int (i : Nat))) (fun i => xs[i]?)) := by
  refine ⟨fun i _ hi q => ⟨xs, xs[i], q, by simp [hi]⟩, fun _ q => ⟨xs, q, Nat.le_refl _⟩, fun i H v H' _ q y => ?_⟩
  obtain ⟨T, x, h1, h2, h3, h4⟩ := y
  exact ⟨T, .int (i : Nat), x, h1, h2, h3, rfl, h4 xs q⟩
theorem walk_zipT {K : PySem.W.Frag} {a b : Addr} {xs ys : List V} {n : Nat} (hn : n = min xs.length ys.length) : Walk (RZ.ItzT K a b) n (fun H => SqT K H a xs ∧ SqT K H b ys) (YPair (fun i => xs[i]?) (fun i => ys[i]?)) := by
  subst hn
  refine ⟨fun i _ hi q => ?_, fun _ q => ⟨xs, ys, q.1, q.2, by omega⟩, fun i H v H' _ q y => ?_⟩
  · have h1 : i < xs.length := by omega
    have h2 : i < ys.length := by omega
    exact ⟨xs, ys, xs[i], ys[i], q.1, q.2, by simp [h1], by simp [h2]⟩
  · obtain ⟨T, x, z, h1, h2, h3, h4, h5⟩ := y
    exact ⟨T, x, z, h1, h2, h3, h4 xs q.1, h5 ys q.2⟩
def enumT1 : List D → Option (List D) := fun ds => match ds with
  | [.tup xs] => some (enumD xs)
  | _ => none
def zipA2 : List D → Option (List D) := fun ds => match ds with
  | [.lst xs, .lst ys] => some (zipD xs ys)
  | [.tup xs, .tup ys] => some (zipD xs ys)
  | _ => none
section
variable {X : Cx} {c : Cf} {a b : Expr} {ms : MA} {pos q tpos : Pos} {elts : List Expr} {kk : Nat}
theorem dIenumT (hg : Gl X "enumerate") (hm : X.mg "enumerate" = none) (ha : DA X c [a] ms) (hs : starEach [a] X.env = [(false, eval a X.env)] := by rfl) (hK : X.K = c.W.K := by rfl) :
    DI X c (.Tuple elts kk tpos) (.Call (.Name "enumerate" q) [a] [] pos) (mIof enumT1 ms) :=
  (pi_enumT hg hm ha hs).imp fun σ H R ⟨F, u, ρ, S, h⟩ => ⟨F, u, ρ, S, (After.split h).imp fun ds u1 F1 H1 _ s1 g1 h1 vs rv => by
    obtain ⟨es, e1, h2⟩ := lft_some h1
    unfold enumT1 at e1
    split at e1
    · rename_i xs _h
      cases e1
      obtain ⟨v, vr, rfl, r1, r2⟩ := rv.uncons
      rw [r2.none]
      obtain ⟨p1, v1, rfl, f1, q1⟩ := r1.tup_
      refine ⟨p1, v1, rfl, by rw [hK]; exact sq_t g1.ex f1, After.now g1 h2 _ ?_⟩
      rw [hK]
      refine walkD_pair (n := v1.length) (by rw [enumD_len, q1.1]) walk_enumT (fun H e => sq_t e f1) fun i x y d hx hy hd => ?_
      obtain ⟨y', e2, rfl⟩ := enumD_at hd
      cases hx
      exact ⟨_, y', rfl, .int _, q1.2 i y y' hy e2⟩
    · cases e1⟩
theorem dIzipA (hg : Gl X "zip") (hm : X.mg "zip" = none) (ha : DA X c [a, b] ms) (hs : starEach [a, b] X.env = (false, eval a X.env) :: starEach [b] X.env := by rfl) (hpl : (backTo pos (starEach [b] X.env)).any (·.1) = false := by rfl) (hK : X.K = c.W.K := by rfl) :
    DI X c (.Tuple elts kk tpos) (.Call (.Name "zip" q) [a, b] [] pos) (mIof zipA2 ms) :=
  (RZ.pi_zipA hg hm ha hs hpl).imp fun σ H R ⟨F, u, ρ, S, h⟩ => ⟨F, u, ρ, S, (After.split h).imp fun ds u1 F1 H1 _ s1 g1 h1 vs rv => by
    obtain ⟨es, e1, h2⟩ := lft_some h1
    unfold zipA2 at e1
    split at e1
    · rename_i xs ys _h
      cases e1
      obtain ⟨v, vr, rfl, r1, r2⟩ := rv.uncons
      obtain ⟨w, wr, rfl, r3, r4⟩ := r2.uncons
      rw [r4.none]
      obtain ⟨p1, v1, rfl, f1, q1⟩ := r1.lst_
      obtain ⟨p2, v2, rfl, f2, q2⟩ := r3.lst_
      refine ⟨p1, p2, v1, v2, rfl, .inl ⟨SqL.of (g1.ex _ _ f1), SqL.of (g1.ex _ _ f2), After.now g1 h2 _ ?_⟩⟩
      rw [hK]
      refine walkD_pair (n := min v1.length v2.length) (by rw [zipD_len, q1.1, q2.1]) (walk_zip rfl) (fun H e => ⟨SqL.of (e _ _ f1), SqL.of (e _ _ f2)⟩) fun i x y d hx hy hd => ?_
      obtain ⟨x', y', e1, e2, rfl⟩ := zipD_at hd
      exact ⟨x', y', rfl, q1.2 i x x' hx e1, q2.2 i y y' hy e2⟩
    · rename_i xs ys _h
      cases e1
      obtain ⟨v, vr, rfl, r1, r2⟩ := rv.uncons
      obtain ⟨w, wr, rfl, r3, r4⟩ := r2.uncons
      rw [r4.none]
      obtain ⟨p1, v1, rfl, f1, q1⟩ := r1.tup_
      obtain ⟨p2, v2, rfl, f2, q2⟩ := r3.tup_
      refine ⟨p1, p2, v1, v2, rfl, .inr ⟨by rw [hK]; exact sq_t g1.ex f1, by rw [hK]; exact sq_t g1.ex f2, After.now g1 h2 _ ?_⟩⟩
      rw [hK]
      refine walkD_pair (n := min v1.length v2.length) (by rw [zipD_len, q1.1, q2.1]) (walk_zipT rfl) (fun H e => ⟨sq_t e f1, sq_t e f2⟩) fun i x y d hx hy hd => ?_
      obtain ⟨x', y', e1, e2, rfl⟩ := zipD_at hd
      exact ⟨x', y', rfl, q1.2 i x x' hx e1, q2.2 i y y' hy e2⟩
    · cases e1⟩
end
end Mi

set_option Elab.async false
set_option linter.all false
set_option maxRecDepth 100000
set_option maxHeartbeats 4000000
/-! MiA: parallel assignment with fresh lists, keyword calls, fresh slices. -/
namespace Mi
open PySem PySem.Spec PyProof.Rows L2
variable [TB : Tabl]

/-! ### lists of values, some of them fresh lists -/
abbrev MM := Env → M (List Sd)
structure Mats (W : Wo) (p : Addr) (F H H00 : Hp) (vs : List V) (sds : List Sd) : Prop where
  len : vs.length = sds.length
  at_ : ∀ (i : Nat) (v : V) (sd : Sd), vs[i]? = some v → sds[i]? = some sd → match sd with
    | .sh d => Rep W p F v d
    | .ow ds => ∃ q ws, v = .ref q ∧ H q = some (.lst ws) ∧ F q = none ∧ H00 q = none ∧ Reps W p F ws ds
    | _ => False
  ne : ∀ (i j : Nat) (s t : Sd), i ≠ j → sds[i]? = some s → sds[j]? = some t → s.own = true → t.own = true → vs[i]? ≠ vs[j]?
def rdM (c : Cf) (m : MM) : TA := fun σ H Q => ∃ F u ρ, Sta c u F H σ ρ ∧ After c.p F H (m ρ u) fun sds _ F' H' => ∀ vs, Mats c.W c.p F' H' H vs sds → Q vs H'
abbrev DM (X : Cx) (c : Cf) (es : List Expr) (m : MM) : Prop := PA X es (rdM c m)
def mMnil : MM := fun _ => M.pure []
def mMsh (m : ME) (ms : MM) : MM := fun ρ => M.bind (m ρ) fun d => M.bind (ms ρ) fun ds => M.pure (.sh d :: ds)
def mMow (m : MA) (ms : MM) : MM := fun ρ => M.bind (m ρ) fun d => M.bind (ms ρ) fun ds => M.pure (.ow d :: ds)
section
variable {X : Cx} {c : Cf} {pos : Pos} {e a b : Expr} {es : List Expr} {m : ME} {ml : MA} {ms : MM}
theorem dMnil : DM X c [] mMnil := pa_nil.imp fun σ H Q ⟨F, u, ρ, S, h⟩ => After.now S.gd h [] ⟨rfl, fun i v sd a _ => by simp at a, fun i j s t _ a _ => by simp at a⟩
theorem dMsh (ha : DE X c e m) (hr : DM X c es ms) (hs : starEach (e :: es) X.env = (false, eval e X.env) :: starEach es X.env := by rfl) : DM X c (e :: es) (mMsh m ms) :=
  (pa_cons ha hr hs).imp fun σ H Q ⟨F, u, ρ, S, h⟩ => ⟨F, u, ρ, S, (After.split h).imp fun d u1 F1 H1 _ s1 g1 h1 v rv => ⟨F1, u1, ρ, S.step s1 g1, (After.split h1).imp fun ds u2 F2 H2 _ s2 g2 h2 vs R => by
    refine After.now (p := c.p) (F := F2) (H := H2) (u := u2) g2 h2 (v :: vs) ⟨by simp [R.len], fun i w sd ea eb => ?_, fun i j s t hij ea eb o1 o2 => ?_⟩
    · cases i with
      | zero => simp at ea eb; subst ea; subst eb; exact rv.mono s2.ef
      | succ i =>
        simp at ea eb
        have := R.at_ i w sd ea eb
        cases sd with
        | sh d => exact this
        | ow ds => obtain ⟨q, ws, h1, h2, h3, h4, h5⟩ := this; exact ⟨q, ws, h1, h2, h3, s1.back g1.ne h4, h5⟩
        | _ => exact this
    · cases i with
      | zero => simp at ea; subst ea; cases o1
      | succ i =>
        cases j with
        | zero => simp at eb; subst eb; cases o2
        | succ j => simp at ea eb ⊢; exact R.ne i j s t (fun z => hij (by rw [z])) ea eb o1 o2⟩⟩
theorem dMow (ha : DL X c e ml) (hr : DM X c es ms) (hs : starEach (e :: es) X.env = (false, eval e X.env) :: starEach es X.env := by rfl) : DM X c (e :: es) (mMow ml ms) :=
  (pa_cons ha hr hs).imp fun σ H Q ⟨F, u, ρ, S, h⟩ => ⟨F, u, ρ, S, (After.split h).imp fun d u1 F1 H1 _ s1 g1 h1 q ws hF hn hq rw => ⟨F1, u1, ρ, S.step s1 g1, (After.split h1).imp fun ds u2 F2 H2 _ s2 g2 h2 vs R => by
    have hqp : q ≠ c.p := fun z => S.gd.ne (z ▸ hn)
    have hfar : ∀ (j : Nat) (t : Sd), ds[j]? = some t → t.own = true → vs[j]? ≠ some (.ref q) := fun j t ej o z => by
      have := R.at_ j _ t z ej
      cases t with
      | ow es' =>
        obtain ⟨q', ws', e1, _, _, e4, _⟩ := this
        cases e1
        rw [hq] at e4
        cases e4
      | oi _ _ _ => exact this
      | od _ _ => exact this
      | _ => cases o
    refine After.now (p := c.p) (F := F2) (H := H2) (u := u2) g2 h2 (.ref q :: vs) ⟨by simp [R.len], fun i w sd ea eb => ?_, fun i j s t hij ea eb o1 o2 => ?_⟩
    · cases i with
      | zero => simp at ea eb; subst ea; subst eb; exact ⟨q, ws, rfl, s2.eh q _ hqp hq (.inr (by intro _ z; cases z)), s2.off hF (by rw [hq]; simp), hn, rw.mono s2.ef⟩
      | succ i =>
        simp at ea eb
        have := R.at_ i w sd ea eb
        cases sd with
        | sh d => exact this
        | ow ds => obtain ⟨q, ws, h1, h2, h3, h4, h5⟩ := this; exact ⟨q, ws, h1, h2, h3, s1.back g1.ne h4, h5⟩
        | _ => exact this
    · cases i with
      | zero =>
        cases j with
        | zero => exact absurd rfl hij
        | succ j => simp at eb ⊢; exact fun z => hfar j t eb o2 z.symm
      | succ i =>
        cases j with
        | zero => simp at ea ⊢; exact fun z => hfar i s ea o1 z
        | succ j => simp at ea eb ⊢; exact R.ne i j s t (fun z => hij (by rw [z])) ea eb o1 o2⟩⟩
end
section
variable {c : Cf} {u : PuS} {F H : Hp} {σ : L2.St} {ρ : Env}
theorem Sta.setS {i : Nat} {v : V} {sd : Sd} (S : Sta c u F H σ ρ) (ok : SdOk c F H (some (some v)) sd) (far : sd.own = true → ∀ (j : Nat) (t : Sd), j ≠ i → ρ[j]? = some t → t.own = true → σ[j]? ≠ some (some v)) : Sta c u F H (σ.set i (some v)) (ρ.set i sd) := by
  refine ⟨S.ent, S.gd, by simpa using S.env.len, fun j t e => ?_, fun j k s t hjk e1 e2 o1 o2 => ?_⟩
  · rcases set_get e with ⟨rfl, rfl, hl⟩ | ⟨ne, e⟩
    · rw [List.getElem?_set_self (by rw [S.env.len]; exact hl)]; exact ok
    · rw [List.getElem?_set_ne ne]; exact S.env.at_ j t e
  · rcases set_get e1 with ⟨rfl, rfl, hl⟩ | ⟨n1, e1b⟩
    · rcases set_get e2 with ⟨h, _, _⟩ | ⟨n2, e2⟩
      · exact absurd h hjk
      · rw [List.getElem?_set_self (by rw [S.env.len]; exact hl), List.getElem?_set_ne n2]
        exact fun z => far o1 k t (Ne.symm n2) e2 o2 z.symm
    · rcases set_get e2 with ⟨rfl, rfl, hl⟩ | ⟨n2, e2⟩
      · rw [List.getElem?_set_ne n1, List.getElem?_set_self (by rw [S.env.len]; exact hl)]
        exact far o2 j s (Ne.symm n1) e1b o1
      · rw [List.getElem?_set_ne n1, List.getElem?_set_ne n2]; exact S.env.ne j k s t hjk e1b e2 o1 o2
end
/-- set slots in their order -/
def setAll : List Nat → List Sd → Env → Env
  | i :: is, s :: ss, ρ => setAll is ss (ρ.set i s)
  | _, _, ρ => ρ
def setV : List Nat → List V → L2.St → L2.St
  | i :: is, v :: vs, σ => setV is vs (σ.set i (some v))
  | _, _, σ => σ
theorem Mats.tail {W : Wo} {p : Addr} {F H H00 : Hp} {v : V} {vs : List V} {s : Sd} {ss : List Sd} (R : Mats W p F H H00 (v :: vs) (s :: ss)) : Mats W p F H H00 vs ss :=
  ⟨by have := R.len; simpa using this, fun i w sd ea eb => R.at_ (i + 1) w sd (by simpa using ea) (by simpa using eb), fun i j s t hij ea eb o1 o2 => by
    have := R.ne (i + 1) (j + 1) s t (by omega) (by simpa using ea) (by simpa using eb) o1 o2
    simpa using this⟩
/-- all owned slots known: their objects were there, or are among these -/
theorem Sta.setAll {c : Cf} {u0 u : PuS} {F0 H0 F H : Hp} {σ0 : L2.St} {ρ0 : Env} (S0 : Sta c u0 F0 H0 σ0 ρ0) : ∀ {is : List Nat} {vs : List V} {sds : List Sd} {σ : L2.St} {ρ : Env}, Sta c u F H σ ρ → Mats c.W c.p F H H0 vs sds → is.length = vs.length →
    (∀ (j : Nat) (t : Sd) (k : Nat) (s : Sd), ρ[j]? = some t → t.own = true → sds[k]? = some s → s.own = true → σ[j]? ≠ (vs[k]?).map some) →
    Sta c u F H (setV is vs σ) (Mi.setAll is sds ρ)
  | [], vs, sds, σ, ρ, S, R, hl, far => by
    unfold setV Mi.setAll
    exact S
  | i :: is, [], sds, σ, ρ, S, R, hl, far => by simp at hl
  | i :: is, v :: vs, [], σ, ρ, S, R, hl, far => by have := R.len; simp at this
  | i :: is, v :: vs, s :: ss, σ, ρ, S, R, hl, far => by
    show Sta c u F H (setV is vs (σ.set i (some v))) (Mi.setAll is ss (ρ.set i s))
    have hv := R.at_ 0 v s rfl rfl
    refine Sta.setAll S0 (S.setS (i := i) (v := v) (sd := s) ?_ fun o j t _ e o2 => far j t 0 s e o2 rfl o) R.tail (by simpa using hl) fun j t k s' e o ek ok => ?_
    · cases s with
      | sh d => exact ⟨v, rfl, hv⟩
      | ow ds =>
        obtain ⟨q, ws, rfl, h1, h2, h3, h4⟩ := hv
        exact ⟨q, ws, rfl, h1, h2, fun z => S0.gd.ne (z ▸ h3), S0.ent.back S0.gd.ne h3, h4⟩
      | un => trivial
      | oi _ _ _ => exact False.elim hv
      | od _ _ => exact False.elim hv
    · rcases set_get e with ⟨rfl, rfl, hl'⟩ | ⟨ne, e⟩
      · rw [List.getElem?_set_self (by rw [S.env.len]; exact hl')]
        have := R.ne 0 (k + 1) t s' (by omega) rfl (by simpa using ek) o ok
        intro z
        apply this
        simp at this ⊢
        cases q : vs[k]? with
        | none => rw [q] at z; cases z
        | some w => rw [q] at z; cases z; rfl
      · rw [List.getElem?_set_ne ne]
        have := far j t (k + 1) s' e o (by simpa using ek) ok
        simpa using this
theorem Mats.fresh {c : Cf} {u0 : PuS} {F0 H0 F H : Hp} {σ0 : L2.St} {ρ0 : Env} {vs : List V} {sds : List Sd} (S0 : Sta c u0 F0 H0 σ0 ρ0) (R : Mats c.W c.p F H H0 vs sds) (j : Nat) (t : Sd) (k : Nat) (s : Sd) (e : ρ0[j]? = some t) (o : t.own = true) (ek : sds[k]? = some s) (ok : s.own = true) : σ0[j]? ≠ (vs[k]?).map some := by
  intro z
  obtain ⟨q, hq, hne, _⟩ := (S0.env.at_ j t e).ref o
  rw [hq] at z
  cases ev : vs[k]? with
  | none => rw [ev] at z; cases z
  | some w =>
    rw [ev] at z
    have := R.at_ k w s ev ek
    cases z
    cases s with
    | ow ds =>
      obtain ⟨q', ws, e1, _, _, e4, _⟩ := this
      cases e1
      exact hne e4
    | oi _ _ _ => exact this
    | od _ _ => exact this
    | _ => cases ok
def mPar (is : List Nat) (ms : MM) : MS := fun ρ => M.bind (ms ρ) fun sds => if sds.length = is.length then M.pure (.nx (setAll is sds ρ)) else lft none
section
variable {X : Cx} {c : Cf} {pos : Pos} {a b d : Expr} {ms : MM}
theorem rdPar {is : List Nat} {Dn : Ends} {σ : L2.St} {H : Hp} (h : rdS c (mPar is ms) Dn σ H) : rdM c ms σ H fun vs H1 => vs.length = is.length ∧ Dn.nx (setV is vs σ) H1 := by
  obtain ⟨F, u, ρ, S, h⟩ := h
  refine ⟨F, u, ρ, S, (flowO.after S h).imp fun sds u1 F1 H1 _ s1 g1 h1 vs R => ?_⟩
  have h2 := h1.2
  split at h2
  · rename_i hl
    exact ⟨R.len.trans hl, h2 _ F1 H1 (Same.refl _) (Sta.setAll S h1.1 R (hl.symm.trans R.len.symm) (Mats.fresh S R))⟩
  · exact False.elim h2
theorem dPar {i j : Nat} {x y : Str} {px py pt : Pos} {kt k2 pt2} (hc : X.calm = true) (hN : X.N.Nodup) (hi : X.N[i]? = some x) (hj : X.N[j]? = some y) (hij : i ≠ j)
    (hx : X.env.scope.names.lookup x = some .local) (hy : X.env.scope.names.lookup y = some .local) (ha : DM X c [a, b] ms)
    (hw : swappedStores [.Tuple [.Name x px, .Name y py] kt pt] (.Tuple [a, b] k2 pt2) X.env = pure (some [x, y]) := by rfl)
    (hs : swapsWithSole [.Tuple [.Name x px, .Name y py] kt pt] (.Tuple [a, b] k2 pt2) pos.line X.env = pure false := by rfl) :
    DS X c (.Assign [.Tuple [.Name x px, .Name y py] kt pt] (.Tuple [a, b] k2 pt2) pos) (mPar [i, j] ms) :=
  (ps_par hc hN hi hj hij hx hy ha hw hs).imp fun Dn σ H h => by
    obtain ⟨F, u, ρ, S, h⟩ := rdPar h
    exact ⟨F, u, ρ, S, h.imp fun sds u1 F1 H1 _ s1 g1 h1 vs R => by
      obtain ⟨hl, hq⟩ := h1 vs R
      match vs, hl, hq with
      | [v, w], _, hq => exact ⟨v, w, rfl, hq⟩⟩
end

/-! ### calls with keywords -/
section
variable {X : Cx} {c : Cf} {k n np : Nat} {f : Addr} {fd : FuncData} {ps ks : List Str} {x : Str} {p pos apos : Pos} {e o : Expr} {es : List Expr} {kws : List Keyword} {ms mk : MA} {mf : List D → M D} {perm : List Nat} {mc : Value} {q g : Addr} {m : Str} {pl : Sem Bool} {nm : Option Str} {kpos : Pos} {me : ME}
end

/-! ### fresh lists out of slices and list(..) -/
theorem fresh_ok {p : Addr} {F H H00 : Hp} {u : PuS} {vs : List V} {ds : List D} {W : Wo} {Q : VK} (g : Gd p u F H) (bk : ∀ q, H q = none → H00 q = none) (r : Reps W p F vs ds)
    (h : After p F H (some (ds, u)) fun ds _ F' H' => ∀ q vs, F' q = none → H00 q = none → H' q = some (.lst vs) → Reps W p F' vs ds → Q (.ref q) H') (q : Addr) (hq : H q = none) : Q (.ref q) (upd H q (.lst vs)) :=
  h F (upd H q (.lst vs)) (Stp.own hq) (g.own hq) q vs (g.fresh hq) (bk q hq) upd_same r
section
variable {X : Cx} {c : Cf} {e : Expr} {lo hi : Option Expr} {m : ME} {ml mh : MO} {pos p2 : Pos}
/-- a built-in call that gives a fresh list -/
def CallL (W : Wo) (r : List V → Hp → VK → Prop) (f : List D → Option (List D)) : Prop := ∀ (p : Addr) (F H : Hp) (u : PuS) (xs : List V) (as ds : List D) (Q : VK), Gd p u F H → Reps W p F xs as → f as = some ds →
  (∀ q vs, H q = none → Reps W p F vs ds → Q (.ref q) (upd H q (.lst vs))) → r xs H Q
def mCBO (f : List D → Option (List D)) (ms : MA) : MA := fun ρ => M.bind (ms ρ) fun xs => lft (f xs)
theorem rdCBO {rc : List V → Hp → VK → Prop} {f : List D → Option (List D)} {ms : MA} (hm : CallL c.W rc f) : ∀ σ H Q, rdL c (mCBO f ms) σ H Q → tCB rc (rdA c ms) σ H Q := fun σ H Q ⟨F, u, ρ, S, h⟩ =>
  ⟨F, u, ρ, S, (After.split h).imp fun ds u1 F1 H1 _ s1 g1 h1 vs rvs => by
    obtain ⟨z, e1, h2⟩ := lft_some h1
    exact hm _ _ _ _ _ _ _ _ g1 rvs e1 fun q ws hq rw => fresh_ok g1 (fun q hq => s1.back g1.ne hq) rw h2 q hq⟩
theorem dCallTO {rc : List V → Hp → VK → Prop} {f : List D → Option (List D)} {id : String} {x : Str} {p : Pos} {es : List Expr} {ms : MA} (hm : CallL c.W rc f) (hc : CallR X (.type id) rc) (hg : Gl X x) (hmg : X.mg x = none) (hv : bootBuiltins x = some (.type id)) (ha : DA X c (e :: es) ms)
    (hn : x ≠ "__name__" := by decide) (hdb : (x == ("__debug__" : Str)) = false := by decide) (he : starEach (e :: es) X.env = (false, eval e X.env) :: starEach es X.env := by rfl) (hpl : (backTo pos (starEach es X.env)).any (·.1) = false := by rfl) :
    DL X c (.Call (.Name x p) (e :: es) [] pos) (mCBO f ms) := (pe_callTy hc hg hmg hv ha hn hdb he hpl).imp (rdCBO hm)
end
end Mi

set_option Elab.async false
set_option linter.all false
set_option maxRecDepth 100000
set_option maxHeartbeats 4000000
/-! MiB: the head's facts by names: a Hook of this framework's own. -/
namespace Mi
open PySem PySem.Spec PyProof.Rows L2 He
variable [TB : Tabl]

/-! ### the written part: what the module's names reach -/
def WW (cs : List Str) (K : PySem.W.Frag) : Wo := ⟨K, ga K, cs⟩
/-! ### places of defs -/
abbrev FunP (K : PySem.W.Frag) (d : DefP) : Prop := FunD K d.name d.qual d.params d.body d.scope [] [] (d.at_.ad K) (fdOf K (d.at_.ad K))
theorem DefP.funD {K : PySem.W.Frag} {d : DefP} (e : fnP K (d.at_.ad K) = d.val) (c : d.ok K = true) : FunP K d := by
  obtain ⟨kp, c2⟩ := ba c
  unfold fnP at e
  unfold FunP fdOf
  cases q : K.lookup (d.at_.ad K) with
  | none =>
    rw [q] at c2
    cases c2
  | some o =>
    obtain ⟨oc, od, dt, osl⟩ := o
    rw [q] at c2 e
    cases dt with
    | func fd =>
      obtain ⟨n1, n2, n3, n4, n5, n6, n7, n8, n9, n10, n11, n12, n13, n14, n15⟩ := fd
      have e2 : (some (n1, n2, n3, n4, n5, n6, n7, n15) : FnW) = some (d.name, d.qual, d.params, .stmts d.body, d.scope, mainGlobals, [], builtinsNs) := e
      simp only [Option.some.injEq, Prod.mk.injEq] at e2
      obtain ⟨h1, h2, h3, h4, h5, h6, h7, h8⟩ := e2
      subst h1 h2 h3 h4 h5 h6 h7 h8
      have c3 : (PySem.W.codeIn K n13 d.qual && dflB K n8 []) = true := c2
      obtain ⟨k1, k2⟩ := ba c3
      exact ⟨⟨oc, od, n8, n9, n10, n11, n12, n13, n14, osl, rfl, q, k1, dflB_ok k2, .inl rfl⟩, kp⟩
    | _ => cases c2
/-! ### facts -/
section
variable {K : PySem.W.Frag}
theorem prop_ok {c f : Str} (h : (Ft.prop c f).ok K = true) : PropOf K (ga K c) f (ma K (ga K c) f) ((Pl.prop c f).ad K) := by
  obtain ⟨h1, h⟩ := ba h
  obtain ⟨h2, h⟩ := ba h
  obtain ⟨h3, h4⟩ := ba h
  refine ⟨eqO_ok h1, eqO_ok h2, of_decide_eq_true h3, ?_⟩
  unfold Pl.ad recFn
  split at h4
  · rename_i g rest e
    simp only [e]
    exact ⟨rest, rfl⟩
  · cases h4
theorem isi_ok {cs : List Str} (h : (Ft.isi cs).ok K = true) : IsiOk (WW cs K) := by
  obtain ⟨h1, h⟩ := ba h
  obtain ⟨h2, h⟩ := ba h
  obtain ⟨h3, h4⟩ := ba h
  refine ⟨fun c hc H a dx fs e => ?_, fun c hc k hk => ?_, fun a ha k hk => ?_, fun c hc n hn => ?_⟩
  · obtain ⟨k1, k⟩ := ba (List.all_eq_true.mp h1 c hc)
    obtain ⟨k2, k⟩ := ba k
    obtain ⟨k3, k⟩ := ba k
    obtain ⟨k4, k5⟩ := ba k
    obtain ⟨c1, c⟩ := ba k1
    obtain ⟨c2, c⟩ := ba c
    obtain ⟨c3, c4⟩ := ba c
    exact .ins e ⟨c1, c2, c3, eqO_ok c4⟩ (eqO_ok k2) (eqO_ok k3) (of_decide_eq_true k4) (of_decide_eq_true k5)
  · exact of_decide_eq_true (List.all_eq_true.mp (List.all_eq_true.mp h2 c hc) k hk)
  · exact of_decide_eq_true (List.all_eq_true.mp (List.all_eq_true.mp h3 a ha) k hk)
  · exact of_decide_eq_true (List.all_eq_true.mp (List.all_eq_true.mp h4 c hc) n hn)
end
/-! ### the Hook -/
/-- all that the walk leans on -/
structure HF (fa : List Ft) (fn : List DefP) (K : PySem.W.Frag) (mg : Str → Option Value) : Prop where
  says : SaysP fa fn K
  ns : ∃ h : Heap, K.In h ∧ h.Ns mainGlobals mg
section
variable {fa : List Ft} {fn : List DefP} {K : PySem.W.Frag} {mg : Str → Option Value}
theorem HF.fact (c : HF fa fn K mg) (i : Nat) {f : Ft} (h : fa[i]? = some f) : f.ok K = true := by
  have c1 := (ba (show ((fa.all fun f => f.ok K) && fn.all fun d => d.ok K) = true from congrArg (fun z : AlP => z.1) c.says)).1
  exact List.all_eq_true.mp c1 f (List.mem_of_getElem? h)
theorem HF.fun_ (c : HF fa fn K mg) (i : Nat) {d : DefP} (h : fn[i]? = some d) : FunP K d := by
  have c2 := (ba (show ((fa.all fun f => f.ok K) && fn.all fun d => d.ok K) = true from congrArg (fun z : AlP => z.1) c.says)).2
  have e : fn.map (fun d => fnP K (d.at_.ad K)) = fn.map DefP.val := congrArg (fun z : AlP => z.2) c.says
  have e2 : (fn.map fun d => fnP K (d.at_.ad K))[i]? = (fn.map DefP.val)[i]? := by rw [e]
  rw [List.getElem?_map, List.getElem?_map, h] at e2
  exact DefP.funD (Option.some.inj e2) (List.all_eq_true.mp c2 d (List.mem_of_getElem? h))
theorem HF.glo (c : HF fa fn K mg) (i : Nat) {x : Str} (h : fa[i]? = some (.b (.glo x))) : mg x = some (.ref (ga K x)) := by
  obtain ⟨_, X, G⟩ := c.ns
  exact glo_ok X G (c.fact i h)
theorem HF.free (c : HF fa fn K mg) (i : Nat) {x : Str} (h : fa[i]? = some (.b (.free x))) : mg x = none := by
  obtain ⟨_, X, G⟩ := c.ns
  exact free_ok X G (c.fact i h)
theorem HF.int (c : HF fa fn K mg) (i : Nat) {x : Str} {n : Int} (h : fa[i]? = some (.b (.int x n))) : ∃ t, mg x = some (.int n t) := by
  obtain ⟨_, X, G⟩ := c.ns
  exact int_ok X G (c.fact i h)
theorem HF.str (c : HF fa fn K mg) (i : Nat) {x z : Str} (h : fa[i]? = some (.b (.str x z))) : ∃ t, mg x = some (.str z t) := by
  obtain ⟨_, X, G⟩ := c.ns
  exact str_ok X G (c.fact i h)
theorem HF.cls (c : HF fa fn K mg) (i : Nat) {x : Str} (h : fa[i]? = some (.b (.cls x))) : Cls K (ga K x) := cls_ok (c.fact i h)
theorem HF.noat (c : HF fa fn K mg) (i : Nat) {x f : Str} (h : fa[i]? = some (.b (.noat x f))) : NoAttr K (ga K x) f := noat_ok (c.fact i h)
theorem HF.meth (c : HF fa fn K mg) (i : Nat) {x m : Str} (h : fa[i]? = some (.b (.meth x m))) : Meth K (ga K x) m ((Pl.meth x m).ad K) := meth_ok (c.fact i h)
theorem HF.mkr (c : HF fa fn K mg) (i : Nat) {x : Str} (h : fa[i]? = some (.b (.mkr x))) : Mk K (ga K x) ((Pl.meth x "__init__").ad K) := mkr_ok (c.fact i h)
end
/-- a def's promise at its place -/
abbrev FO (cs : List Str) (P : Program) (w : World) (K : PySem.W.Frag) (mg : Str → Option Value) (base : Heap) (k : Nat) (pl : Pl) (ps : List Str) (n : Nat) (mf : List D → M D) : Prop := FnOk P w K mg base CX0 k (pl.ad K) (fdOf K (pl.ad K)) ps (spM (WW cs K) n mf)
end Mi

set_option Elab.async false
set_option linter.all false
set_option maxRecDepth 100000
set_option maxHeartbeats 4000000
/-! MiC: walks over lists or tuples; owned lists borrowed by an expression; names of built-ins. -/
namespace Mi
open PySem PySem.Spec PyProof.Rows L2
variable [TB : Tabl]

/-! ### built-ins by name -/
theorem bb_len : bootBuiltins "len" = some (.builtin "len") := by decide +kernel
theorem bb_sum : bootBuiltins "sum" = some (.builtin "sum") := by decide +kernel
theorem bb_min : bootBuiltins "min" = some (.builtin "min") := by decide +kernel
theorem bb_all : bootBuiltins "all" = some (.builtin "all") := by decide +kernel
theorem bb_any : bootBuiltins "any" = some (.builtin "any") := by decide +kernel
theorem bb_abs : bootBuiltins "abs" = some (.builtin "abs") := by decide +kernel
theorem bb_divmod : bootBuiltins "divmod" = some (.builtin "divmod") := by decide +kernel
theorem bb_isinstance : bootBuiltins "isinstance" = some (.builtin "isinstance") := by decide +kernel
theorem bb_int : bootBuiltins "int" = some (.type "int") := by decide +kernel
theorem bb_bool : bootBuiltins "bool" = some (.type "bool") := by decide +kernel
theorem bb_str : bootBuiltins "str" = some (.type "str") := by decide +kernel
theorem bb_list : bootBuiltins "list" = some (.type "list") := by decide +kernel
theorem bb_tuple : bootBuiltins "tuple" = some (.type "tuple") := by decide +kernel

/-! ### walks over lists or tuples -/
theorem _root_.L2.PI.or {X : Cx} {tg e : Expr} {t t' : TI} (h : PI X tg e t) (h' : PI X tg e t') : PI X tg e (fun σ H R => t σ H R ∨ t' σ H R) := ⟨fun pins s σ H R I q => q.elim (h.run pins s σ H R I) (h'.run pins s σ H R I)⟩
/-- what is walked over -/
def itD : D → Option (List D)
  | .lst ds => some ds
  | .tup ds => some ds
  | .str z => some (z.cps.toList.map fun c => .str ⟨#[c]⟩)
  | _ => none
def mIany (m : ME) : MA := fun ρ => M.bind (m ρ) fun d => lft (itD d)
theorem walkD_str {W : Wo} {p : Addr} {F : Hp} {z : Str} : WalkD W p (Its z) F (z.cps.toList.map fun c => .str ⟨#[c]⟩) := by
  refine ⟨_, _, by simpa using walk_str (z := z), fun _ _ => trivial, fun i H x H' F2 u d hd e g hy => ?_⟩
  obtain ⟨rfl, c, hc, rfl⟩ := hy
  refine ⟨F2, Stp.refl, g, ?_⟩
  rw [List.getElem?_map] at hd
  have hc' : z.cps.toList[i]? = some c := by simpa using hc
  rw [hc'] at hd
  cases hd
  exact .str _
def enumA : List D → Option (List D) := fun ds => match ds with
  | [.lst xs] => some (enumD xs)
  | [.tup xs] => some (enumD xs)
  | _ => none
section
variable {X : Cx} {c : Cf} {tg e a b : Expr} {m : ME} {ms : MA} {pos q : Pos}
theorem dIany (h : DE X c e m) (hK : X.K = c.W.K := by rfl) : DI X c tg e (mIany m) :=
  ((dIlist h hK).or ((dItup h hK).or (pi_str h))).imp fun σ H R ⟨F, u, ρ, S, h⟩ => by
    unfold mIany M.bind at h
    cases e1 : m ρ u with
    | none => rw [e1] at h; exact False.elim h
    | some y =>
      obtain ⟨d, u1⟩ := y
      rw [e1] at h
      cases d with
      | lst ds => exact .inl ⟨F, u, ρ, S, by unfold mIseq M.bind; rw [e1]; exact h⟩
      | tup ds => exact .inr (.inl ⟨F, u, ρ, S, by unfold mItup M.bind; rw [e1]; exact h⟩)
      | str z =>
        refine .inr (.inr ⟨F, u, ρ, S, ?_⟩)
        rw [e1]
        exact fun F' H' s' g' v rv => ⟨z, rv.str_, h F' H' s' g' _ walkD_str⟩
      | _ => exact False.elim h
theorem dIenumA {elts : List Expr} {kk : Nat} {tpos : Pos} (hg : Gl X "enumerate") (hm : X.mg "enumerate" = none) (ha : DA X c [a] ms) (hs : starEach [a] X.env = [(false, eval a X.env)] := by rfl) (hK : X.K = c.W.K := by rfl) :
    DI X c (.Tuple elts kk tpos) (.Call (.Name "enumerate" q) [a] [] pos) (mIof enumA ms) :=
  ((dIenum hg hm ha hs hK).or (dIenumT hg hm ha hs hK)).imp fun σ H R ⟨F, u, ρ, S, h⟩ => by
    unfold mIof M.bind at h
    cases e1 : ms ρ u with
    | none => rw [e1] at h; exact False.elim h
    | some y =>
      obtain ⟨ds, u1⟩ := y
      rw [e1] at h
      have key : ∀ f, enumA ds = f ds → rdI c (mIof f ms) σ H R := fun f hf => ⟨F, u, ρ, S, by
        unfold mIof M.bind
        rw [e1]
        show After c.p F H (lft (f ds) u1) _
        rw [← hf]
        exact h⟩
      match ds, h, key with
      | [.lst xs], h, key => exact .inl (key _ rfl)
      | [.tup xs], h, key => exact .inr (key _ rfl)
      | [], h, _ => exact False.elim h
      | [.non], h, _ => exact False.elim h
      | [.bl _], h, _ => exact False.elim h
      | [.int _], h, _ => exact False.elim h
      | [.str _], h, _ => exact False.elim h
      | [.obj _ _ _], h, _ => exact False.elim h
      | [.pur], h, _ => exact False.elim h
      | [.ty _], h, _ => exact False.elim h
      | [.cls _], h, _ => exact False.elim h
      | [.scr _], h, _ => exact False.elim h
      | [.exc _ _ _], h, _ => exact False.elim h
      | [.dct _ _], h, _ => exact False.elim h
      | [.ecl _], h, _ => exact False.elim h
      | [.ndc _ _], h, _ => exact False.elim h
      | x :: y :: r, h, _ => exact (by cases x <;> exact False.elim h)
end

/-! ### borrowing -/
mutual
def noLst : D → Bool
  | .lst _ => false
  | .scr _ => false
  | .tup ds => noLsts ds
  | .obj _ _ ds => noLsts ds
  | .exc _ _ ds => noLsts ds
  | .dct _ ds => noLsts ds
  | .ndc _ _ => false
  | _ => true
def noLsts : List D → Bool
  | [] => true
  | d :: ds => noLst d && noLsts ds
end
theorem noLsts_at : ∀ {ds : List D} {i : Nat} {d : D}, noLsts ds = true → ds[i]? = some d → noLst d = true
  | [], i, d, _, e => by simp at e
  | a :: ds, 0, d, h, e => by
    simp at e
    subst e
    unfold noLsts at h
    exact (Bool.and_eq_true_iff.mp h).1
  | a :: ds, i + 1, d, h, e => by
    unfold noLsts at h
    exact noLsts_at (Bool.and_eq_true_iff.mp h).2 (by simpa using e)
theorem Rep.without {W : Wo} {p q : Addr} {F F' : Hp} {ws : List V} (hq : F q = some (.lst ws)) (sub : ∀ a o, a ≠ q → F a = some o → F' a = some o) {v : V} {d : D} (h : Rep W p F v d) : noLst d = true → Rep W p F' v d := by
  induction h with
  | non => exact fun _ => .non
  | bl b => exact fun _ => .bl b
  | int i => exact fun _ => .int i
  | str x => exact fun _ => .str x
  | ty n => exact fun _ => .ty n
  | cls c hc => exact fun _ => .cls c hc
  | pur => exact fun _ => .pur
  | scr h => intro n; unfold noLst at n; cases n
  | tup h l r ih =>
    intro n
    unfold noLst at n
    refine .tup ?_ l fun i v d e1 e2 => ih i v d e1 e2 (noLsts_at n e2)
    rcases h with (h | ⟨o, h⟩) | h
    · exact .inl (.inl (sub _ _ (fun z => by rw [z, hq] at h; cases h) h))
    · exact .inl (.inr ⟨o, sub _ _ (fun z => by rw [z, hq] at h; cases h) h⟩)
    · exact .inr h
  | lst h l r ih => intro n; unfold noLst at n; cases n
  | obj hc h lk l r ih =>
    intro n
    unfold noLst at n
    exact .obj hc (sub _ _ (fun z => by rw [z, hq] at h; cases h) h) lk l fun i v d e1 e2 => ih i v d e1 e2 (noLsts_at n e2)
  | exc hc h hk hf h2 hx lk l r ih =>
    intro n
    unfold noLst at n
    exact .exc hc (sub _ _ (fun z => by rw [z, hq] at h; cases h) h) hk hf h2 (hx.imp (fun w => ⟨w.1, sub _ _ (fun z => by have := w.2; rw [z, hq] at this; cases this) w.2⟩) id) lk l fun i v d e1 e2 => ih i v d e1 e2 (noLsts_at n e2)
  | ecl c hc => exact fun _ => .ecl c hc
  | ndc h hx lk lv l hk rv rk r ihk ih => exact fun z => by unfold noLst at z; cases z
  | dct h lk l r ih =>
    intro n
    unfold noLst at n
    exact .dct (sub _ _ (fun z => by rw [z, hq] at h; cases h) h) lk l fun i v d e1 e2 => ih i v d e1 e2 (noLsts_at n e2)
def del (F : Hp) (q : Addr) : Hp := fun a => if a = q then none else F a
theorem del_ne {F : Hp} {q a : Addr} (h : a ≠ q) : del F q a = F a := if_neg h
theorem del_of {F : Hp} {q a : Addr} {o : HO} (h : del F q a = some o) : a ≠ q ∧ F a = some o := by
  unfold del at h
  split at h
  · cases h
  · exact ⟨by assumption, h⟩
/-- an owned list lent out: frozen within, taken back behind -/
theorem Sta.lend {c : Cf} {u : PuS} {F H : Hp} {σ : L2.St} {ρ : Env} (S : Sta c u F H σ ρ) (i : Nat) : Mi.frz i ρ = ρ ∨ ∃ q ws F1, Sta c u F1 H σ (Mi.frz i ρ) ∧ F1 q = some (.lst ws) ∧
    ∀ u' F' H', Stp c.p F1 H F' H' → Gd c.p u' F' H' → Stp c.p F H (del F' q) H' ∧ Gd c.p u' (del F' q) H' ∧ F' q = some (.lst ws) := by
  unfold Mi.frz
  cases ho : vOw ρ i with
  | none => exact .inl rfl
  | some ds =>
    right
    obtain ⟨q, vs, e1, hq, hf, hp, h0, r⟩ := S.ow ho
    have hsm : Same F (upd F q (.lst vs)) := fun a o e => by rw [upd_ne (fun z => by rw [z, hf] at e; cases e)]; exact e
    have qs : ∀ {j : Nat} {t : Sd} {a : Addr}, i ≠ j → ρ[j]? = some t → t.own = true → σ[j]? = some (some (.ref a)) → a ≠ q := fun {j t a} ne e2 o z h => by
      subst h
      exact S.env.ne i j _ t ne (vOw_at ho) e2 rfl o (e1.trans z.symm)
    refine ⟨q, vs, upd F q (.lst vs), ⟨⟨S.ent.ef.trans hsm, S.ent.eh, S.ent.et, fun a o e => ?_⟩, ⟨fun a o e => ?_, S.gd.pu, fun l e => by rw [upd_ne (Ne.symm hp)]; exact S.gd.off l e, nt_upd S.gd.nt (by intro _ z; cases z), S.gd.tb, S.gd.hp⟩, by simpa using S.env.len, fun j t e => ?_, fun j k t t' h ea eb o1 o2 => ?_⟩, upd_same, fun u' F' H' s g => ⟨⟨fun a o e => ?_, s.eh, s.et, fun a o e => ?_⟩, ⟨fun a o e => ?_, g.pu, fun l e => ?_, fun a ps z => g.nt a ps (del_of z).2, g.tb, g.hp⟩, s.ef q _ upd_same⟩⟩
    · by_cases ha : a = q
      · subst ha; exact .inr h0
      · rw [upd_ne ha] at e; exact S.ent.nw a o e
    · by_cases ha : a = q
      · subst ha; rw [upd_same] at e; cases e; exact hq
      · rw [upd_ne ha] at e; exact S.gd.ex a o e
    · rcases set_get e with ⟨rfl, rfl, _⟩ | ⟨ne, e⟩
      · exact ⟨.ref q, e1, Rep.mkL upd_same (r.mono hsm)⟩
      · have k := S.env.at_ j t e
        cases t with
        | un => trivial
        | sh d => obtain ⟨v, z, r'⟩ := k; exact ⟨v, z, r'.mono hsm⟩
        | ow es => obtain ⟨a, xs, z, ha, hfa, w1, w2, r'⟩ := k; exact ⟨a, xs, z, ha, by rw [upd_ne (qs ne e rfl z)]; exact hfa, w1, w2, r'.mono hsm⟩
        | oi kk ks es => obtain ⟨dx, xs, z, ha, hfa, w1, w2, w3, r'⟩ := k; exact ⟨dx, xs, z, ha, by rw [upd_ne (qs ne e rfl z)]; exact hfa, w1, w2, w3, r'.mono hsm⟩
        | od ks es => obtain ⟨a, ob, xs, ws, z, ha, hfa, w1, w2, w3, r'⟩ := k; exact ⟨a, ob, xs, ws, z, ha, by rw [upd_ne (qs ne e rfl z)]; exact hfa, w1, w2, w3, r'.mono hsm⟩
    · rcases set_get ea with ⟨rfl, rfl, _⟩ | ⟨n1, ea⟩
      · cases o1
      · rcases set_get eb with ⟨rfl, rfl, _⟩ | ⟨n2, eb⟩
        · cases o2
        · exact S.env.ne j k t t' h ea eb o1 o2
    · have ha : a ≠ q := fun z => by rw [z, hf] at e; cases e
      rw [del_ne ha]
      exact s.ef a o (by rw [upd_ne ha]; exact e)
    · obtain ⟨ha, e⟩ := del_of e
      rcases s.nw a o e with h | h
      · rw [upd_ne ha] at h; exact .inl h
      · exact .inr h
    · obtain ⟨ha, e⟩ := del_of e
      exact g.ex a o e
    · rw [del_ne (Ne.symm hp)]
      exact g.off l e
def mBorT (i : Nat) (m : MT) : MT := fun ρ => m (frz i ρ)
def mBorL (i : Nat) (m : MA) : MA := fun ρ => M.bind (m (frz i ρ)) fun d => lft (if noLsts d = true then some d else none)
section
variable {X : Cx} {c : Cf} {e : Expr} {m : ME} {mt : MT} {ml : MA} {i : Nat}
theorem dBorT (i : Nat) (h : DT X c e mt) : DT X c e (mBorT i mt) := h.imp fun σ H Q ⟨F, u, ρ, S, h⟩ => by
  unfold mBorT at h
  rcases S.lend i with z | ⟨q, ws, F1, S1, hq, back⟩
  · rw [z] at h
    exact ⟨F, u, ρ, S, h⟩
  · refine ⟨F1, u, frz i ρ, S1, ?_⟩
    cases e1 : mt (frz i ρ) u with
    | none => rw [e1] at h; exact False.elim h
    | some y =>
      obtain ⟨d, u1⟩ := y
      rw [e1] at h
      intro F' H' s' g'
      obtain ⟨s2, g2, hq2⟩ := back _ _ _ s' g'
      exact h _ _ s2 g2
end
end Mi


set_option Elab.async false
set_option linter.all false
set_option maxRecDepth 100000
set_option maxHeartbeats 4000000
/-! MiE: the purse read and written; defs that return fresh lists; a call with a purse of its own. -/
namespace Mi
open PySem PySem.Spec PyProof.Rows L2
variable [TB : Tabl]

/-! ### the purse -/
def getP (d k : D) : M D := fun u => match d, k, u with
  | .pur, .int j, .real l => (atI l j).map fun n => (.int n, u)
  | _, _, _ => none
def putP (d k v : D) : M Unit := fun u => match d, k, v, u with
  | .pur, .int j, .int a, .real l => (ixN l.length j).map fun n => ((), .real (l.set n a))
  | _, _, _, _ => none
def mIxP (i : Nat) (mi : ME) : ME := fun ρ => M.bind (mi ρ) fun k => M.bind (lft (vSh ρ i)) fun d => getP d k
def mPutP (i : Nat) (m mi : ME) : MS := fun ρ => M.bind (m ρ) fun v => M.bind (mi ρ) fun k => M.bind (lft (vSh ρ i)) fun d => M.bind (putP d k v) fun _ => M.pure (.nx ρ)
def mDmP (i : Nat) (mi : ME) (j : Nat) (m : ME) : MS := fun ρ => M.bind (m ρ) fun v => match v with
  | .tup [.int a, .int b] => M.bind (mi ρ) fun k => M.bind (lft (vSh ρ i)) fun d => M.bind (putP d k (.int a)) fun _ => M.pure (.nx (ρ.set j (.sh (.int b))))
  | _ => lft none
theorem Sta.purse {c : Cf} {l l' : List Int} {F H : Hp} {σ : L2.St} {ρ : Env} (S : Sta c (.real l) F H σ ρ) : Sta c (.real l') F (upd H c.p (.lst (l'.map V.int))) σ ρ := by
  have hp := S.gd.off l rfl
  refine ⟨⟨S.ent.ef, fun a o h e n => by rw [upd_ne h]; exact S.ent.eh a o h e n, fun a ps h e => by
    rw [upd_ne h]; exact S.ent.et a ps h e, S.ent.nw⟩, ⟨fun a o e => ?_, upd_same, fun _ _ => hp, S.gd.nt, tabs_over S.gd.pu S.gd.tb, (by intro _ z; cases z)⟩, S.env.len, fun i s e => ?_, S.env.ne⟩
  · rw [upd_ne (fun z => by rw [z, hp] at e; cases e)]; exact S.gd.ex a o e
  · have k := S.env.at_ i s e
    cases s with
    | un => trivial
    | sh d => exact k
    | ow es => obtain ⟨a, xs, z, ha, hf, w1, w⟩ := k; exact ⟨a, xs, z, by rw [upd_ne w1]; exact ha, hf, w1, w⟩
    | oi kk ks es => obtain ⟨dx, xs, z, ha, hf, w1, w⟩ := k; exact ⟨dx, xs, z, by rw [upd_ne w1]; exact ha, hf, w1, w⟩
    | od ks es => obtain ⟨a, ob, xs, ws, z, ha, hf, w1, w⟩ := k; exact ⟨a, ob, xs, ws, z, by rw [upd_ne w1]; exact ha, hf, w1, w⟩
theorem Gd.purse {p : Addr} {l : List Int} {F H : Hp} (g : Gd p (.real l) F H) : H p = some (.lst (l.map V.int)) := g.pu
section
variable {X : Cx} {c : Cf} {pos : Pos} {e ie : Expr} {m mi : ME} {i : Nat} {x : Str}
theorem Rep.pur_ {W : Wo} {p : Addr} {F : Hp} {v : V} (h : Rep W p F v .pur) : v = .ref p := by cases h; rfl
theorem dIxP (i : Nat) {x : Str} {p0 : Pos} (hk : DE X c ie mi) (hN : X.N[i]? = some x := by rfl) (hv : Vis X.env.scope x := by first | exact Or.inl rfl | exact Or.inr (Or.inl rfl) | exact Or.inr (Or.inr rfl)) (hd : (x == ("__debug__" : Str)) = false := by decide)
    (hcd : (x == ("__classdict__" : Str)) = false := by decide) (hs : PlainIx ie := by exact fun _ _ => rfl) : DE X c (.Subscript (.Name x p0) ie pos) (mIxP i mi) :=
  (pe_ix ix_list (pe_var (i := i) hN hv hd hcd) hk hs).imp fun σ H Q ⟨F, u, ρ, S, h⟩ => by
    unfold mIxP at h
    cases ho : vSh ρ i with
    | none =>
      exfalso
      unfold M.bind at h
      cases e1 : mi ρ u with
      | none => rw [e1] at h; exact h
      | some y => rw [e1, ho] at h; exact h
    | some d =>
      obtain ⟨v, ev, rv⟩ := S.var ho
      refine ⟨v, ev, F, u, ρ, S, (After.split h).imp fun k u2 F2 H2 _ s2 g2 h2 w rw => ?_⟩
      obtain ⟨d', e2, h3⟩ := lft_some' h2
      rw [ho] at e2
      cases e2
      cases d with
      | pur =>
        cases k with
        | int j =>
          cases u2 with
          | real l =>
            have h4 : After c.p F2 H2 ((atI l j).map fun n => (D.int n, PuS.real l)) fun d _ F' H' => ∀ v, Rep c.W c.p F' v d → Q v H' := h3
            cases e4 : atI l j with
            | none => rw [e4] at h4; exact False.elim h4
            | some n =>
              rw [e4] at h4
              have h5 : After c.p F2 H2 (some (D.int n, PuS.real l)) fun d _ F' H' => ∀ v, Rep c.W c.p F' v d → Q v H' := h4
              refine ⟨c.p, _, j, .int n, rv.pur_, rw.int_, SqL.of g2.purse, by rw [atI_map, e4]; rfl, After.now g2 h5 _ (.int n)⟩
          | idle o => exact False.elim h3
        | _ => exact False.elim h3
      | _ => cases k <;> exact False.elim h3
theorem put_ok {F H : Hp} {u : PuS} {σ : L2.St} {ρ ρ' : Env} {d k v : D} {vd vk vv : V} {Dn : Ends} {σ' : L2.St} (S : Sta c u F H σ ρ) (rd : Rep c.W c.p F vd d) (rk : Rep c.W c.p F vk k) (rv : Rep c.W c.p F vv v)
    (h : flowO c F Dn (M.bind (putP d k v) (fun _ => M.pure (.nx ρ')) u)) (hs : ∀ {u' F' H'}, Sta c u' F' H' σ ρ → Sta c u' F' H' σ' ρ') : rSetL vd vk vv H fun H4 => Dn.nx σ' H4 := by
  unfold M.bind at h
  cases d with
  | pur =>
    cases k with
    | int j =>
      cases v with
      | int a =>
        cases u with
        | real l =>
          have e0 : putP D.pur (D.int j) (D.int a) (PuS.real l) = (ixN l.length j).map fun n => ((), PuS.real (l.set n a)) := rfl
          rw [e0] at h
          have h2 := h
          cases e1 : ixN l.length j with
          | none => rw [e1] at h2; exact False.elim h2
          | some n =>
            rw [e1] at h2
            refine ⟨c.p, _, j, n, rd.pur_, rk.int_, S.gd.purse, by rw [List.length_map]; exact e1, ?_⟩
            rw [rv.int_, ← List.map_set]
            exact h2 σ' F _ (Same.refl _) (hs (S.purse (l' := l.set n a)))
        | idle o => exact False.elim h
      | _ => exact False.elim h
    | _ => cases v <;> exact False.elim h
  | _ => cases k <;> cases v <;> exact False.elim h
theorem dPutP (i : Nat) {x : Str} {p0 tp : Pos} (he : DE X c e m) (hk : DE X c ie mi) (hN : X.N[i]? = some x := by rfl) (hv : Vis X.env.scope x := by first | exact Or.inl rfl | exact Or.inr (Or.inl rfl) | exact Or.inr (Or.inr rfl)) (hd : (x == ("__debug__" : Str)) = false := by decide)
    (hcd : (x == ("__classdict__" : Str)) = false := by decide)
    (ha : ∀ v, assign (.Subscript (.Name x p0) ie tp) X.env v = (do
      let ov ← holding [v] (eval (.Name x p0) X.env)
      let iv ← holding [v, ov] (eval ie X.env)
      standAt tp
      holding [v, ov, iv] (setItem ov iv v)
      release [v, ov, iv] []) := by intro _; rfl)
    (hs : swapsWithSole [.Subscript (.Name x p0) ie tp] e pos.line X.env = pure false := by rfl) (hw : swappedStores [.Subscript (.Name x p0) ie tp] e X.env = pure none := by rfl)
    (h1 : (assignEach [.Subscript (.Name x p0) ie tp] X.env).map (·.2) = [assign (.Subscript (.Name x p0) ie tp) X.env] := by rfl) : DS X c (.Assign [.Subscript (.Name x p0) ie tp] e pos) (mPutP i m mi) :=
  (ps_asg he (pg_sub (pe_var (i := i) hN hv hd hcd) hk set_list ha) hs hw h1).imp fun Dn σ H ⟨F, u, ρ, S, h⟩ => ⟨F, u, ρ, S, (flowO.after S h).imp fun d u1 F1 H1 _ s1 g1 h1 v rv => by
    cases ho : vSh ρ i with
    | none =>
      exfalso
      have h2 := h1.2
      unfold M.bind at h2
      cases e1 : mi ρ u1 with
      | none => rw [e1] at h2; exact h2
      | some y => rw [e1, ho] at h2; exact h2
    | some dd =>
      obtain ⟨vd, ev, rvd⟩ := h1.1.var ho
      refine ⟨vd, ev, F1, u1, ρ, h1.1, (flowO.after h1.1 h1.2).imp fun k u2 F2 H2 _ s2 g2 h2 w rw => ?_⟩
      obtain ⟨d', e2, h3⟩ := flowO.lft h2.1 h2.2
      rw [ho] at e2
      cases e2
      exact put_ok h2.1 (rvd.mono s2.ef) rw (rv.mono s2.ef) h3 id⟩
/-- x[k], y = e -/
theorem dDmP (i j : Nat) {x y : Str} {p0 p1 tp tq : Pos} {kt : Nat} (hc : X.calm = true) (he : DE X c e m) (hk : DE X c ie mi) (hNd : X.N.Nodup) (hj : X.N[j]? = some y) (hy : Loc X.env.scope y) (hN : X.N[i]? = some x := by rfl) (hv : Vis X.env.scope x := by first | exact Or.inl rfl | exact Or.inr (Or.inl rfl) | exact Or.inr (Or.inr rfl)) (hd : (x == ("__debug__" : Str)) = false := by decide)
    (hcd : (x == ("__classdict__" : Str)) = false := by decide)
    (ha : ∀ v, assign (.Subscript (.Name x p0) ie tp) X.env v = (do
      let ov ← holding [v] (eval (.Name x p0) X.env)
      let iv ← holding [v, ov] (eval ie X.env)
      standAt tp
      holding [v, ov, iv] (setItem ov iv v)
      release [v, ov, iv] []) := by intro _; rfl)
    (hf : X.fn y = true ∨ X.env.scope.names.lookup y = some .local := by first | exact .inl rfl | exact .inr rfl | assumption)
    (ht : (assignEach [.Subscript (.Name x p0) ie tp, .Name y p1] X.env).length = 2 := by rfl) (hst : (assignEach [.Subscript (.Name x p0) ie tp, .Name y p1] X.env).findIdx? (·.1) = none := by rfl)
    (hq1 : (assignEach [.Subscript (.Name x p0) ie tp, .Name y p1] X.env).map (·.2) = assign (.Subscript (.Name x p0) ie tp) X.env :: (assignEach [.Name y p1] X.env).map (·.2) := by rfl)
    (hq2 : (assignEach [.Name y p1] X.env).map (·.2) = assign (.Name y p1) X.env :: (assignEach [] X.env).map (·.2) := by rfl)
    (hs : swapsWithSole [.Tuple [.Subscript (.Name x p0) ie tp, .Name y p1] kt tq] e pos.line X.env = pure false := by rfl) (hw : swappedStores [.Tuple [.Subscript (.Name x p0) ie tp, .Name y p1] kt tq] e X.env = pure none := by rfl)
    (h1 : (assignEach [.Tuple [.Subscript (.Name x p0) ie tp, .Name y p1] kt tq] X.env).map (·.2) = [assign (.Tuple [.Subscript (.Name x p0) ie tp, .Name y p1] kt tq) X.env] := by rfl) (hK : X.K = c.W.K := by rfl) :
    DS X c (.Assign [.Tuple [.Subscript (.Name x p0) ie tp, .Name y p1] kt tq] e pos) (mDmP i mi j m) :=
  (ps_asg he (pg_tup hc (pgs_cons (pg_sub (pe_var (i := i) hN hv hd hcd) hk set_list ha) (pgs_cons (pg_name (i := j) hNd hj hy hf) pgs_nil hq2) hq1) ht hst) hs hw h1).imp fun Dn σ H ⟨F, u, ρ, S, h⟩ => ⟨F, u, ρ, S, (flowO.after S h).imp fun d u1 F1 H1 _ s1 g1 h1 v rv => by
    have h2 := h1.2
    split at h2
    · rename_i a b _hh
      obtain ⟨q, vs, rfl, hq, rs⟩ := rv.tup_
      obtain ⟨v1, v2, rfl, r1, r2⟩ := rs.two
      refine ⟨q, _, rfl, by rw [hK]; exact sq_t g1.ex hq, rfl, v1, [v2], rfl, ?_⟩
      cases ho : vSh ρ i with
      | none =>
        exfalso
        unfold M.bind at h2
        cases e1 : mi ρ u1 with
        | none => rw [e1] at h2; exact h2
        | some y => rw [e1, ho] at h2; exact h2
      | some dd =>
        obtain ⟨vd, ev, rvd⟩ := h1.1.var ho
        refine ⟨vd, ev, F1, u1, ρ, h1.1, (flowO.after h1.1 h2).imp fun k u2 F2 H2 _ s2 g2 h3 w rw => ?_⟩
        obtain ⟨d', e2, h4⟩ := flowO.lft h3.1 h3.2
        rw [ho] at e2
        cases e2
        have h5 := put_ok (Dn := Dn) (ρ' := ρ.set j (.sh (.int b))) (σ' := σ.set j (some v2)) h3.1 (rvd.mono s2.ef) rw (r1.mono s2.ef) h4 fun {u' F' H'} z => by
          rw [r2.int_]
          exact z.set (.int b)
        obtain ⟨pp, xs, kk, n, q1, q2, q3, q4, q5⟩ := h5
        exact ⟨pp, xs, kk, n, q1, q2, q3, q4, v2, [], rfl, rfl, q5⟩
    · exact False.elim h2⟩
end

/-! ### defs that return a fresh list -/
def spL (W : Wo) (n : Nat) (mf : List D → M (List D)) : Sp := fun vs H Q _ => vs.length = n ∧ ∃ p F u ds, Gd p u F H ∧ Reps W p F vs ds ∧
  After p F H (mf ds u) fun es _ F' H' => ∀ q ws, F' q = none → H q = none → H' q = some (.lst ws) → Reps W p F' ws es → Q (.ref q) H'
def mFnL (n : Nat) (mb : MS) : List D → M (List D) := fun ds u => match mb (startE n ds) u with
  | some (.rl d, u') => some (d, u')
  | _ => none
def mRetL (m : MA) : MS := fun ρ => M.bind (m ρ) fun ds => M.pure (.rl ds)
section
variable {X : Cx} {c : Cf} {pos : Pos} {e : Expr} {ml : MA}
theorem dRetL (he : DL X c e ml) : DS X c (.Return (some e) pos) (mRetL ml) :=
  (ps_ret he).imp fun Dn σ H ⟨F, u, ρ, S, h⟩ => ⟨F, u, ρ, S, (flowO.after S h).imp fun ds u1 F1 H1 _ s1 g1 h1 q vs hF hn hq r =>
    h1.2 q vs F1 H1 h1.1.ent g1 hF (S.ent.back S.gd.ne hn) hq r⟩
end
section
variable {P : Program} {w : World} {K : PySem.W.Frag} {mg : Str → Option Value} {base : Heap} {x qual : Str} {params : Arguments} {body : List Stmt} {scope : Scope} {dvs : List V} {kws : List (Str × V)} {f : Addr} {fd : FuncData} {W : Wo} {N ps : List Str} {k : Nat} {mb : MS}
theorem fn_mirL (F : FunD K x qual params body scope dvs kws f fd) (S : FnScope N ps scope)
    (hb : ∀ (cdv : Value) (A : Around) (outer : List PySem.Env) (s : Shared) (H : Hp) (E : XK) (p : Addr) (F0 : Hp), Room k (A.deeper (envOfC qual scope s.heap.objs.size f cdv)) → DB (cxOf CX0 P w K mg base N qual scope f cdv A outer s H E).nox ⟨W, p, F0, H, 0, noX⟩ body mb) :
    FnOk P w K mg base CX0 (k + 1) f fd ps (spL W ps.length (mFnL N.length mb)) := by
  refine F.ok S (fun vs H Q E h => h.1) (fun cdv A outer s H vs Q E hr h => ?_)
  obtain ⟨hl, p, F0, u, ds, g, r, h⟩ := h
  refine ⟨_, PSs.nox (hb cdv A outer s H E p F0 hr), F0, u, startE N.length ds, ⟨Stp.refl, g, env_start r⟩, ?_⟩
  unfold mFnL at h
  cases e : mb (startE N.length ds) u with
  | none => rw [e] at h; exact h
  | some y =>
    obtain ⟨fl, u1⟩ := y
    rw [e] at h
    cases fl with
    | rl es =>
      intro q ws F' H' s' g' hF hn hq rw
      have h2 : After p F0 H (some (es, u1)) (fun es _ F' H' => ∀ q ws, F' q = none → H q = none → H' q = some (.lst ws) → Reps W p F' ws es → Q (.ref q) H') := h
      exact h2 F' H' s' g' q ws hF hn hq rw
    | nx ρ' => exact False.elim h
    | rt d => exact False.elim h
    | bk ρ' => exact False.elim h
    | ct ρ' => exact False.elim h
    | ex ρ' k' ks' ds' => exact False.elim h
end
def mCallL (n : Nat) (mf : List D → M (List D)) (ms : MA) : MA := fun ρ => M.bind (ms ρ) fun ds => if ds.length = n then mf ds else lft none
section
variable {X : Cx} {c : Cf} {k n : Nat} {f : Addr} {fd : FuncData} {ps : List Str} {x : Str} {p pos : Pos} {e : Expr} {es : List Expr} {ms : MA} {mf : List D → M (List D)}
theorem dCallL (G : FnOk X.prog X.w X.K X.mg X.base CX0 k f fd ps (spL c.W n mf)) (hr : Room k X.A) (hg : Gl X x) (hm : X.mg x = some (.ref f)) (hk : PySem.W.keepIn X.K (.ref f) = true) (hb : Binds X.K fd ps [])
    (ha : DA X c (e :: es) ms) (hdb : (x == ("__debug__" : Str)) = false := by decide) (he : starEach (e :: es) X.env = (false, eval e X.env) :: starEach es X.env := by rfl) (hpl : (backTo pos (starEach es X.env)).any (·.1) = false := by rfl) :
    DL X c (.Call (.Name x p) (e :: es) [] pos) (mCallL n mf ms) :=
  (pe_call G hr hg hm hk hb .nil pass0 ha hdb he hpl).imp fun σ H Q ⟨F, u, ρ, S, h⟩ => ⟨F, u, ρ, S, (After.split h).imp fun ds u1 F1 H1 _ s1 g1 h1 vs rvs => by
    show spL c.W n mf (vs ++ []) H1 Q E0
    rw [List.append_nil]
    split at h1
    · rename_i hl
      exact ⟨rvs.1.trans hl, c.p, F1, u1, ds, g1, rvs, h1.imp fun es u2 F2 H2 _ s2 g2 h2 q ws hF hn hq rw => h2 q ws hF (s1.back g1.ne hn) hq rw⟩
    · exact False.elim h1⟩
/-- f(g(..)), where g makes the purse -/
def mWith (mf : List D → M D) (ml : MA) : ME := fun ρ => M.bind (ml ρ) fun ds => lft (match intsD ds with
  | some l => match mf [.pur] (.real l) with
    | some (.bl b, _) => some (.bl b)
    | _ => none
  | none => none)
theorem dWith {mf : List D → M D} {ml : MA} (G : FnOk X.prog X.w X.K X.mg X.base CX0 k f fd ps (spM c.W 1 mf)) (hr : Room k X.A) (hg : Gl X x) (hm : X.mg x = some (.ref f)) (hk : PySem.W.keepIn X.K (.ref f) = true) (hb : Binds X.K fd ps [])
    (ha : DL X c e ml) (hdb : (x == ("__debug__" : Str)) = false := by decide) (he : starEach [e] X.env = (false, eval e X.env) :: starEach [] X.env := by rfl) (hpl : (backTo pos (starEach [] X.env)).any (·.1) = false := by rfl) :
    DE X c (.Call (.Name x p) [e] [] pos) (mWith mf ml) :=
  (pe_call G hr hg hm hk hb .nil pass0 (pa_cons ha pa_nil he) hdb he hpl).imp fun σ H Q ⟨F, u, ρ, S, h⟩ => ⟨F, u, ρ, S, by
    unfold mWith M.bind at h
    cases e0 : ml ρ u with
    | none => rw [e0] at h; exact False.elim h
    | some y0 =>
      obtain ⟨ds, u1⟩ := y0
      rw [e0] at h
      intro F1 H1 s1 g1 q vs hF hn hq r
      have hqp : q ≠ c.p := fun z => S.gd.ne (z ▸ hn)
      obtain ⟨d, e1, h2⟩ := lft_some h
      cases e2 : intsD ds with
      | none => rw [e2] at e1; cases e1
      | some l =>
        rw [e2] at e1
        have hv := intsD_rep r e2
        subst hv
        show spM c.W 1 mf ([.ref q] ++ []) H1 Q E0
        rw [List.append_nil]
        refine ⟨rfl, q, F1, .real l, [.pur], ⟨g1.ex, hq, fun _ _ => hF, g1.nt, g1.tb, (by intro _ z; cases z)⟩, Reps.cons .pur Reps.nil, ?_⟩
        cases e3 : mf [.pur] (.real l) with
        | none => simp [e3] at e1
        | some y =>
          obtain ⟨r3, u3⟩ := y
          cases r3 with
          | bl b =>
            simp [e3] at e1
            subst e1
            intro F' H' s' g' v rv
            rw [rv.bl_]
            refine h2 F' H' ⟨s1.ef.trans s'.ef, fun a o ha e n => ?_, fun a ps ha e => (let ⟨qs, e1⟩ := s1.et a ps ha e; s'.et a qs (fun z => by rw [z, hn] at e; cases e) e1), fun a o e => ?_⟩ ⟨g'.ex, ?_, fun l' e => ?_, g'.nt, g'.tb, g1.hp⟩ (.bl b) (.bl b)
            · exact s'.eh a o (fun z => by rw [z, hn] at e; cases e) (s1.eh a o ha e n) n
            · rcases s'.nw a o e with z | z
              · exact s1.nw a o z
              · exact .inr (s1.back g1.ne z)
            · exact s'.eh c.p _ (Ne.symm hqp) g1.pu (.inr g1.hp)
            · exact s'.off (g1.off l' e) g1.ne
          | _ => simp [e3] at e1⟩
end
end Mi

set_option Elab.async false
set_option linter.all false
set_option maxRecDepth 100000
set_option maxHeartbeats 4000000
/-! MiF: the law's end. -/
namespace Mi
open PySem PySem.Spec PyProof.Rows L2 He
variable [TB : Tabl]
theorem lookup_mem' {a : Addr} {o : Obj} : ∀ {l : PySem.W.Frag}, l.lookup a = some o → (a, o) ∈ l
  | [], h => by cases h
  | (b, u) :: r, h => by
    have h2 : (match a == b with | true => some u | false => r.lookup a) = some o := h
    cases q : (a == b) with
    | true =>
      rw [q] at h2
      have e : u = o := Option.some.inj h2
      rw [beq_iff_eq.mp q, e]
      exact List.mem_cons_self
    | false =>
      rw [q] at h2
      exact List.mem_cons_of_mem _ (lookup_mem' h2)
/-- all but the tables -/
def noTb (H : Hp) : Hp := fun b => match H b with
  | some (.tbl _) => none
  | x => x
theorem noTb_of {H : Hp} {a : Addr} {o : HO} (h : H a = some o) (n : ∀ ps, o ≠ .tbl ps) : noTb H a = some o := by
  unfold noTb
  rw [h]
  cases o with
  | tbl ps => exact absurd rfl (n ps)
  | _ => rfl
theorem of_noTb {H : Hp} {a : Addr} {o : HO} (h : noTb H a = some o) : H a = some o ∧ ∀ ps, o ≠ .tbl ps := by
  unfold noTb at h
  cases e : H a with
  | none => rw [e] at h; cases h
  | some u =>
    rw [e] at h
    cases u with
    | tbl ps => cases h
    | _ => cases h; exact ⟨rfl, fun _ z => by cases z⟩
theorem law_sp {cs : List Str} {K : PySem.W.Frag} {mf : List D → M D} {E : XK} (hK : noListsB K = true) (n : Nat) (h : ∀ (ns : List Int) (o : HO), ns.length ≤ n → ∃ u', mf [.scr ns] (.idle o) = some (.bl true, u')) (H : Hp) (a : Addr) (ns : List Int) (hl : ns.length ≤ n) (hS : SqL K H a (ns.map V.int)) (hT : LamX.Tabs TB.T H) :
    spM (WW cs K) 1 mf [.ref a] H (fun v _ => v = .bl true) E := by
  have ex : ∃ o, H a = some o ∧ (∀ ps, o ≠ .tbl ps) ∧ SqL K (noTb H) a (ns.map V.int) := by
    rcases hS with (z | ⟨o, z⟩) | ⟨o, its, m, hk, hc, _⟩
    · exact ⟨_, z, (by intro _ z; cases z), .inl (.inl (noTb_of z (by intro _ z; cases z)))⟩
    · exact ⟨_, z, (by intro _ z; cases z), .inl (.inr ⟨o, noTb_of z (by intro _ z; cases z)⟩)⟩
    · exfalso
      have := List.all_eq_true.mp hK _ (lookup_mem' hk)
      simp [hc] at this
  obtain ⟨o, ho, hn, hS'⟩ := ex
  obtain ⟨u', hu⟩ := h ns o hl
  refine ⟨rfl, a, noTb H, .idle o, [.scr ns], ⟨fun _ _ e => (of_noTb e).1, ho, (fun l e => by cases e), fun b ps z => (of_noTb z).2 ps rfl, hT, hn⟩, Reps.cons (.scr hS') Reps.nil, ?_⟩
  rw [hu]
  exact fun F' H' _ _ v rv => rv.bl_
/-! ### name = [..] on one line, the name a plain local -/
def mBorLs (is : List Nat) (ml : MA) : MA := is.foldr mBorL ml
section
variable {X : Cx} {c : Cf}
theorem rdBorL {i : Nat} {ml : MA} : ∀ σ H Q, rdL c (mBorL i ml) σ H Q → rdL c ml σ H Q := fun σ H Q ⟨F, u, ρ, S, h⟩ => by
  unfold mBorL M.bind at h
  cases e1 : ml (frz i ρ) u with
  | none => rw [e1] at h; exact False.elim h
  | some y =>
    obtain ⟨d, u1⟩ := y
    rw [e1] at h
    obtain ⟨hn, h2⟩ := lft_if (b := noLsts d = true) (a := d) h
    rcases S.lend i with z | ⟨q, ws, F1, S1, hq, back⟩
    · rw [z] at e1
      exact ⟨F, u, ρ, S, by rw [e1]; exact h2⟩
    · refine ⟨F1, u, frz i ρ, S1, ?_⟩
      rw [e1]
      intro F' H' s' g' q' vs hF hn' hv rv
      obtain ⟨s2, g2, hq2⟩ := back _ _ _ s' g'
      refine h2 _ _ s2 g2 q' vs ?_ hn' hv ⟨rv.1, fun j v d e2 e3 => (rv.2 j v d e2 e3).without hq2 (fun a o ha e => by rw [del_ne ha]; exact e) (noLsts_at hn e3)⟩
      unfold del
      split
      · rfl
      · exact hF
theorem rdBorLs {ml : MA} : ∀ (is : List Nat) σ H Q, rdL c (mBorLs is ml) σ H Q → rdL c ml σ H Q
  | [], _, _, _, h => h
  | _ :: is, σ, H, Q, h => rdBorLs is σ H Q (rdBorL σ H Q h)
variable {elt tg iter : Expr} {ifs : List Expr} {scope : Scope} {own : List (Str × Nat)} {pos spos py : Pos} {is : List Nat} {mi : MA} {g : MG} {mt : MT} {me : ME} {y : Str} {st : Stmt} {R : TE} {ml : MA}
theorem set_of (i : Nat) (h : PS X st (tAsg R (gName i))) (hR : ∀ σ H Q, rdL c ml σ H Q → R σ H Q) : DS X c st (mSet i (mFz ml)) :=
  h.imp fun Dn σ H ⟨F, u, ρ, S, z⟩ => hR σ H _ (by
    have e : PE X (.Constant .none 0 ⟨0, 0, 0, 0⟩) (rdL c ml) → True := fun _ => trivial
    have z2 := flowO.after S z
    refine ⟨F, u, ρ, S, ?_⟩
    unfold mFz M.bind at z2
    cases e1 : ml ρ u with
    | none => rw [e1] at z2; exact z2
    | some x =>
      obtain ⟨ds, u1⟩ := x
      rw [e1] at z2
      intro F1 H1 s1 g1 q ws hF hn hq r
      have h2 : After c.p F H (some (D.lst ds, u1)) (fun a u1 F1 H1 => Sta c u1 F1 H1 σ ρ ∧ flowO c F1 Dn (M.pure (.nx (ρ.set i (.sh a))) u1)) := z2
      have hsm : Same F1 (upd F1 q (.lst ws)) := fun a o e => by rw [upd_ne (fun z => by rw [z, hF] at e; cases e)]; exact e
      have hpq : c.p ≠ q := fun z => S.gd.ne (z ▸ hn)
      have h3 := h2 (upd F1 q (.lst ws)) H1 ⟨s1.ef.trans hsm, s1.eh, s1.et, fun a o e => ?_⟩ ⟨fun a o e => ?_, g1.pu, fun l e => by rw [upd_ne hpq]; exact g1.off l e, nt_upd g1.nt (by intro _ z; cases z), g1.tb, g1.hp⟩
      · exact h3.2 _ _ _ (Same.refl _) (h3.1.set (Rep.mkL upd_same (r.mono hsm)))
      · by_cases ha : a = q
        · subst ha; exact .inr hn
        · rw [upd_ne ha] at e; exact s1.nw a o e
      · by_cases ha : a = q
        · subst ha; rw [upd_same] at e; cases e; exact hq
        · rw [upd_ne ha] at e; exact g1.ex a o e)
theorem dLcSet (i : Nat) (bs : List Nat) (hc : X.calm = true) (hN : X.N.Nodup) (hy : X.N[i]? = some y) (hyl : X.env.scope.names.lookup y = some .local)
    (hsw : swapsWith (.ListComp elt [⟨tg, iter, ifs, 0⟩] scope pos) (some (.Name y py)) spos.line X.env = pure true) (hi : DI X c tg iter mi) (ok : BlkOk X.N X.env.scope scope own)
    (hg : ∀ (s : Shared) (H : Hp) (C : Addr) (cl : List (Str × Addr)) (fp : List Addr), DG (X.blk s H scope (compEnvC scope cl C X.env) fp) c tg is g)
    (ht : ∀ (s : Shared) (H : Hp) (C : Addr) (cl : List (Str × Addr)) (fp : List Addr), PTs (X.blk s H scope (compEnvC scope cl C X.env) fp) ifs (rdT c mt)) (he : ∀ (s : Shared) (H : Hp) (C : Addr) (cl : List (Str × Addr)) (fp : List Addr), DE (X.blk s H scope (compEnvC scope cl C X.env) fp) c elt me)
    (his : ∀ i ∈ is, i ∈ own.map (·.2) := by decide) (hs : ∀ x, foldedSetIterable iter X.env x = pure x := by intro _; rfl) : DS X c (.Assign [.Name y py] (.ListComp elt [⟨tg, iter, ifs, 0⟩] scope pos) spos) (mSet i (mFz (mBorLs bs (mLcO (own.map (·.2)) mi g mt me)))) :=
  set_of i (ps_setLc hc hN hy hyl hsw hi ok hg ht he hs) fun σ H Q h => by
    obtain ⟨F, u, ρ, S, h⟩ := rdBorLs bs σ H Q h
    exact rdLc his σ H Q F u ρ S h
end
end Mi

set_option Elab.async false
set_option linter.all false
set_option maxRecDepth 100000
set_option maxHeartbeats 4000000
/-! MiW: what a mirror gives, told by its parts. -/
namespace Mi
open PySem L2
/-- laws without lambdas -/
instance (priority := 50) noTabl : Tabl := ⟨[], false⟩
def Ok {α : Type} (m : M α) (u : PuS) (P : α → PuS → Prop) : Prop := ∃ a u', m u = some (a, u') ∧ P a u'
/-- a branch -/
def Br (b : Bool) (P Q : Prop) : Prop := if b = true then P else Q
@[simp] theorem br_t {P Q : Prop} : Br true P Q ↔ P := by unfold Br; simp
@[simp] theorem br_f {P Q : Prop} : Br false P Q ↔ Q := by unfold Br; simp
@[simp] theorem br_n {b : Bool} {P Q : Prop} : Br (!b) P Q ↔ Br b Q P := by cases b <;> simp
/-- d is a truth -/
def OnB (d : D) (P : Bool → Prop) : Prop := ∃ b, d = .bl b ∧ P b
@[simp] theorem onB_bl {b : Bool} {P : Bool → Prop} : OnB (.bl b) P ↔ P b := ⟨fun ⟨_, e, h⟩ => by cases e; exact h, fun h => ⟨b, rfl, h⟩⟩
theorem brd {p : Prop} [Decidable p] {P Q : Prop} (h1 : p → P) (h2 : ¬ p → Q) : Br (decide p) P Q := by
  by_cases h : p <;> simp [h, h1, h2]
section
variable {α β : Type} {m : M α} {f : α → M β} {u u' : PuS} {a : α} {P Q : α → PuS → Prop} {R : β → PuS → Prop}
theorem Ok.mono (h : Ok m u P) (k : ∀ a u', P a u' → Q a u') : Ok m u Q := by
  obtain ⟨a, u', e, p⟩ := h
  exact ⟨a, u', e, k a u' p⟩
theorem ok_of (e : m u = some (a, u')) : Ok m u P ↔ P a u' := by
  constructor
  · rintro ⟨b, v, e2, p⟩
    rw [e] at e2
    cases e2
    exact p
  · exact fun p => ⟨a, u', e, p⟩
@[simp] theorem ok_pure : Ok (M.pure a) u P ↔ P a u := ok_of rfl
@[simp] theorem ok_bind : Ok (M.bind m f) u R ↔ Ok m u fun a u1 => Ok (f a) u1 R := by
  constructor
  · rintro ⟨b, v, e, p⟩
    obtain ⟨a, u1, e1, e2⟩ := bind_some e
    exact ⟨a, u1, e1, b, v, e2, p⟩
  · rintro ⟨a, u1, e1, b, v, e2, p⟩
    refine ⟨b, v, ?_, p⟩
    unfold M.bind
    rw [e1]
    exact e2
@[simp] theorem ok_lft {o : Option α} : Ok (lft o) u P ↔ ∃ a, o = some a ∧ P a u := by
  cases o with
  | none => constructor
            · rintro ⟨b, v, e, p⟩; cases e
            · rintro ⟨b, e, p⟩; cases e
  | some a => constructor
              · rintro ⟨b, v, e, p⟩; cases e; exact ⟨_, rfl, p⟩
              · rintro ⟨b, e, p⟩; cases e; exact ⟨_, _, rfl, p⟩
@[simp] theorem ok_lfts : Ok (lft (some a)) u P ↔ P a u := ok_of rfl
@[simp] theorem ok_none : Ok (lft (none : Option α)) u P ↔ False := by
  constructor
  · rintro ⟨b, v, e, p⟩; cases e
  · exact False.elim
@[simp] theorem ok_ite {c : Prop} [Decidable c] {m n : M α} : Ok (if c then m else n) u P ↔ if c then Ok m u P else Ok n u P := by split <;> rfl
end
section
variable {ρ : Env} {u : PuS} {P : D → PuS → Prop} {PT : Bool → PuS → Prop} {PA : List D → PuS → Prop} {PS : Fl → PuS → Prop} {m ma mb mi : ME} {t v : MT} {ms mk : MA} {i j n : Nat}
@[simp] theorem ok_var : Ok (mVar i ρ) u P ↔ ∃ d, vSh ρ i = some d ∧ P d u := ok_lft
@[simp] theorem ok_C {d : D} : Ok (mC d ρ) u P ↔ P d u := ok_pure
@[simp] theorem ok_bin {f : D → D → Option D} : Ok (mBin f ma mb ρ) u P ↔ Ok (ma ρ) u fun x u1 => Ok (mb ρ) u1 fun y u2 => ∃ z, f x y = some z ∧ P z u2 := by
  unfold mBin; simp only [ok_bind, ok_lft]
@[simp] theorem ok_un {f : D → Option D} : Ok (mUn f ma ρ) u P ↔ Ok (ma ρ) u fun x u1 => ∃ z, f x = some z ∧ P z u1 := by
  unfold mUn; simp only [ok_bind, ok_lft]
@[simp] theorem ok_CB {f : List D → Option D} : Ok (mCB f ms ρ) u P ↔ Ok (ms ρ) u fun x u1 => ∃ z, f x = some z ∧ P z u1 := by
  unfold mCB; simp only [ok_bind, ok_lft]
@[simp] theorem ok_CBO {f : List D → Option (List D)} : Ok (mCBO f ms ρ) u PA ↔ Ok (ms ρ) u fun x u1 => ∃ z, f x = some z ∧ PA z u1 := by
  unfold mCBO; simp only [ok_bind, ok_lft]
@[simp] theorem ok_Iof {f : List D → Option (List D)} : Ok (mIof f ms ρ) u PA ↔ Ok (ms ρ) u fun x u1 => ∃ z, f x = some z ∧ PA z u1 := by
  unfold mIof; simp only [ok_bind, ok_lft]
@[simp] theorem ok_nil : Ok (mNil ρ) u PA ↔ PA [] u := ok_pure
@[simp] theorem ok_cons : Ok (mCons m ms ρ) u PA ↔ Ok (m ρ) u fun x u1 => Ok (ms ρ) u1 fun xs u2 => PA (x :: xs) u2 := by
  unfold mCons; simp only [ok_bind, ok_pure]
@[simp] theorem ok_tup : Ok (mTup ms ρ) u P ↔ Ok (ms ρ) u fun xs u1 => xs.length ≤ 100000 ∧ P (.tup xs) u1 := by
  unfold mTup; simp only [ok_bind, ok_lft]
  constructor
  · refine fun h => h.mono fun a u' z => ?_
    obtain ⟨d, e, p⟩ := z
    split at e
    · cases e; exact ⟨by assumption, p⟩
    · cases e
  · refine fun h => h.mono fun a u' z => ⟨_, if_pos z.1, z.2⟩
@[simp] theorem ok_lstO : Ok (mLstO ms ρ) u PA ↔ Ok (ms ρ) u fun xs u1 => xs.length ≤ 100000 ∧ PA xs u1 := by
  unfold mLstO; simp only [ok_bind, ok_lft]
  constructor
  · refine fun h => h.mono fun a u' z => ?_
    obtain ⟨d, e, p⟩ := z
    split at e
    · cases e; exact ⟨by assumption, p⟩
    · cases e
  · refine fun h => h.mono fun a u' z => ⟨_, if_pos z.1, z.2⟩
@[simp] theorem ok_B : Ok (mB m ρ) u PT ↔ Ok (m ρ) u fun d u1 => OnB d fun b => PT b u1 := by
  unfold mB; simp only [ok_bind]
  constructor
  · refine fun h => h.mono fun a u' z => ?_
    cases a <;> first | exact ⟨_, rfl, ok_pure.mp z⟩ | exact (ok_none.mp z).elim
  · refine fun h => h.mono fun a u' z => ?_
    obtain ⟨b, rfl, p⟩ := z
    exact ok_pure.mpr p
@[simp] theorem ok_and : Ok (mAnd t v ρ) u PT ↔ Ok (t ρ) u fun b u1 => Br b (Ok (v ρ) u1 PT) (PT false u1) := by
  unfold mAnd; simp only [ok_bind, ok_ite, ok_pure, Br]
@[simp] theorem ok_or : Ok (mOr t v ρ) u PT ↔ Ok (t ρ) u fun b u1 => Br b (PT true u1) (Ok (v ρ) u1 PT) := by
  unfold mOr; simp only [ok_bind, ok_ite, ok_pure, Br]
@[simp] theorem ok_not : Ok (mNot t ρ) u PT ↔ Ok (t ρ) u fun b u1 => PT (!b) u1 := by
  unfold mNot; simp only [ok_bind, ok_pure]
@[simp] theorem ok_if : Ok (mIf t ma mb ρ) u P ↔ Ok (t ρ) u fun b u1 => Br b (Ok (ma ρ) u1 P) (Ok (mb ρ) u1 P) := by
  unfold mIf; simp only [ok_bind, ok_ite, Br]
@[simp] theorem ok_andV : Ok (mAndV ma mb ρ) u P ↔ Ok (ma ρ) u fun d u1 => OnB d fun b => Br b (Ok (mb ρ) u1 P) (P (.bl false) u1) := by
  unfold mAndV; simp only [ok_bind]
  constructor
  · refine fun h => h.mono fun a u' z => ?_
    cases a with
    | bl b => cases b <;> exact ⟨_, rfl, by simpa [ok_pure] using z⟩
    | _ => exact (ok_none.mp z).elim
  · refine fun h => h.mono fun a u' z => ?_
    obtain ⟨b, rfl, p⟩ := z
    cases b <;> simpa [ok_pure] using p
@[simp] theorem ok_orV : Ok (mOrV ma mb ρ) u P ↔ Ok (ma ρ) u fun d u1 => OnB d fun b => Br b (P (.bl true) u1) (Ok (mb ρ) u1 P) := by
  unfold mOrV; simp only [ok_bind]
  constructor
  · refine fun h => h.mono fun a u' z => ?_
    cases a with
    | bl b => cases b <;> exact ⟨_, rfl, by simpa [ok_pure] using z⟩
    | _ => exact (ok_none.mp z).elim
  · refine fun h => h.mono fun a u' z => ?_
    obtain ⟨b, rfl, p⟩ := z
    cases b <;> simpa [ok_pure] using p
@[simp] theorem ok_notV : Ok (mNotV ma ρ) u P ↔ Ok (ma ρ) u fun d u1 => OnB d fun b => P (.bl (!b)) u1 := by
  unfold mNotV; simp only [ok_bind]
  constructor
  · refine fun h => h.mono fun a u' z => ?_
    cases a with
    | bl b => exact ⟨_, rfl, by simpa [ok_pure] using z⟩
    | _ => exact (ok_none.mp z).elim
  · refine fun h => h.mono fun a u' z => ?_
    obtain ⟨b, rfl, p⟩ := z
    simpa [ok_pure] using p
@[simp] theorem ok_Fz : Ok (mFz ms ρ) u P ↔ Ok (ms ρ) u fun ds u1 => P (.lst ds) u1 := by
  unfold mFz; simp only [ok_bind, ok_pure]
@[simp] theorem ok_sl {ml mh : MO} : Ok (mSl m ml mh ρ) u P ↔ Ok (m ρ) u fun d u1 => Ok (ml ρ) u1 fun lo u2 => Ok (mh ρ) u2 fun hi u3 => ∃ z, slD d lo hi = some z ∧ P z u3 := by
  unfold mSl; simp only [ok_bind, ok_lft]
@[simp] theorem ok_On {P : Option Int → PuS → Prop} : Ok (mOn ρ) u P ↔ P none u := ok_pure
@[simp] theorem ok_Os {P : Option Int → PuS → Prop} : Ok (mOs m ρ) u P ↔ Ok (m ρ) u fun d u1 => ∃ i, d = .int i ∧ P (some i) u1 := by
  unfold mOs; simp only [ok_bind]
  constructor
  · refine fun h => h.mono fun a u' z => ?_
    cases a <;> first | exact ⟨_, rfl, ok_pure.mp z⟩ | exact (ok_none.mp z).elim
  · refine fun h => h.mono fun a u' z => ?_
    obtain ⟨b, rfl, p⟩ := z
    exact ok_pure.mpr p
@[simp] theorem ok_call {mf : List D → M D} : Ok (mCall n mf ms ρ) u P ↔ Ok (ms ρ) u fun ds u1 => ds.length = n ∧ Ok (mf ds) u1 P := by
  unfold mCall; simp only [ok_bind, ok_ite]
  constructor
  · refine fun h => h.mono fun a u' z => ?_
    split at z
    · exact ⟨by assumption, z⟩
    · exact (ok_none.mp z).elim
  · refine fun h => h.mono fun a u' z => ?_
    rw [if_pos z.1]; exact z.2
@[simp] theorem ok_callL {mf : List D → M (List D)} : Ok (mCallL n mf ms ρ) u PA ↔ Ok (ms ρ) u fun ds u1 => ds.length = n ∧ Ok (mf ds) u1 PA := by
  unfold mCallL; simp only [ok_bind, ok_ite]
  constructor
  · refine fun h => h.mono fun a u' z => ?_
    split at z
    · exact ⟨by assumption, z⟩
    · exact (ok_none.mp z).elim
  · refine fun h => h.mono fun a u' z => ?_
    rw [if_pos z.1]; exact z.2
@[simp] theorem ok_self {k : Str} {mf : List D → M D} : Ok (mSelf k mf m ρ) u P ↔ Ok (m ρ) u fun d u1 => ∃ ks ds, d = .obj k ks ds ∧ Ok (mf [.obj k ks ds]) u1 P := by
  unfold mSelf; simp only [ok_bind]
  constructor
  · refine fun h => h.mono fun a u' z => ?_
    cases a with
    | obj c ks ds =>
      simp only [ok_ite] at z
      split at z
      · rename_i h; subst h; exact ⟨_, _, rfl, z⟩
      · exact (ok_none.mp z).elim
    | _ => exact (ok_none.mp z).elim
  · refine fun h => h.mono fun a u' z => ?_
    obtain ⟨ks, ds, rfl, z⟩ := z
    simp only [ok_ite, if_true]; exact z
@[simp] theorem ok_make {k : Str} {mf : List D → M (List Str × List D)} : Ok (mMake k n mf ms ρ) u P ↔ Ok (ms ρ) u fun ds u1 => ds.length = n ∧ Ok (mf ds) u1 fun r u2 => P (.obj k r.1 r.2) u2 := by
  unfold mMake; simp only [ok_bind, ok_ite]
  constructor
  · refine fun h => h.mono fun a u' z => ?_
    split at z
    · exact ⟨by assumption, by simpa only [ok_bind, ok_pure] using z⟩
    · exact (ok_none.mp z).elim
  · refine fun h => h.mono fun a u' z => ?_
    rw [if_pos z.1]; simpa only [ok_bind, ok_pure] using z.2
@[simp] theorem ok_ixO : Ok (mIxO i mi ρ) u P ↔ Ok (mi ρ) u fun k u1 => ∃ ds j z, vOw ρ i = some ds ∧ k = .int j ∧ atI ds j = some z ∧ P z u1 := by
  unfold mIxO; simp only [ok_bind, ok_lft]
  constructor
  · refine fun h => h.mono fun a u' z => ?_
    obtain ⟨ds, e, d, e2, p⟩ := z
    cases a <;> first | exact ⟨ds, _, d, e, rfl, e2, p⟩ | cases e2
  · refine fun h => h.mono fun a u' z => ?_
    obtain ⟨ds, j, z, e, rfl, e2, p⟩ := z
    exact ⟨ds, e, z, e2, p⟩
@[simp] theorem ok_Iany : Ok (mIany m ρ) u PA ↔ Ok (m ρ) u fun d u1 => ∃ ds, itD d = some ds ∧ PA ds u1 := by
  unfold mIany; simp only [ok_bind, ok_lft]
@[simp] theorem s_itL {ds : List D} : itD (.lst ds) = some ds := rfl
@[simp] theorem s_itT {ds : List D} : itD (.tup ds) = some ds := rfl
@[simp] theorem ok_lcO {vs : List Nat} {g : MG} {mt : MT} {me : ME} : Ok (mLcO vs ms g mt me ρ) u PA ↔ Ok (ms ρ) u fun ds u1 => ds.length ≤ 100000 ∧ Ok (lcD g mt me (wipeE ρ vs) ds) u1 PA := by
  unfold mLcO; simp only [ok_bind, ok_ite]
  constructor
  · refine fun h => h.mono fun a u' z => ?_
    split at z
    · exact ⟨by assumption, z⟩
    · exact (ok_none.mp z).elim
  · refine fun h => h.mono fun a u' z => ?_
    rw [if_pos z.1]; exact z.2
@[simp] theorem ok_borT : Ok (mBorT i t ρ) u PT ↔ Ok (t (frz i ρ)) u PT := Iff.rfl
@[simp] theorem ok_borL : Ok (mBorL i ms ρ) u PA ↔ Ok (ms (frz i ρ)) u fun d u1 => noLsts d = true ∧ PA d u1 := by
  unfold mBorL; simp only [ok_bind, ok_lft]
  constructor
  · refine fun h => h.mono fun a u' z => ?_
    obtain ⟨d, e, p⟩ := z
    split at e
    · cases e; exact ⟨by assumption, p⟩
    · cases e
  · refine fun h => h.mono fun a u' z => ⟨_, if_pos z.1, z.2⟩
@[simp] theorem ok_ixP : Ok (mIxP i mi ρ) u P ↔ Ok (mi ρ) u fun k u1 => ∃ d, vSh ρ i = some d ∧ Ok (getP d k) u1 P := by
  unfold mIxP; simp only [ok_bind, ok_lft]
/-! statements -/
@[simp] theorem ok_next : Ok (mNext ρ) u PS ↔ PS (.nx ρ) u := ok_pure
@[simp] theorem ok_seq {m n : MS} : Ok (mSeq m n ρ) u PS ↔ Ok (m ρ) u fun f u1 => match f with
    | .nx ρ1 => Ok (n ρ1) u1 PS
    | f' => PS f' u1 := by
  unfold mSeq; simp only [ok_bind]
  constructor
  · refine fun h => h.mono fun f u' z => ?_
    cases f <;> first | exact z | exact ok_pure.mp z
  · refine fun h => h.mono fun f u' z => ?_
    cases f <;> first | exact z | exact ok_pure.mpr z
@[simp] theorem ok_drop : Ok (mDrop m ρ) u PS ↔ Ok (m ρ) u fun _ u1 => PS (.nx ρ) u1 := by unfold mDrop; simp only [ok_bind, ok_pure]
@[simp] theorem ok_ret : Ok (mRet m ρ) u PS ↔ Ok (m ρ) u fun d u1 => PS (.rt d) u1 := by unfold mRet; simp only [ok_bind, ok_pure]
@[simp] theorem ok_retL : Ok (mRetL ms ρ) u PS ↔ Ok (ms ρ) u fun d u1 => PS (.rl d) u1 := by unfold mRetL; simp only [ok_bind, ok_pure]
@[simp] theorem ok_ifS {m n : MS} : Ok (mIfS t m n ρ) u PS ↔ Ok (t ρ) u fun b u1 => Br b (Ok (m ρ) u1 PS) (Ok (n ρ) u1 PS) := by unfold mIfS; simp only [ok_bind, ok_ite, Br]
@[simp] theorem ok_set : Ok (mSet i m ρ) u PS ↔ Ok (m ρ) u fun d u1 => PS (.nx (ρ.set i (.sh d))) u1 := by unfold mSet; simp only [ok_bind, ok_pure]
@[simp] theorem ok_setO : Ok (mSetO i ms ρ) u PS ↔ Ok (ms ρ) u fun d u1 => PS (.nx (ρ.set i (.ow d))) u1 := by unfold mSetO; simp only [ok_bind, ok_pure]
@[simp] theorem ok_stuck : Ok (mStuck ρ) u PS ↔ False := ok_none
@[simp] theorem ok_for {g : MG} {mb : MS} : Ok (mFor ms g mb ρ) u PS ↔ Ok (ms ρ) u fun ds u1 => Ok (loopD g mb ds ρ) u1 PS := by unfold mFor; simp only [ok_bind]
@[simp] theorem ok_app : Ok (mApp i m ρ) u PS ↔ Ok (m ρ) u fun d u1 => ∃ ds, vOw ρ i = some ds ∧ ds.length < 100000 ∧ PS (.nx (ρ.set i (.ow (ds ++ [d])))) u1 := by
  unfold mApp; simp only [ok_bind, ok_lft, ok_pure]
  constructor
  · refine fun h => h.mono fun f u' z => ?_
    obtain ⟨ds, e, _, e2, p⟩ := z
    split at e2
    · exact ⟨ds, e, by assumption, p⟩
    · cases e2
  · refine fun h => h.mono fun f u' z => ?_
    obtain ⟨ds, e, e2, p⟩ := z
    exact ⟨ds, e, (), if_pos e2, p⟩
@[simp] theorem ok_putP {mv : ME} : Ok (mPutP i mv mi ρ) u PS ↔ Ok (mv ρ) u fun v u1 => Ok (mi ρ) u1 fun k u2 => ∃ d, vSh ρ i = some d ∧ Ok (putP d k v) u2 fun _ u3 => PS (.nx ρ) u3 := by
  unfold mPutP; simp only [ok_bind, ok_lft, ok_pure]
@[simp] theorem ok_frz {m : MS} : Ok (mFrz i m ρ) u PS ↔ Ok (m (frz i ρ)) u PS := Iff.rfl
@[simp] theorem ok_asg {g : MG} : Ok (mAsg m g ρ) u PS ↔ Ok (m ρ) u fun d u1 => ∃ ρ1, g d ρ = some ρ1 ∧ PS (.nx ρ1) u1 := by
  unfold mAsg; simp only [ok_bind, ok_lft]
  constructor
  · refine fun h => h.mono fun f u' z => ?_
    obtain ⟨a, e, p⟩ := z
    cases e1 : g f ρ with
    | none => rw [e1] at e; cases e
    | some r => rw [e1] at e; cases e; exact ⟨r, rfl, p⟩
  · refine fun h => h.mono fun f u' z => ?_
    obtain ⟨a, e, p⟩ := z
    exact ⟨_, by rw [e]; rfl, p⟩
@[simp] theorem ok_Mnil {P : List Sd → PuS → Prop} : Ok (mMnil ρ) u P ↔ P [] u := ok_pure
@[simp] theorem ok_Msh {mm : MM} {P : List Sd → PuS → Prop} : Ok (mMsh m mm ρ) u P ↔ Ok (m ρ) u fun d u1 => Ok (mm ρ) u1 fun ds u2 => P (.sh d :: ds) u2 := by unfold mMsh; simp only [ok_bind, ok_pure]
@[simp] theorem ok_Mow {mm : MM} {P : List Sd → PuS → Prop} : Ok (mMow ms mm ρ) u P ↔ Ok (ms ρ) u fun d u1 => Ok (mm ρ) u1 fun ds u2 => P (.ow d :: ds) u2 := by unfold mMow; simp only [ok_bind, ok_pure]
@[simp] theorem ok_par {is : List Nat} {mm : MM} : Ok (mPar is mm ρ) u PS ↔ Ok (mm ρ) u fun sds u1 => sds.length = is.length ∧ PS (.nx (setAll is sds ρ)) u1 := by
  unfold mPar; simp only [ok_bind, ok_ite]
  constructor
  · refine fun h => h.mono fun f u' z => ?_
    split at z
    · exact ⟨by assumption, ok_pure.mp z⟩
    · exact (ok_none.mp z).elim
  · refine fun h => h.mono fun f u' z => ?_
    rw [if_pos z.1]; exact ok_pure.mpr z.2
@[simp] theorem ok_selfSet {ck fn : Str} : Ok (mSelfSet i ck fn m ρ) u PS ↔ Ok (m ρ) u fun d u1 => ∃ ks es, ρ[i]? = some (Sd.oi ck ks es) ∧ fn ∉ ks ∧ ks.length < 900 ∧ PS (.nx (ρ.set i (.oi ck (ks ++ [fn]) (es ++ [d])))) u1 := by
  unfold mSelfSet; simp only [ok_bind, ok_lft, ok_pure]
  constructor
  · refine fun h => h.mono fun f u' z => ?_
    obtain ⟨q, e, p⟩ := z
    split at e
    · split at e
      · rename_i e0 hh
        obtain ⟨rfl, h1, h2⟩ := hh
        cases e
        exact ⟨_, _, e0, h1, h2, p⟩
      · cases e
    · cases e
  · refine fun h => h.mono fun f u' z => ?_
    obtain ⟨ks, es, e, h1, h2, p⟩ := z
    exact ⟨(ks, es), by rw [e]; exact if_pos ⟨rfl, h1, h2⟩, p⟩
@[simp] theorem ok_fn {n : Nat} {mb : MS} {ds : List D} : Ok (mFn n mb ds) u P ↔ Ok (mb (startE n ds)) u fun f u1 => match f with
    | .rt d => P d u1
    | .nx _ => P .non u1
    | _ => False := by
  constructor
  · rintro ⟨a, u', e, p⟩
    unfold mFn at e
    cases e1 : mb (startE n ds) u with
    | none => rw [e1] at e; cases e
    | some y =>
      obtain ⟨f, u1⟩ := y
      rw [e1] at e
      cases f <;> first | (cases e; exact ⟨_, _, e1, p⟩) | cases e
  · rintro ⟨f, u1, e, p⟩
    cases f <;> first | exact ⟨_, u1, by unfold mFn; rw [e], p⟩ | exact False.elim p
@[simp] theorem ok_fnL {n : Nat} {mb : MS} {ds : List D} : Ok (mFnL n mb ds) u PA ↔ Ok (mb (startE n ds)) u fun f u1 => match f with
    | .rl d => PA d u1
    | _ => False := by
  constructor
  · rintro ⟨a, u', e, p⟩
    unfold mFnL at e
    cases e1 : mb (startE n ds) u with
    | none => rw [e1] at e; cases e
    | some y =>
      obtain ⟨f, u1⟩ := y
      rw [e1] at e
      cases f <;> first | (cases e; exact ⟨_, _, e1, p⟩) | cases e
  · rintro ⟨f, u1, e, p⟩
    cases f <;> first | exact ⟨_, u1, by unfold mFnL; rw [e], p⟩ | exact False.elim p
@[simp] theorem ok_init {n : Nat} {ck : Str} {mb : MS} {ds : List D} {P : List Str × List D → PuS → Prop} : Ok (mInit n ck mb ds) u P ↔ Ok (mb (startI n ck ds)) u fun f u1 => match f with
    | .nx ρ' => ∃ ks es, ρ'[0]? = some (Sd.oi ck ks es) ∧ P (ks, es) u1
    | _ => False := by
  constructor
  · rintro ⟨a, u', e, p⟩
    unfold mInit at e
    cases e1 : mb (startI n ck ds) u with
    | none => rw [e1] at e; cases e
    | some y =>
      obtain ⟨f, u1⟩ := y
      rw [e1] at e
      cases f with
      | nx ρ' =>
        refine ⟨_, _, e1, ?_⟩
        have e' : (match (ρ'[0]? : Option Sd) with
          | some (Sd.oi k ks es) => if k = ck then some ((ks, es), u1) else none
          | _ => none) = some (a, u') := e
        split at e'
        · rename_i e0
          split at e'
          · rename_i hk
            subst hk
            cases e'
            exact ⟨_, _, e0, p⟩
          · cases e'
        · cases e'
      | _ => cases e
  · rintro ⟨f, u1, e, p⟩
    cases f with
    | nx ρ' =>
      obtain ⟨ks, es, e0, p⟩ := p
      refine ⟨(ks, es), u1, ?_, p⟩
      unfold mInit
      rw [e]
      show (match (ρ'[0]? : Option Sd) with
          | some (Sd.oi k ks es) => if k = ck then some ((ks, es), u1) else none
          | _ => none) = _
      rw [e0]
      exact if_pos rfl
    | _ => exact False.elim p
end
/-! loops -/
theorem ok_loop {g : MG} {mb : MS} {P : Fl → PuS → Prop} (Inv : List D → Env → PuS → Prop)
    (step : ∀ d ds ρ u, Inv (d :: ds) ρ u → ∃ ρ1, g d ρ = some ρ1 ∧ Ok (mb ρ1) u fun f u' => match f with
      | .nx ρ2 => Inv ds ρ2 u'
      | .ct ρ2 => Inv ds ρ2 u'
      | .bk ρ2 => P (.nx ρ2) u'
      | .rt d => P (.rt d) u'
      | .rl d => P (.rl d) u'
      | .ex ρ2 k ks ds => P (.ex ρ2 k ks ds) u')
    (stop : ∀ ρ u, Inv [] ρ u → P (.nx ρ) u) : ∀ (ds : List D) (ρ : Env) (u : PuS), Inv ds ρ u → Ok (loopD g mb ds ρ) u P
  | [], ρ, u, h => ok_pure.mpr (stop ρ u h)
  | d :: ds, ρ, u, h => by
    obtain ⟨ρ1, e, h1⟩ := step d ds ρ u h
    unfold loopD
    rw [ok_bind, ok_lft]
    refine ⟨ρ1, e, ?_⟩
    rw [ok_bind]
    refine h1.mono fun f u' z => ?_
    cases f with
    | nx ρ2 => exact ok_loop Inv step stop ds ρ2 u' z
    | ct ρ2 => exact ok_loop Inv step stop ds ρ2 u' z
    | bk ρ2 => exact ok_pure.mpr z
    | rt d => exact ok_pure.mpr z
    | rl d => exact ok_pure.mpr z
    | ex ρ2 k ks ds => exact ok_pure.mpr z
/-- a comprehension that draws: each element has E, the state keeps I -/
theorem ok_lc {g : MG} {mt : MT} {me : ME} {ρ : Env} (I : PuS → Prop) (E : D → Prop) : ∀ (ds : List D) (u : PuS), I u → (∀ d ∈ ds, ∀ u, I u → ∃ ρ1, g d ρ = some ρ1 ∧ Ok (mt ρ1) u fun b u1 => b = true ∧ Ok (me ρ1) u1 fun y u2 => E y ∧ I u2) →
    Ok (lcD g mt me ρ ds) u fun ys u' => (ys.length = ds.length ∧ ∀ y ∈ ys, E y) ∧ I u'
  | [], u, hu, _ => ok_pure.mpr ⟨⟨rfl, fun y hy => by cases hy⟩, hu⟩
  | d :: ds, u, hu, h => by
    obtain ⟨ρ1, e, h1⟩ := h d List.mem_cons_self u hu
    unfold lcD
    rw [ok_bind, ok_lft]
    refine ⟨ρ1, e, ?_⟩
    rw [ok_bind]
    refine h1.mono fun b u1 z => ?_
    obtain ⟨rfl, z⟩ := z
    simp only [if_true, ok_bind]
    refine z.mono fun y u2 z2 => (ok_lc I E ds u2 z2.2 fun d hd => h d (List.mem_cons_of_mem _ hd)).mono fun ys u3 z3 => ?_
    rw [ok_pure]
    refine ⟨⟨by simp [z3.1.1], fun x hx => ?_⟩, z3.2⟩
    rcases List.mem_cons.mp hx with rfl | hx
    · exact z2.1
    · exact z3.1.2 x hx
theorem ok_list {g : MG} {mb : MS} {P : Fl → PuS → Prop} (xs : List D) (Inv : Nat → Env → PuS → Prop)
    (step : ∀ k d ρ u, xs[k]? = some d → Inv k ρ u → ∃ ρ1, g d ρ = some ρ1 ∧ Ok (mb ρ1) u fun f u' => match f with
      | .nx ρ2 => Inv (k + 1) ρ2 u'
      | .ct ρ2 => Inv (k + 1) ρ2 u'
      | .bk ρ2 => P (.nx ρ2) u'
      | .rt d => P (.rt d) u'
      | .rl d => P (.rl d) u'
      | .ex ρ2 k ks ds => P (.ex ρ2 k ks ds) u')
    (stop : ∀ ρ u, Inv xs.length ρ u → P (.nx ρ) u) (ρ : Env) (u : PuS) (h : Inv 0 ρ u) : Ok (loopD g mb xs ρ) u P := by
  refine ok_loop (fun ds ρ u => ∃ k, k ≤ xs.length ∧ ds = xs.drop k ∧ Inv k ρ u) ?_ ?_ _ ρ u ⟨0, Nat.zero_le _, rfl, h⟩
  · rintro d ds ρ u ⟨k, hk, e, hi⟩
    have hkn : k < xs.length := by
      rcases Nat.lt_or_ge k xs.length with z | z
      · exact z
      · rw [List.drop_eq_nil_of_le z] at e; cases e
    rw [List.drop_eq_getElem_cons hkn] at e
    obtain ⟨e1, e2⟩ := List.cons.inj e
    obtain ⟨ρ1, e4, h1⟩ := step k d ρ u (by rw [e1]; exact List.getElem?_eq_getElem hkn) hi
    refine ⟨ρ1, e4, h1.mono fun f u' z => ?_⟩
    cases f with
    | nx ρ2 => exact ⟨k + 1, hkn, e2, z⟩
    | ct ρ2 => exact ⟨k + 1, hkn, e2, z⟩
    | _ => exact z
  · rintro ρ u ⟨k, hk, e, hi⟩
    have hkn : k = xs.length := by
      have := congrArg List.length e
      simp at this
      omega
    subst hkn
    exact stop ρ u hi
theorem eq_of_ok {α : Type} {m : M α} {u : PuS} {a : α} (h : Ok m u fun b u' => b = a ∧ u' = u) : m u = some (a, u) := by
  obtain ⟨b, u', e, rfl, rfl⟩ := h
  exact e
theorem lc_is {g : MG} {mt : MT} {me : ME} {ρ : Env} {u : PuS} {f : Nat → D} {r : Nat → Env} {t : Nat → Bool} {e : Nat → D} : ∀ (is : List Nat), (∀ i ∈ is, g (f i) ρ = some (r i)) → (∀ i ∈ is, Ok (mt (r i)) u fun b u' => b = t i ∧ u' = u) →
    (∀ i ∈ is, t i = true → Ok (me (r i)) u fun b u' => b = e i ∧ u' = u) → lcD g mt me ρ (is.map f) u = some ((is.filter t).map e, u)
  | [], _, _, _ => rfl
  | i :: is, h1, h2, h3 => by
    have ih := lc_is is (fun x hx => h1 x (List.mem_cons_of_mem _ hx)) (fun x hx => h2 x (List.mem_cons_of_mem _ hx)) (fun x hx => h3 x (List.mem_cons_of_mem _ hx))
    refine eq_of_ok ?_
    rw [List.map_cons]
    unfold lcD
    rw [ok_bind, ok_lft]
    refine ⟨_, h1 i List.mem_cons_self, ?_⟩
    rw [ok_bind, ok_of (eq_of_ok (h2 i List.mem_cons_self))]
    cases ht : t i with
    | false =>
      rw [if_neg (by decide), ok_of ih]
      simp [ht]
    | true =>
      rw [if_pos rfl, ok_bind, ok_of (eq_of_ok (h3 i List.mem_cons_self ht)), ok_bind, ok_of ih, ok_pure]
      simp [ht]
/-- a comprehension over a range that draws nothing -/
theorem ok_lcr {g : MG} {mt : MT} {me : ME} {ρ : Env} {u : PuS} {lo : Int} {n : Nat} (r : Nat → Env) (t : Nat → Bool) (e : Nat → D) {P : List D → PuS → Prop} (h1 : ∀ i, i < n → g (.int (lo + (i : Nat))) ρ = some (r i)) (h2 : ∀ i, i < n → Ok (mt (r i)) u fun b u' => b = t i ∧ u' = u)
    (h3 : ∀ i, i < n → t i = true → Ok (me (r i)) u fun b u' => b = e i ∧ u' = u) (h : P (((List.range n).filter t).map e) u) : Ok (lcD g mt me ρ (rngD lo n)) u P := by
  have := lc_is (g := g) (mt := mt) (me := me) (ρ := ρ) (u := u) (f := fun i => D.int (lo + (i : Nat))) (r := r) (t := t) (e := e) (List.range n) (fun i hi => h1 i (List.mem_range.mp hi)) (fun i hi => h2 i (List.mem_range.mp hi)) (fun i hi => h3 i (List.mem_range.mp hi))
  exact (ok_of this).mpr h
/-- .. over a list -/
theorem ok_lcl {g : MG} {mt : MT} {me : ME} {ρ : Env} {u : PuS} {xs : List Int} (r : Int → Env) (t : Int → Bool) (e : Int → D) {P : List D → PuS → Prop} (h1 : ∀ x ∈ xs, g (.int x) ρ = some (r x)) (h2 : ∀ x ∈ xs, Ok (mt (r x)) u fun b u' => b = t x ∧ u' = u)
    (h3 : ∀ x ∈ xs, t x = true → Ok (me (r x)) u fun b u' => b = e x ∧ u' = u) (h : P ((xs.filter t).map e) u) : Ok (lcD g mt me ρ (xs.map D.int)) u P := by
  have : lcD g mt me ρ (xs.map D.int) u = some ((xs.filter t).map e, u) := by
    clear h
    induction xs with
    | nil => rfl
    | cons x xs ih =>
      have ih := ih (fun y hy => h1 y (List.mem_cons_of_mem _ hy)) (fun y hy => h2 y (List.mem_cons_of_mem _ hy)) (fun y hy => h3 y (List.mem_cons_of_mem _ hy))
      refine eq_of_ok ?_
      rw [List.map_cons]
      unfold lcD
      rw [ok_bind, ok_lft]
      refine ⟨_, h1 x List.mem_cons_self, ?_⟩
      rw [ok_bind, ok_of (eq_of_ok (h2 x List.mem_cons_self))]
      cases ht : t x with
      | false =>
        rw [if_neg (by decide), ok_of ih]
        simp [ht]
      | true =>
        rw [if_pos rfl, ok_bind, ok_of (eq_of_ok (h3 x List.mem_cons_self ht)), ok_bind, ok_of ih, ok_pure]
        simp [ht]
  exact (ok_of this).mpr h
theorem ok_with {mf : List D → M D} {ml : MA} {ρ : Env} {u : PuS} {P : D → PuS → Prop} (b : Bool) (h : Ok (ml ρ) u fun ds u1 => ∃ (l : List Int), ds = l.map D.int ∧ (Ok (mf [.pur]) (.real l) fun d _ => d = .bl b) ∧ P (.bl b) u1) : Ok (mWith mf ml ρ) u P := by
  unfold mWith
  rw [ok_bind]
  refine h.mono fun ds u1 z => ?_
  obtain ⟨l, rfl, ⟨d, u2, e, rfl⟩, p⟩ := z
  rw [ok_lft]
  refine ⟨.bl b, ?_, p⟩
  rw [intsD_map]
  show (match mf [.pur] (.real l) with
    | some (.bl b, _) => some (D.bl b)
    | _ => none) = _
  rw [e]
@[simp] theorem ok_yes {ρ : Env} {u : PuS} {P : Bool → PuS → Prop} : Ok (mYes ρ) u P ↔ P true u := ok_pure
@[simp] theorem ex_two {α β : Type} {a : α} {b : β} {Q : α → β → Prop} : (∃ x y, (a = x ∧ b = y) ∧ Q x y) ↔ Q a b := ⟨fun ⟨_, _, ⟨e1, e2⟩, h⟩ => by rw [← e1, ← e2] at h; exact h, fun h => ⟨a, b, ⟨rfl, rfl⟩, h⟩⟩
/-! data, for simp -/
section
variable {a b i j : Int} {xs ys : List D} {x y : D}
@[simp] theorem s_add : addD (.int a) (.int b) = some (.int (a + b)) := rfl
@[simp] theorem s_sub : subD (.int a) (.int b) = some (.int (a - b)) := rfl
theorem s_mul : mulD (.int a) (.int b) = if mulC a b = true then some (.int (a * b)) else none := rfl
@[simp] theorem s_neg : negD (.int a) = some (.int (-a)) := rfl
@[simp] theorem s_lt : ltD (.int a) (.int b) = some (.bl (decide (a < b))) := rfl
@[simp] theorem s_le : leD (.int a) (.int b) = some (.bl (decide (a ≤ b))) := rfl
@[simp] theorem s_gt : gtD (.int a) (.int b) = some (.bl (decide (b < a))) := rfl
@[simp] theorem s_ge : geD (.int a) (.int b) = some (.bl (decide (b ≤ a))) := rfl
@[simp] theorem e_mul {Q : D → Prop} : (∃ z, mulD (.int a) (.int b) = some z ∧ Q z) ↔ mulC a b = true ∧ Q (.int (a * b)) := by
  rw [s_mul]
  split
  · simp [*]
  · simp [*]
@[simp] theorem mulC_iff : mulC a b = true ↔ (-18446744073709551616 < a ∧ a < 18446744073709551616 ∨ -18446744073709551616 < b ∧ b < 18446744073709551616) ∨ a.natAbs.log2 + b.natAbs.log2 < 1000000 := by
  unfold mulC
  rw [Bool.or_eq_true_iff, decide_eq_true_iff, decide_eq_true_iff]
  exact Iff.rfl
@[simp] theorem e_mod {Q : D → Prop} : (∃ z, modD (.int a) (.int b) = some z ∧ Q z) ↔ 0 < b ∧ Q (.int (a % b)) := by
  show (∃ z, (if decide (0 < b) = true then some (D.int (a % b)) else none) = some z ∧ Q z) ↔ _
  by_cases h : 0 < b <;> simp [h]
theorem log_small (h : b.natAbs < 1000000000) : b.natAbs.log2 < 30 := by
  by_cases z : b.natAbs = 0
  · rw [z]; decide
  · exact (Nat.log2_lt z).mpr (by omega)
@[simp] theorem e_fdiv {Q : D → Prop} : (∃ z, fdivD (.int a) (.int b) = some z ∧ Q z) ↔ fdivC a b = true ∧ Q (.int (a / b)) := by
  show (∃ z, (if fdivC a b = true then some (D.int (a / b)) else none) = some z ∧ Q z) ↔ _
  by_cases h : fdivC a b = true <;> simp [h]
@[simp] theorem fdivC_small (h : 0 < b ∧ b < 1000000000) : fdivC a b = true := by
  unfold fdivC
  have := log_small (b := b) (by omega)
  exact decide_eq_true ⟨h.1, by omega⟩
@[simp] theorem e_pow {Q : D → Prop} : (∃ z, powD (.int a) (.int b) = some z ∧ Q z) ↔ powC a b = true ∧ Q (.int (a ^ b.toNat)) := by
  show (∃ z, (if powC a b = true then some (D.int (a ^ b.toNat)) else none) = some z ∧ Q z) ↔ _
  by_cases h : powC a b = true <;> simp [h]
@[simp] theorem e_dm {Q : D → Prop} : (∃ z, dmD [.int a, .int b] = some z ∧ Q z) ↔ dmC a b = true ∧ Q (.tup [.int (a / b), .int (a % b)]) := by
  show (∃ z, (if dmC a b = true then some (D.tup [.int (a / b), .int (a % b)]) else none) = some z ∧ Q z) ↔ _
  by_cases h : dmC a b = true <;> simp [h]
@[simp] theorem dmC_small (h : 0 < b ∧ b < 1000000000) : dmC a b = true := by
  unfold dmC
  have := log_small (b := b) (by omega)
  have e : Builtin.divisionGoesByPylong a b = false := by
    unfold Builtin.divisionGoesByPylong
    simp only []
    have hb : ¬ ((if (b == 0) = true then 0 else b.natAbs.log2 / 30 + 1) > 300) := by
      split
      · omega
      · omega
    simp only [hb, decide_false, Bool.false_and]
  rw [e, decide_eq_true h.1]; rfl
@[simp] theorem e_rng1 {Q : List D → Prop} : (∃ z, rng1 [.int j] = some z ∧ Q z) ↔ (-100000 ≤ j ∧ j ≤ 100000) ∧ Q (rngD 0 j.toNat) := by
  show (∃ z, (if -100000 ≤ j ∧ j ≤ 100000 then some (rngD 0 j.toNat) else none) = some z ∧ Q z) ↔ _
  by_cases h : -100000 ≤ j ∧ j ≤ 100000 <;> simp [h]
@[simp] theorem e_rng2 {Q : List D → Prop} : (∃ z, rng2 [.int i, .int j] = some z ∧ Q z) ↔ ((-100000 ≤ i ∧ i ≤ 100000) ∧ -100000 ≤ j ∧ j ≤ 100000) ∧ Q (rngD i (j - i).toNat) := by
  show (∃ z, (if (-100000 ≤ i ∧ i ≤ 100000) ∧ -100000 ≤ j ∧ j ≤ 100000 then some (rngD i (j - i).toNat) else none) = some z ∧ Q z) ↔ _
  by_cases h : (-100000 ≤ i ∧ i ≤ 100000) ∧ -100000 ≤ j ∧ j ≤ 100000 <;> simp [h]
@[simp] theorem s_powC : powC a b = true ↔ 0 ≤ b ∧ b ≤ 1000000 ∧ a.natAbs < 18446744073709551616 := by unfold powC; exact decide_eq_true_iff
@[simp] theorem s_ixL : ixD (.lst xs) (.int i) = atI xs i := rfl
@[simp] theorem s_ixT : ixD (.tup xs) (.int i) = atI xs i := rfl
@[simp] theorem s_slL {lo hi : Option Int} : slD (.lst xs) lo hi = some (.lst (cutD xs lo hi)) := rfl
@[simp] theorem s_slT {lo hi : Option Int} : slD (.tup xs) lo hi = some (.tup (cutD xs lo hi)) := rfl
@[simp] theorem s_setAll2 {k l : Nat} {s t : Sd} {ρ : Env} : setAll [k, l] [s, t] ρ = (ρ.set k s).set l t := rfl
@[simp] theorem s_setAll3 {k l m : Nat} {s t r : Sd} {ρ : Env} : setAll [k, l, m] [s, t, r] ρ = ((ρ.set k s).set l t).set m r := rfl
@[simp] theorem s_wipe0 {ρ : Env} : wipeE ρ [] = ρ := rfl
@[simp] theorem s_wipe {ρ : Env} {k : Nat} {ks : List Nat} : wipeE ρ (k :: ks) = (wipeE ρ ks).set k .un := rfl
@[simp] theorem s_frz {ρ : Env} {k : Nat} : frz k ρ = match vOw ρ k with
  | some ds => ρ.set k (.sh (.lst ds))
  | none => ρ := rfl
theorem at_nat {α : Type} {l : List α} {k : Nat} {x : α} (h : l[k]? = some x) : atI l (k : Int) = some x := by
  have hk : k < l.length := (List.getElem?_eq_some_iff.mp h).1
  unfold atI ixN
  rw [if_pos (by omega), if_pos (by omega)]
  simpa using h
theorem at_last {α : Type} {l : List α} {x : α} : atI (l ++ [x]) (-1) = some x := by
  unfold atI ixN
  rw [if_neg (by omega), if_pos (by simp; omega)]
  have : ((-1 : Int) + ((l.length : Int) + 1)).toNat = l.length := by omega
  simp [this]
/-- each turn of a loop over a range -/
theorem ok_range {g : MG} {mb : MS} {P : Fl → PuS → Prop} (lo : Int) (n : Nat) (Inv : Nat → Env → PuS → Prop)
    (step : ∀ k ρ u, k < n → Inv k ρ u → ∃ ρ1, g (.int (lo + (k : Nat))) ρ = some ρ1 ∧ Ok (mb ρ1) u fun f u' => match f with
      | .nx ρ2 => Inv (k + 1) ρ2 u'
      | .ct ρ2 => Inv (k + 1) ρ2 u'
      | .bk ρ2 => P (.nx ρ2) u'
      | .rt d => P (.rt d) u'
      | .rl d => P (.rl d) u'
      | .ex ρ2 k ks ds => P (.ex ρ2 k ks ds) u')
    (stop : ∀ ρ u, Inv n ρ u → P (.nx ρ) u) (ρ : Env) (u : PuS) (h : Inv 0 ρ u) : Ok (loopD g mb (rngD lo n) ρ) u P := by
  refine ok_loop (fun ds ρ u => ∃ k, k ≤ n ∧ ds = (rngD lo n).drop k ∧ Inv k ρ u) ?_ ?_ _ ρ u ⟨0, Nat.zero_le _, rfl, h⟩
  · rintro d ds ρ u ⟨k, hk, e, hi⟩
    have hkn : k < n := by
      rcases Nat.lt_or_ge k n with z | z
      · exact z
      · rw [List.drop_eq_nil_of_le (by rw [rngD_len]; exact z)] at e; cases e
    rw [List.drop_eq_getElem_cons (by rw [rngD_len]; exact hkn)] at e
    obtain ⟨e1, e2⟩ := List.cons.inj e
    have e3 : d = .int (lo + (k : Nat)) := by rw [e1]; simp [rngD]
    subst e3
    obtain ⟨ρ1, e4, h1⟩ := step k ρ u hkn hi
    refine ⟨ρ1, e4, h1.mono fun f u' z => ?_⟩
    cases f with
    | nx ρ2 => exact ⟨k + 1, hkn, e2, z⟩
    | ct ρ2 => exact ⟨k + 1, hkn, e2, z⟩
    | _ => exact z
  · rintro ρ u ⟨k, hk, e, hi⟩
    have hkn : k = n := by
      have := congrArg List.length e
      simp [rngD_len] at this
      omega
    subst hkn
    exact stop ρ u hi
theorem toPDs_ints (ns : List Int) : toPDs (ns.map D.int) = some (ns.map PyData.int) := by
  induction ns with
  | nil => rfl
  | cons n ns ih =>
    show (match toPD (.int n), toPDs (ns.map D.int) with
      | some a, some b => some (a :: b)
      | _, _ => none) = _
    rw [ih]; rfl
theorem lay_ints (ns : List Int) : PyData.canLayAll0 (ns.map PyData.int) = true := by
  induction ns with
  | nil => rfl
  | cons n ns ih => show (true && _) = true; rw [ih]; rfl
theorem depth_ints (ns : List Int) : PyData.depthAll (ns.map PyData.int) = 0 := by
  induction ns with
  | nil => rfl
  | cons n ns ih => show max 0 (PyData.depthAll (ns.map PyData.int)) = 0; rw [ih]; rfl
theorem eqv_ints : ∀ (xs ys : List Int), PyData.eqvAll (xs.map PyData.int) (ys.map PyData.int) = decide (xs = ys)
  | [], [] => rfl
  | [], _ :: _ => rfl
  | _ :: _, [] => rfl
  | x :: xs, y :: ys => by
    show ((x == y) && PyData.eqvAll (xs.map PyData.int) (ys.map PyData.int)) = _
    rw [eqv_ints xs ys]
    by_cases h : x = y <;> by_cases h2 : xs = ys <;> simp [h, h2]
theorem eq_tups (xs ys : List Int) : eqD (.tup (xs.map D.int)) (.tup (ys.map D.int)) = some (decide (xs = ys)) := by
  have e : ∀ zs : List Int, toPD (.tup (zs.map D.int)) = some (.tuple (zs.map PyData.int)) := fun zs => by
    show (toPDs (zs.map D.int)).map PyData.tuple = _
    rw [toPDs_ints]; rfl
  have sh : ∀ zs : List Int, SeqAt.shaped (.tuple (zs.map PyData.int)) = true := fun zs => by
    show (PyData.canLayAll0 (zs.map PyData.int) && decide (PyData.depthAll (zs.map PyData.int) + 1 ≤ 64)) = true
    rw [lay_ints, depth_ints]; rfl
  unfold eqD
  rw [e, e]
  show (if _ then some (PyData.eqvAll (xs.map PyData.int) (ys.map PyData.int)) else none) = _
  rw [if_pos ⟨sh xs, sh ys⟩, eqv_ints]
theorem eq_lsts (xs ys : List Int) : eqD (.lst (xs.map D.int)) (.lst (ys.map D.int)) = some (decide (xs = ys)) := by
  have e : ∀ zs : List Int, toPD (.lst (zs.map D.int)) = some (.list (zs.map PyData.int)) := fun zs => by
    show (toPDs (zs.map D.int)).map PyData.list = _
    rw [toPDs_ints]; rfl
  have sh : ∀ zs : List Int, SeqAt.shaped (.list (zs.map PyData.int)) = true := fun zs => by
    show (PyData.canLayAll0 (zs.map PyData.int) && decide (PyData.depthAll (zs.map PyData.int) + 1 ≤ 64)) = true
    rw [lay_ints, depth_ints]; rfl
  unfold eqD
  rw [e, e]
  show (if _ then some (PyData.eqvAll (xs.map PyData.int) (ys.map PyData.int)) else none) = _
  rw [if_pos ⟨sh xs, sh ys⟩, eqv_ints]
@[simp] theorem s_eqT {xs ys : List Int} : eqMD (.tup (xs.map D.int)) (.tup (ys.map D.int)) = some (.bl (decide (xs = ys))) := by unfold eqMD; rw [eq_tups]; rfl
@[simp] theorem s_neT {xs ys : List Int} : neMD (.tup (xs.map D.int)) (.tup (ys.map D.int)) = some (.bl (!decide (xs = ys))) := by unfold neMD; rw [eq_tups]; rfl
@[simp] theorem s_eqL {xs ys : List Int} : eqMD (.lst (xs.map D.int)) (.lst (ys.map D.int)) = some (.bl (decide (xs = ys))) := by unfold eqMD; rw [eq_lsts]; rfl
@[simp] theorem s_neL {xs ys : List Int} : neMD (.lst (xs.map D.int)) (.lst (ys.map D.int)) = some (.bl (!decide (xs = ys))) := by unfold neMD; rw [eq_lsts]; rfl
@[simp] theorem s_eqL0 {xs : List Int} : eqMD (.lst (xs.map D.int)) (.lst []) = some (.bl (decide (xs = []))) := s_eqL (ys := [])
@[simp] theorem s_neL0 {xs : List Int} : neMD (.lst (xs.map D.int)) (.lst []) = some (.bl (!decide (xs = []))) := s_neL (ys := [])
@[simp] theorem s_eqI : eqMD (.int a) (.int b) = some (.bl (decide (a = b))) := by
  have : eqD (.int a) (.int b) = some (decide (a = b)) := by
    show (if SeqAt.shaped (.int a) = true ∧ SeqAt.shaped (.int b) = true then some (a == b) else none) = _
    rw [if_pos ⟨rfl, rfl⟩]; rfl
  unfold eqMD; rw [this]; rfl
@[simp] theorem s_neI : neMD (.int a) (.int b) = some (.bl (!decide (a = b))) := by
  have : eqD (.int a) (.int b) = some (decide (a = b)) := by
    show (if SeqAt.shaped (.int a) = true ∧ SeqAt.shaped (.int b) = true then some (a == b) else none) = _
    rw [if_pos ⟨rfl, rfl⟩]; rfl
  unfold neMD; rw [this]; rfl
theorem cut_from {xs : List D} {k : Nat} : cutD xs (some (k : Int)) none = xs.drop k := by
  unfold cutD
  rw [HT.sIx_nat, HT.sIx_none]
  rcases Nat.le_total k xs.length with h | h
  · rw [Nat.min_eq_left h]
    exact List.take_of_length_le (by simp)
  · rw [Nat.min_eq_right h, List.drop_eq_nil_of_le (Nat.le_refl _), List.drop_eq_nil_of_le h]
    simp
theorem cut_to {xs : List D} {k : Nat} : cutD xs none (some (k : Int)) = xs.take k := by
  unfold cutD
  rw [HT.sIx_nat, HT.sIx_none]
  simp
@[simp] theorem s_enumT : enumA [.tup xs] = some (enumD xs) := rfl
@[simp] theorem s_enumL : enumA [.lst xs] = some (enumD xs) := rfl
@[simp] theorem s_min2 : minD [.int a, .int b] = some (.int (if b < a then b else a)) := rfl
@[simp] theorem s_addL (h : xs.length + ys.length ≤ 100000) : addD (.lst xs) (.lst ys) = some (.lst (xs ++ ys)) := if_pos h
@[simp] theorem s_Gt {n : Nat} {gs : List D → Env → Option Env} {ρ : Env} : mGt n gs (.tup xs) ρ = if xs.length = n then gs xs ρ else none := rfl
@[simp] theorem s_Gc {g : MG} {gs : List D → Env → Option Env} {ρ : Env} : mGcons g gs (x :: xs) ρ = (g x ρ).bind fun ρ' => gs xs ρ' := rfl
@[simp] theorem s_Gnil {ρ : Env} : mGnil [] ρ = some ρ := rfl
@[simp] theorem s_fld {k : Str} {ks : List Str} {n : Nat} : fldD k ks n (.obj k ks xs) = xs[n]? := if_pos ⟨rfl, rfl⟩
@[simp] theorem s_scrLen {ns : List Int} : lenD [.scr ns] = some (.int ns.length) := rfl
@[simp] theorem s_scrIx {ns : List Int} : ixD (.scr ns) (.int i) = (atI ns i).map .int := rfl
@[simp] theorem s_scrSl {ns : List Int} {lo hi : Option Int} : slD (.scr ns) lo hi = some (.lst (cutD (ns.map .int) lo hi)) := rfl
theorem enumD_ints {ns : List Int} {k : Nat} {d : D} (h : (enumD (ns.map D.int))[k]? = some d) : ∃ x, ns[k]? = some x ∧ d = .tup [.int (k : Nat), .int x] := by
  obtain ⟨x, e, rfl⟩ := enumD_at h
  rw [List.getElem?_map] at e
  cases e2 : ns[k]? with
  | none => rw [e2] at e; cases e
  | some y => rw [e2] at e; cases e; exact ⟨y, rfl, rfl⟩
@[simp] theorem s_vSh {ρ : Env} {n : Nat} : vSh ρ n = match ρ[n]? with
  | some (.sh d) => some d
  | _ => none := rfl
@[simp] theorem s_vOw {ρ : Env} {n : Nat} : vOw ρ n = match ρ[n]? with
  | some (.ow d) => some d
  | _ => none := rfl
@[simp] theorem s_start {n : Nat} {ds : List D} : startE n ds = ds.map Sd.sh ++ List.replicate (n - ds.length) Sd.un := rfl
@[simp] theorem s_Gn {n : Nat} {d : D} {ρ : Env} : mGn n d ρ = some (ρ.set n (.sh d)) := rfl
@[simp] theorem s_int1 : int1D [.int a] = some (.int a) := rfl
@[simp] theorem s_lenL : lenD [.lst xs] = some (.int xs.length) := rfl
@[simp] theorem s_lenT : lenD [.tup xs] = some (.int xs.length) := rfl
@[simp] theorem s_tupL : tupD [.lst xs] = some (.tup xs) := rfl
@[simp] theorem s_getP {l : List Int} {P : D → PuS → Prop} : Ok (getP .pur (.int j)) (.real l) P ↔ ∃ n, atI l j = some n ∧ P (.int n) (.real l) := by
  cases e : atI l j with
  | none =>
    constructor
    · rintro ⟨d, u', e2, p⟩
      have e3 : (atI l j).map (fun n => (D.int n, PuS.real l)) = some (d, u') := e2
      rw [e] at e3; cases e3
    · rintro ⟨n, e2, _⟩; cases e2
  | some n =>
    have e3 : getP .pur (.int j) (.real l) = some (.int n, .real l) := by
      show (atI l j).map (fun n => (D.int n, PuS.real l)) = _
      rw [e]; rfl
    rw [ok_of e3]; simp
@[simp] theorem s_putP {l : List Int} {P : Unit → PuS → Prop} : Ok (putP .pur (.int j) (.int a)) (.real l) P ↔ ∃ n, ixN l.length j = some n ∧ P () (.real (l.set n a)) := by
  cases e : ixN l.length j with
  | none =>
    constructor
    · rintro ⟨d, u', e2, p⟩
      have e3 : (ixN l.length j).map (fun n => ((), PuS.real (l.set n a))) = some (d, u') := e2
      rw [e] at e3; cases e3
    · rintro ⟨n, e2, _⟩; cases e2
  | some n =>
    have e3 : putP .pur (.int j) (.int a) (.real l) = some ((), .real (l.set n a)) := by
      show (ixN l.length j).map (fun n => ((), PuS.real (l.set n a))) = _
      rw [e]; rfl
    rw [ok_of e3]; simp
@[simp] theorem ok_dmP {ρ : Env} {u : PuS} {mi m : ME} {n k : Nat} {PS : Fl → PuS → Prop} : Ok (mDmP n mi k m ρ) u PS ↔ Ok (m ρ) u fun v u1 => ∃ a b, v = .tup [.int a, .int b] ∧ Ok (mi ρ) u1 fun kk u2 => ∃ d, vSh ρ n = some d ∧ Ok (putP d kk (.int a)) u2 fun _ u3 => PS (.nx (ρ.set k (.sh (.int b)))) u3 := by
  unfold mDmP; simp only [ok_bind]
  constructor
  · refine fun h => h.mono fun f u' z => ?_
    split at z
    · exact ⟨_, _, rfl, by simpa only [ok_bind, ok_lft, ok_pure] using z⟩
    · exact (ok_none.mp z).elim
  · refine fun h => h.mono fun f u' z => ?_
    obtain ⟨a, b, rfl, z⟩ := z
    simpa only [ok_bind, ok_lft, ok_pure] using z
end
end Mi

set_option Elab.async false
set_option linter.all false
set_option maxRecDepth 100000
set_option maxHeartbeats 4000000
/-! MiG: chained comparisons, += on names, fresh concatenations, range with a step, f-strings. -/
namespace Mi
open PySem PySem.Spec PyProof.Rows L2
variable [TB : Tabl]
/-! ### chained comparisons -/
def mChain (f g : D → D → Option D) (ma mb mc : ME) : ME := fun ρ => M.bind (ma ρ) fun x => M.bind (mb ρ) fun y => M.bind (lft (f x y)) fun z => match z with
  | .bl b => if b = true then M.bind (mc ρ) fun w => lft (g y w) else M.pure (.bl false)
  | _ => lft none
section
variable {X : Cx} {c : Cf} {pos : Pos} {a b d : Expr} {ma mb mc : ME} {r r' : R2} {f g : D → D → Option D}
theorem rdChain (hf : OpM c.W r f) (hg : OpM c.W r' g) : ∀ σ H Q, rdE c (mChain f g ma mb mc) σ H Q → tChain r r' (rdE c ma) (rdE c mb) (rdE c mc) σ H Q := fun σ H Q ⟨F, u, ρ, S, h⟩ =>
  ⟨F, u, ρ, S, (After.split h).imp fun x u1 F1 H1 _ s1 g1 h1 v rv => ⟨F1, u1, ρ, S.step s1 g1, (After.split h1).imp fun y u2 F2 H2 _ s2 g2 h2 w rw =>
    hf c.p F2 H2 u2 v w x y _ g2 (rv.mono s2.ef) rw ((After.split h2).imp fun z u3 F3 H3 _ s3 g3 h3 vz rz => by
      cases z with
      | bl k =>
        refine ⟨k, rz.bl_, ?_⟩
        cases k with
        | true => exact ⟨F3, u3, ρ, ((S.step s1 g1).step s2 g2).step s3 g3, (After.split h3).imp fun w' u4 F4 H4 _ s4 g4 h4 v' rv' => hg c.p F4 H4 u4 w v' y w' Q g4 ((rw.mono s3.ef).mono s4.ef) rv' h4⟩
        | false =>
          have h4 : After c.p F3 H3 (some (D.bl false, u3)) (fun d _ F' H' => ∀ v, Rep c.W c.p F' v d → Q v H') := h3
          exact After.now g3 h4 _ (.bl false)
      | _ => exact False.elim h3)⟩⟩
theorem dChain {op op' : CmpOp} (ho : OpR X (compareOp op) r) (hf : OpM c.W r f) (ho' : OpR X (compareOp op') r') (hg : OpM c.W r' g) (ha : DE X c a ma) (hb : DE X c b mb) (hd : DE X c d mc) (hm : lastMarks [op, op'] [b, d] = false := by with_unfolding_all rfl) :
    DE X c (.Compare a [op, op'] [b, d] pos) (mChain f g ma mb mc) := (pe_chain ho ho' ha hb hd hm).imp (rdChain hf hg)
theorem dTchain {op op' : CmpOp} (ho : OpR X (compareOp op) r) (hf : OpM c.W r f) (ho' : OpR X (compareOp op') r') (hg : OpM c.W r' g) (ha : DE X c a ma) (hb : DE X c b mb) (hd : DE X c d mc) (hm : lastMarks [op, op'] [b, d] = false := by with_unfolding_all rfl) :
    DT X c (.Compare a [op, op'] [b, d] pos) (mB (mChain f g ma mb mc)) :=
  (pt_chain ho ho' ha hb hd hm).imp fun σ H Q h => by
    obtain ⟨F, u, ρ, S, h⟩ := h
    refine rdChain hf hg σ H _ ⟨F, u, ρ, S, (After.split h).imp fun d u1 F1 H1 _ s1 g1 h1 w rw => ?_⟩
    cases d with
    | bl k =>
      have h2 : After c.p F1 H1 (some (k, u1)) (fun b _ _ H' => Q b H') := h1
      exact ⟨k, rw.bl_, After.now g1 h2⟩
    | _ => exact False.elim h1
end
@[simp] theorem ok_chain {ρ : Env} {u : PuS} {P : D → PuS → Prop} {ma mb mc : ME} {f g : D → D → Option D} : Ok (mChain f g ma mb mc ρ) u P ↔ Ok (ma ρ) u fun x u1 => Ok (mb ρ) u1 fun y u2 => ∃ z0, f x y = some z0 ∧ OnB z0 fun b => Br b (Ok (mc ρ) u2 fun w u3 => ∃ z, g y w = some z ∧ P z u3) (P (.bl false) u2) := by
  unfold mChain; simp only [ok_bind, ok_lft]
  constructor
  · refine fun h => h.mono fun x u1 z => z.mono fun y u2 z => ?_
    obtain ⟨d, e, p⟩ := z
    cases d with
    | bl b => exact ⟨_, e, b, rfl, by cases b <;> simpa [ok_pure] using p⟩
    | _ => exact (ok_none.mp p).elim
  · refine fun h => h.mono fun x u1 z => z.mono fun y u2 z => ?_
    obtain ⟨_, e, b, rfl, p⟩ := z
    exact ⟨.bl b, e, by cases b <;> simpa [ok_pure] using p⟩
/-! ### += on a name -/
theorem m_ip {W : Wo} {f : Int → Int → Int} : IpM W (ipI f) (int2 fun i j => some (.int (f i j))) := by
  intro p F H u x y a b Q gd rx ry h
  obtain ⟨d, e, _⟩ := lft_some h
  obtain ⟨i, j, rfl, rfl, e2⟩ := int2_some e
  exact ⟨i, j, rx.int_, ry.int_, OpM.ret gd h rfl (.int _)⟩
def addI : D → D → Option D := int2 fun i j => some (.int (i + j))
theorem m_addI {W : Wo} : IpM W (ipI fun i j => i + j) addI := m_ip
@[simp] theorem s_addI {a b : Int} : addI (.int a) (.int b) = some (.int (a + b)) := rfl
@[simp] theorem ok_aug {ρ : Env} {u : PuS} {i : Nat} {f : D → D → Option D} {m : ME} {P : Fl → PuS → Prop} : Ok (mAug i f m ρ) u P ↔ ∃ x, vSh ρ i = some x ∧ Ok (m ρ) u fun y u1 => ∃ z, f x y = some z ∧ P (.nx (ρ.set i (.sh z))) u1 := by
  unfold mAug; simp only [ok_bind, ok_lft, ok_pure]
/-! ### fresh lists by + -/
/-! ### while -/
theorem ok_while {t : MT} {mb : MS} {P : Fl → PuS → Prop} (Inv : Nat → Env → PuS → Prop)
    (step : ∀ n ρ u, Inv n ρ u → Ok (t ρ) u fun b u1 => Br b (∃ m, n = m + 1 ∧ Ok (mb ρ) u1 fun f u' => match f with
      | .nx ρ2 => Inv m ρ2 u'
      | .ct ρ2 => Inv m ρ2 u'
      | .bk ρ2 => P (.nx ρ2) u'
      | .rt d => P (.rt d) u'
      | .rl d => P (.rl d) u'
      | .ex ρ2 k ks ds => P (.ex ρ2 k ks ds) u') (P (.nx ρ) u1)) : ∀ (n k : Nat) (ρ : Env) (u : PuS), n < k → Inv n ρ u → Ok (loopW t mb k ρ) u P
  | n, 0, ρ, u, hk, h => by omega
  | n, k + 1, ρ, u, hk, h => by
    unfold loopW
    rw [ok_bind]
    refine (step n ρ u h).mono fun b u1 z => ?_
    cases b with
    | false => simpa [ok_pure] using z
    | true =>
      simp only [if_true, br_t] at z ⊢
      obtain ⟨m, rfl, z⟩ := z
      rw [ok_bind]
      refine z.mono fun f u' z => ?_
      cases f with
      | nx ρ2 => exact ok_while Inv step m k ρ2 u' (by omega) z
      | ct ρ2 => exact ok_while Inv step m k ρ2 u' (by omega) z
      | bk ρ2 => exact ok_pure.mpr z
      | rt d => exact ok_pure.mpr z
      | rl d => exact ok_pure.mpr z
      | ex ρ2 k ks ds => exact ok_pure.mpr z
@[simp] theorem ok_mWhile {n : Nat} {t : MT} {mb : MS} {ρ : Env} {u : PuS} {P : Fl → PuS → Prop} : Ok (mWhile n t mb ρ) u P ↔ Ok (loopW t mb n ρ) u P := Iff.rfl
end Mi

set_option Elab.async false
set_option linter.all false
set_option maxRecDepth 100000
set_option maxHeartbeats 4000000
/-! MiQ: == and != of data that stand for plain things. -/
namespace Mi
open PySem L2
variable [TB : Tabl]
/-- one statement, with what holds behind it -/
theorem seq_cut {m n : MS} {ρ : Env} {u : PuS} {P : Fl → PuS → Prop} (Q : Env → PuS → Prop) (h1 : Ok (m ρ) u fun f u1 => match f with
    | .nx ρ1 => Q ρ1 u1
    | f' => P f' u1) (h2 : ∀ ρ1 u1, Q ρ1 u1 → Ok (n ρ1) u1 P) : Ok (mSeq m n ρ) u P := ok_seq.mpr (h1.mono fun f u1 z => by
  cases f with
  | nx ρ1 => exact h2 _ _ z
  | _ => exact z)
structure EqT {α : Type} [DecidableEq α] (f : α → D) (g : α → PyData) (k : Nat) : Prop where
  to : ∀ x, toPD (f x) = some (g x)
  lay : ∀ x, PyData.canLay0 (g x) = true
  dep : ∀ x, PyData.depth (g x) ≤ k
  eqv : ∀ x y, PyData.eqv (g x) (g y) = decide (x = y)
section
variable {α β : Type} [DecidableEq α] [DecidableEq β] {f : α → D} {g : α → PyData} {k : Nat}
theorem EqT.shaped (h : EqT f g k) (hk : k ≤ 64) (x : α) : SeqAt.shaped (g x) = true := by
  unfold SeqAt.shaped
  rw [h.lay x, decide_eq_true (Nat.le_trans (h.dep x) hk)]; rfl
theorem EqT.eqD (h : EqT f g k) (hk : k ≤ 64) (x y : α) : Mi.eqD (f x) (f y) = some (decide (x = y)) := by
  unfold Mi.eqD
  rw [h.to, h.to]
  show (if SeqAt.shaped (g x) = true ∧ SeqAt.shaped (g y) = true then some (PyData.eqv (g x) (g y)) else none) = _
  rw [if_pos ⟨h.shaped hk x, h.shaped hk y⟩, h.eqv]
theorem EqT.eq (h : EqT f g k) (hk : k ≤ 64) (x y : α) : eqMD (f x) (f y) = some (.bl (decide (x = y))) := by unfold eqMD; rw [h.eqD hk]; rfl
theorem EqT.ne (h : EqT f g k) (hk : k ≤ 64) (x y : α) : neMD (f x) (f y) = some (.bl (!decide (x = y))) := by unfold neMD; rw [h.eqD hk]; rfl
theorem EqT.int : EqT D.int PyData.int 0 := ⟨fun _ => rfl, fun _ => rfl, fun _ => Nat.le_refl 0, fun x y => by
  show (x == y) = _
  by_cases h : x = y <;> simp [h]⟩
theorem EqT.bl : EqT D.bl PyData.bool 0 := ⟨fun _ => rfl, fun _ => rfl, fun _ => Nat.le_refl 0, fun x y => by
  show (x == y) = _
  by_cases h : x = y <;> simp [h]⟩
theorem EqT.toPDs (h : EqT f g k) : ∀ xs : List α, Mi.toPDs (xs.map f) = some (xs.map g)
  | [] => rfl
  | x :: xs => by
    show (match toPD (f x), Mi.toPDs (xs.map f) with
      | some a, some b => some (a :: b)
      | _, _ => none) = _
    rw [h.toPDs xs, h.to]; rfl
theorem EqT.lays (h : EqT f g k) : ∀ xs : List α, PyData.canLayAll0 (xs.map g) = true
  | [] => rfl
  | x :: xs => by show (PyData.canLay0 (g x) && _) = true; rw [h.lays xs, h.lay]; rfl
theorem EqT.deps (h : EqT f g k) : ∀ xs : List α, PyData.depthAll (xs.map g) ≤ k
  | [] => Nat.zero_le _
  | x :: xs => Nat.max_le.mpr ⟨h.dep x, h.deps xs⟩
theorem EqT.eqvs (h : EqT f g k) : ∀ xs ys : List α, PyData.eqvAll (xs.map g) (ys.map g) = decide (xs = ys)
  | [], [] => rfl
  | [], _ :: _ => rfl
  | _ :: _, [] => rfl
  | x :: xs, y :: ys => by
    show (PyData.eqv (g x) (g y) && PyData.eqvAll (xs.map g) (ys.map g)) = _
    rw [h.eqvs xs ys, h.eqv]
    by_cases h1 : x = y <;> by_cases h2 : xs = ys <;> simp [h1, h2]
theorem EqT.lst (h : EqT f g k) : EqT (fun xs : List α => .lst (xs.map f)) (fun xs => .list (xs.map g)) (k + 1) :=
  ⟨fun xs => by show (Mi.toPDs (xs.map f)).map PyData.list = _; rw [h.toPDs]; rfl, fun xs => h.lays xs, fun xs => Nat.succ_le_succ (h.deps xs), fun xs ys => h.eqvs xs ys⟩
theorem EqT.tup (h : EqT f g k) : EqT (fun xs : List α => .tup (xs.map f)) (fun xs => .tuple (xs.map g)) (k + 1) :=
  ⟨fun xs => by show (Mi.toPDs (xs.map f)).map PyData.tuple = _; rw [h.toPDs]; rfl, fun xs => h.lays xs, fun xs => Nat.succ_le_succ (h.deps xs), fun xs ys => h.eqvs xs ys⟩
/-- pairs -/
theorem EqT.pair {f' : β → D} {g' : β → PyData} {k' : Nat} (h : EqT f g k) (h' : EqT f' g' k') : EqT (fun q : α × β => .tup [f q.1, f' q.2]) (fun q => .tuple [g q.1, g' q.2]) (max k k' + 1) :=
  ⟨fun q => by
    show (match toPD (f q.1), (match toPD (f' q.2), Mi.toPDs [] with
      | some a, some b => some (a :: b)
      | _, _ => none) with
      | some a, some b => some (a :: b)
      | _, _ => none).map PyData.tuple = _
    rw [h.to, h'.to]; rfl,
   fun q => by show (PyData.canLay0 (g q.1) && (PyData.canLay0 (g' q.2) && true)) = true; rw [h.lay, h'.lay]; rfl,
   fun q => by
    show max (PyData.depth (g q.1)) (max (PyData.depth (g' q.2)) 0) + 1 ≤ _
    have := h.dep q.1
    have := h'.dep q.2
    omega,
   fun q r => by
    show (PyData.eqv (g q.1) (g r.1) && (PyData.eqv (g' q.2) (g' r.2) && true)) = _
    rw [h.eqv, h'.eqv]
    obtain ⟨a, b⟩ := q
    obtain ⟨c, d⟩ := r
    by_cases h1 : a = c <;> by_cases h2 : b = d <;> simp [h1, h2]⟩
/-- a thing or None -/
def opD (f : α → D) : Option α → D
  | some x => f x
  | none => .non
def opP (g : α → PyData) : Option α → PyData
  | some x => g x
  | none => .none
theorem eqv_none_l {p : PyData} (h : p ≠ .none) : PyData.eqv .none p = false := by
  cases p <;> first | exact absurd rfl h | rfl
theorem eqv_none_r {p : PyData} (h : p ≠ .none) : PyData.eqv p .none = false := by
  cases p <;> first | exact absurd rfl h | rfl
theorem EqT.opt (h : EqT f g k) (hn : ∀ x, g x ≠ .none) : EqT (opD f) (opP g) k :=
  ⟨fun x => by cases x with
    | none => rfl
    | some x => exact h.to x,
   fun x => by cases x with
    | none => rfl
    | some x => exact h.lay x,
   fun x => by cases x with
    | none => exact Nat.zero_le _
    | some x => exact h.dep x,
   fun x y => by
    cases x with
    | none =>
      cases y with
      | none => rfl
      | some y => show PyData.eqv .none (g y) = _; rw [eqv_none_l (hn y)]; simp
    | some x =>
      cases y with
      | none => show PyData.eqv (g x) .none = _; rw [eqv_none_r (hn x)]; simp
      | some y => show PyData.eqv (g x) (g y) = _; rw [h.eqv]; by_cases e : x = y <;> simp [e]⟩
/-- rows of ints or None -/
theorem EqT.row : EqT (opD fun xs : List Int => .tup (xs.map D.int)) (opP fun xs => .tuple (xs.map PyData.int)) 1 := EqT.opt (EqT.tup EqT.int) fun x h => by cases h
end
end Mi




set_option Elab.async false
set_option linter.all false
set_option maxRecDepth 100000
set_option maxHeartbeats 4000000
namespace Mi
open PySem L2
variable [TB : Tabl]
/-- one statement; what follows and what is wanted are hidden -/
theorem seq_go {m n : MS} {ρ : Env} {u : PuS} {P : Fl → PuS → Prop} (h : ∀ (K : Env → PuS → Prop) (R : Fl → PuS → Prop), (∀ ρ1 u1, Ok (n ρ1) u1 P → K ρ1 u1) → (∀ f u1, P f u1 → R f u1) → Ok (m ρ) u fun f u1 => match f with
    | .nx ρ1 => K ρ1 u1
    | f' => R f' u1) : Ok (mSeq m n ρ) u P := ok_seq.mpr ((h (fun ρ1 u1 => Ok (n ρ1) u1 P) P (fun _ _ => id) (fun _ _ => id)).mono fun f u1 z => by
  cases f with
  | nx ρ1 => exact z
  | _ => exact z)
/-- a statement; what is wanted is hidden -/
theorem st_go {m : MS} {ρ : Env} {u : PuS} {P : Fl → PuS → Prop} (h : ∀ (R : Fl → PuS → Prop), (∀ f u1, P f u1 → R f u1) → Ok (m ρ) u R) : Ok (m ρ) u P := h P fun _ _ => id
end Mi

set_option Elab.async false
set_option linter.all false
set_option maxRecDepth 100000
set_option maxHeartbeats 4000000
/-! MiV: a, b, c, d = .., fresh lists among them. -/
namespace Mi
open PySem PySem.Spec PyProof.Rows L2
variable [TB : Tabl]
section
variable {X : Cx} {c : Cf} {pos : Pos} {ms : MM}
end
@[simp] theorem s_setAll4 {k l m n : Nat} {s t r q : Sd} {ρ : Env} : setAll [k, l, m, n] [s, t, r, q] ρ = (((ρ.set k s).set l t).set m r).set n q := rfl
@[simp] theorem s_setAll5 {k l m n o : Nat} {s t r q p : Sd} {ρ : Env} : setAll [k, l, m, n, o] [s, t, r, q, p] ρ = ((((ρ.set k s).set l t).set m r).set n q).set o p := rfl
end Mi


set_option Elab.async false
set_option linter.all false
set_option maxRecDepth 100000
set_option maxHeartbeats 4000000
/-! MiY: == of equal tuples that hold objects with an own ==. -/
namespace Mi
open PySem PySem.Spec PyProof.Rows L2
variable [TB : Tabl]
theorem Gd.ext {p : Addr} {u : PuS} {F H H' : Hp} (g : Gd p u F H) (e : L2.Ext H H') : Gd p u F H' := ⟨fun a o h => e a o (g.ex a o h), e _ _ g.pu, g.off, g.nt, g.tb.ext e, g.hp⟩
section
variable {X : Cx} {W : Wo} {k : Nat} {f C : Addr} {fd : FuncData} {ps : List Str} {mf : List D → M D} {b : D → Bool}
end
end Mi



set_option Elab.async false
set_option linter.all false
set_option maxRecDepth 100000
set_option maxHeartbeats 4000000
/-! MiO: in, [..] and the binary operators by own methods. -/
namespace Mi
open PySem PySem.Spec PyProof.Rows L2 He
variable [TB : Tabl]
/-! ### in -/
/-- the right operand is an instance of the class at C, then its own in -/
def rIn (C : Addr) (g : Bool → Bool) (sp : Sp) : R2 := fun x y H Q => ∃ b dy gs, y = .ref b ∧ H b = some (.ins C dy gs) ∧ sp [.ref b, x] H (fun v H' => ∃ c, v = .bl c ∧ Q (.bl (g c)) H') E0
section
variable {X : Cx} {k : Nat} {f C : Addr} {fd : FuncData} {ps : List Str} {sp : Sp}
end
/-! ### mirrors -/
section
variable {X : Cx} {c : Cf} {k : Nat} {f : Addr} {fd : FuncData} {ps : List Str} {mf : List D → M D} {ck : Str} {a b : Expr} {ma mb : ME} {pos : Pos}
end
/-! ### wp -/
section
variable {ρ : Env} {u : PuS} {P : D → PuS → Prop} {k : Str} {mf : List D → M D} {ma mb : ME}
end
end Mi


set_option Elab.async false
set_option linter.all false
set_option maxRecDepth 100000
set_option maxHeartbeats 4000000
/-! MiL: in of a list of data. -/
namespace Mi
open PySem PySem.Spec PyProof.Rows L2
variable [TB : Tabl]
theorem room65 {k : Nat} {A : Around} (r : Room k A) : A.units + 65 < cLine := by have := r.un; omega
def inLD : D → D → Option D := fun x y => match toPD x, toPD y with
  | some a, some (.list ds) => if SeqAt.shaped a = true ∧ SeqAt.shaped (.list ds) = true then some (.bl (ds.any fun z => PyData.eqv z a)) else none
  | _, _ => none
theorem toPDs_map {α : Type} {f : α → D} {g : α → PyData} (h : ∀ x, toPD (f x) = some (g x)) : ∀ xs : List α, toPDs (xs.map f) = some (xs.map g)
  | [] => rfl
  | x :: xs => by
    rw [List.map_cons]
    unfold toPDs
    rw [h, toPDs_map h xs]
    rfl
theorem EqT.inL {α : Type} [DecidableEq α] {f : α → D} {g : α → PyData} {k : Nat} (h : EqT f g k) (hk : k + 1 ≤ 64) (x : α) (xs : List α) : inLD (f x) (.lst (xs.map f)) = some (.bl (decide (x ∈ xs))) := by
  unfold inLD
  have h1 : toPD (.lst (xs.map f)) = some (.list (xs.map g)) := h.lst.to xs
  rw [h.to, h1]
  show (if SeqAt.shaped (g x) = true ∧ SeqAt.shaped (.list (xs.map g)) = true then some (D.bl ((xs.map g).any fun z => PyData.eqv z (g x))) else none) = _
  rw [if_pos ⟨h.shaped (by omega) x, h.lst.shaped hk xs⟩]
  congr 2
  rw [List.any_map, Bool.eq_iff_iff, List.any_eq_true, decide_eq_true_iff]
  constructor
  · rintro ⟨y, hy, e⟩
    have : PyData.eqv (g y) (g x) = true := e
    rw [h.eqv, decide_eq_true_iff] at this
    rw [← this]
    exact hy
  · intro hx
    refine ⟨x, hx, ?_⟩
    show PyData.eqv (g x) (g x) = true
    rw [h.eqv]
    simp
end Mi

set_option Elab.async false
set_option linter.all false
set_option maxRecDepth 100000
set_option maxHeartbeats 4000000
/-! MiIx: xs.index(x) of a list of data. -/
namespace Mi
open PySem PySem.Spec PyProof.Rows L2
variable [TB : Tabl]
def ninLD : D → D → Option D := fun x y => match toPD x, toPD y with
  | some a, some (.list ds) => if SeqAt.shaped a = true ∧ SeqAt.shaped (.list ds) = true then some (.bl (!ds.any fun z => PyData.eqv z a)) else none
  | _, _ => none
theorem m_ninL {W : Wo} : OpM W (rNotInD W.K) ninLD := by
  intro p F H u x y a b Q gd rx ry h
  obtain ⟨d, e, _⟩ := lft_some h
  have e0 := e
  unfold ninLD at e
  split at e
  · rename_i pa ds e1 e2
    split at e
    · rename_i hs
      cases e
      exact ⟨pa, ds, dp_of gd.ex a x pa rx e1, dp_of gd.ex b y _ ry e2, hs.1, hs.2, OpM.ret gd h e0 (.bl _)⟩
    · cases e
  · cases e
theorem EqT.ninL {α : Type} [DecidableEq α] {f : α → D} {g : α → PyData} {k : Nat} (h : EqT f g k) (hk : k + 1 ≤ 64) (x : α) (xs : List α) : ninLD (f x) (.lst (xs.map f)) = some (.bl (!decide (x ∈ xs))) := by
  have e1 := h.to x
  have e2 : toPD (.lst (xs.map f)) = some (.list (xs.map g)) := h.lst.to xs
  have hs : SeqAt.shaped (g x) = true ∧ SeqAt.shaped (.list (xs.map g)) = true := ⟨h.shaped (by omega) x, h.lst.shaped hk xs⟩
  have h0 : inLD (f x) (.lst (xs.map f)) = some (.bl ((xs.map g).any fun z => PyData.eqv z (g x))) := by
    unfold inLD
    rw [e1, e2]
    exact if_pos hs
  have h1 : ninLD (f x) (.lst (xs.map f)) = some (.bl (!(xs.map g).any fun z => PyData.eqv z (g x))) := by
    unfold ninLD
    rw [e1, e2]
    exact if_pos hs
  rw [h.inL hk x xs] at h0
  rw [h1, ← D.bl.inj (Option.some.inj h0)]
def ixOf : D → D → Option D := fun x y => match x with
  | .lst ds => match toPDs ds, toPD y with
    | some ps, some p => if SeqAt.shaped (.list ps) = true ∧ SeqAt.shaped p = true then (ps.findIdx? fun z => PyData.eqv z p).map fun j => .int (j : Nat) else none
    | _, _ => none
  | _ => none
def mIxOf (mo m : ME) : ME := mBin ixOf mo m
section
variable {X : Cx} {c : Cf} {o e : Expr} {mo m : ME} {apos cpos : Pos}
theorem dIxOf (hu : X.A.units + 65 < cLine) (ho : DE X c o mo) (he : DE X c e m) (hK : X.K = c.W.K := by rfl)
    (hbase : attributeBase o "index" X.env (eval o X.env) = eval o X.env := by rfl)
    (hfew : ((backTo cpos (starEach [e] X.env)).all (fun x => !x.1) && (backToKw cpos (keywordEach [] X.env)).all (fun x => x.1.isSome) && decide (([e] : List Expr).length + ([] : List Keyword).length + (if ([] : List Keyword).isEmpty then 0 else 1) < 30)) = true := by rfl)
    (hline : (apos.endLine == cpos.line) = true := by rfl) (hs : starEach [e] X.env = (false, eval e X.env) :: starEach [] X.env := by rfl) (hplain : (backTo cpos (starEach [] X.env)).any (·.1) = false := by rfl) :
    DE X c (.Call (.Attribute o "index" apos) [e] [] cpos) (mIxOf mo m) :=
  (pe_bm PySem.F.plainAttrs_list PySem.F.slot_list_index PySem.F.type_list_index (mt_indexD hu) ho (pa_cons he pa_nil hs) hbase hfew hline hs hplain).imp fun σ H Q ⟨F, u, ρ, S, h⟩ => ⟨F, u, ρ, S, (After.split h).imp fun x u1 F1 H1 _ s1 g1 h1 v rv => by
    have h2 := After.split h1
    cases x with
    | lst ds =>
      obtain ⟨a, vs, rfl, ha, rs⟩ := rv.lst_
      refine ⟨.inl ⟨rfl, vs, by rw [hK]; exact SqL.of (g1.ex _ _ ha)⟩, F1, u1, ρ, S.step s1 g1, h2.imp fun y u2 F2 H2 _ s2 g2 h3 w rw => ?_⟩
      obtain ⟨z, e1, h4⟩ := lft_some h3
      simp only [ixOf] at e1
      split at e1
      · rename_i ps p e2 e3
        split at e1
        · rename_i hsh
          cases e4 : ps.findIdx? fun z => PyData.eqv z p with
          | none => rw [e4] at e1; cases e1
          | some j =>
            rw [e4] at e1
            cases e1
            obtain ⟨hj, hz, hno⟩ := List.findIdx?_eq_some_iff_getElem.mp e4
            have rv2 : Rep c.W c.p F2 (.ref a) (.lst ds) := rv.mono s2.ef
            refine ⟨a, w, p, ps, j, ps[j], rfl, rfl, by rw [hK]; exact dp_of g2.ex (.lst ds) _ _ rv2 (by unfold toPD; rw [e2]; rfl), by rw [hK]; exact dp_of g2.ex y w p rw e3, hsh.1, hsh.2, List.getElem?_eq_getElem hj, hz, fun n z' hn hz' => ?_, After.now g2 h4 _ (.int _)⟩
            have hnl : n < ps.length := Nat.lt_trans hn hj
            rw [List.getElem?_eq_getElem hnl] at hz'
            cases hz'
            have := hno n hn
            simpa using this
        · cases e1
      · cases e1
    | _ =>
      exfalso
      obtain ⟨y, hy⟩ : ∃ y, (m ρ u1) = y := ⟨_, rfl⟩
      revert h1
      unfold M.bind
      rw [hy]
      cases y with
      | none => exact fun z => z
      | some y => exact fun z => z⟩
end
section
variable {ρ : Env} {u : PuS} {P : D → PuS → Prop} {mo m : ME}
@[simp] theorem ok_ixOf : Ok (mIxOf mo m ρ) u P ↔ Ok (mBin ixOf mo m ρ) u P := Iff.rfl
end
/-- the first place of one that is there -/
theorem EqT.ixOf {α : Type} [DecidableEq α] {f : α → D} {g : α → PyData} {k : Nat} (h : EqT f g k) (hk : k + 1 ≤ 64) {x : α} {xs : List α} (hx : x ∈ xs) : ∃ j : Nat, Mi.ixOf (.lst (xs.map f)) (f x) = some (.int (j : Int)) ∧ xs[j]? = some x := by
  have e1 := toPDs_map h.to xs
  cases e4 : (xs.map g).findIdx? fun z => PyData.eqv z (g x) with
  | none =>
    have := List.findIdx?_eq_none_iff.mp e4 (g x) (List.mem_map.mpr ⟨x, hx, rfl⟩)
    rw [h.eqv] at this
    simp at this
  | some j =>
    refine ⟨j, ?_, ?_⟩
    · unfold Mi.ixOf
      simp only [e1, h.to]
      rw [if_pos ⟨h.lst.shaped hk xs, h.shaped (by omega) x⟩, e4]
      rfl
    · obtain ⟨hj, hz, _⟩ := List.findIdx?_eq_some_iff_getElem.mp e4
      rw [List.getElem_map, h.eqv] at hz
      have hj' : j < xs.length := by simpa using hj
      rw [List.getElem?_eq_getElem hj', of_decide_eq_true hz]
end Mi

set_option Elab.async false
set_option linter.all false
set_option maxRecDepth 100000
set_option maxHeartbeats 4000000
/-! MiDz: min and max of three numbers. -/
namespace Mi
open PySem PySem.Spec PyProof.Rows L2
variable [TB : Tabl]
theorem cr_min3 {X : Cx} (hc : X.calm = true) : CallR X (.builtin "min") (fun xs H Q => ∃ a b c : Int, xs = [.int a, .int b, .int c] ∧ Q (.int (min (min a b) c)) H) := by
  intro pins s σ H xs us Q I r h
  obtain ⟨a, b, c, rfl, q⟩ := h
  obtain ⟨u1, u2, u3, rfl, ⟨t1, rfl⟩, ⟨t2, rfl⟩, ⟨t3, rfl⟩⟩ := vals3 r
  refine min_three_ints (I.ok.hd hc) fun h' tk k => ⟨.int (min (min a b) c), H, I.kept k, ?_, q⟩
  by_cases h1 : b < a
  · rw [if_pos h1]
    by_cases h2 : c < b
    · rw [if_pos h2]; exact ⟨t3, by rw [show min (min a b) c = c by omega]⟩
    · rw [if_neg h2]; exact ⟨t2, by rw [show min (min a b) c = b by omega]⟩
  · rw [if_neg h1]
    by_cases h2 : c < a
    · rw [if_pos h2]; exact ⟨t3, by rw [show min (min a b) c = c by omega]⟩
    · rw [if_neg h2]; exact ⟨t1, by rw [show min (min a b) c = a by omega]⟩
def min3D : List D → Option D
  | [.int a, .int b, .int c] => some (.int (min (min a b) c))
  | _ => none
theorem m_min3 {W : Wo} : CallM W (fun xs H Q => ∃ a b c : Int, xs = [.int a, .int b, .int c] ∧ Q (.int (min (min a b) c)) H) min3D := by
  intro p F H u xs as Q gd r h
  obtain ⟨d, e, h2⟩ := lft_some h
  unfold min3D at e
  split at e
  · rename_i a b c
    cases e
    obtain ⟨v1, w1, rfl, r1, r⟩ := r.uncons
    obtain ⟨v2, w2, rfl, r2, r⟩ := r.uncons
    obtain ⟨v3, w3, rfl, r3, r⟩ := r.uncons
    rw [r1.int_, r2.int_, r3.int_, r.none]
    exact ⟨a, b, c, rfl, After.now gd h2 _ (.int _)⟩
  · cases e
@[simp] theorem s_min3 {a b c : Int} : min3D [.int a, .int b, .int c] = some (.int (min (min a b) c)) := rfl
end Mi

set_option Elab.async false
set_option linter.all false
set_option maxRecDepth 100000
set_option maxHeartbeats 4000000
/-! MiDx: dicts whose keys are nested tuples of numbers, under the abstract heap: {}, d[k] = v, k in d, list(d), d.keys(). -/
namespace Mi
open PySem PySem.Spec PyProof.Rows L2
variable [TB : Tabl]
/-- nested tuples of numbers on the abstract heap -/
inductive NkH (K : PySem.W.Frag) (H : Hp) : NestedKey → V → Prop
  | num (i : Int) : NkH K H (.num i) (.int i)
  | tup {a : Addr} {vs : List V} {ks : List NestedKey} (h : SqT K H a vs) (l : vs.length = ks.length) (r : ∀ (i : Nat) (v : V) (k : NestedKey), vs[i]? = some v → ks[i]? = some k → NkH K H k v) : NkH K H (.tup ks) (.ref a)
theorem keyNs_get : ∀ {ds : List D} {ks : List NestedKey}, keyNs ds = some ks → ds.length = ks.length ∧ ∀ (i : Nat) (d : D) (k : NestedKey), ds[i]? = some d → ks[i]? = some k → keyN d = some k
  | [], ks, h => by
    have : ks = [] := by unfold keyNs at h; exact (Option.some.inj h).symm
    subst this
    exact ⟨rfl, fun i d k e => by simp at e⟩
  | d :: r, ks, h => by
    unfold keyNs at h
    cases e1 : keyN d with
    | none => rw [e1] at h; simp at h
    | some k1 =>
      cases e2 : keyNs r with
      | none => rw [e1, e2] at h; simp at h
      | some k2 =>
        rw [e1, e2] at h
        have : ks = k1 :: k2 := (Option.some.inj h).symm
        subst this
        obtain ⟨l, g⟩ := keyNs_get e2
        refine ⟨by simp [l], fun i d' k a b => ?_⟩
        cases i with
        | zero => simp at a b; subst a; subst b; exact e1
        | succ i => simp at a b; exact g i d' k a b
theorem Rep.key {W : Wo} {p : Addr} {F : Hp} {v : V} {d : D} (h : Rep W p F v d) : ∀ {H : Hp} {k : NestedKey}, Same F H → keyN d = some k → NkH W.K H k v := by
  induction h with
  | int i => intro H k e z; unfold keyN at z; cases z; exact .num i
  | tup h l r ih =>
    intro H k e z
    unfold keyN at z
    obtain ⟨ks, e1, rfl⟩ := Option.map_eq_some_iff.mp z
    obtain ⟨l2, g⟩ := keyNs_get e1
    refine .tup (sq_t e h) (l.trans l2) fun i v k a b => ?_
    rename_i vs ds
    have hi : i < ds.length := by
      have := (List.getElem?_eq_some_iff.mp b).1
      omega
    exact ih i v ds[i] a (List.getElem?_eq_getElem hi) e (g i _ k (List.getElem?_eq_getElem hi) b)
  | _ => intro H k e z; unfold keyN at z; cases z
section
variable {X : Cx} {pins : List (Addr × Obj)} {σ : L2.St} {H : Hp} {s : Shared}
theorem nall {h : Heap} : ∀ {vs : List V} {its : List Value} {ks : List NestedKey}, Vals vs its → vs.length = ks.length → (∀ (i : Nat) (v : V) (k : NestedKey), vs[i]? = some v → ks[i]? = some k → ∀ {u : Value}, RelV v u → NestedIs h k u) → NestedAll h ks its
  | [], [], [], _, _, _ => .nil
  | [], [], _ :: _, _, l, _ => by simp at l
  | v :: vs, u :: us, [], _, l, _ => by simp at l
  | v :: vs, u :: us, k :: ks, r, l, f => by
    cases r with
    | cons r1 r2 => exact .cons (f 0 v k rfl rfl r1) (nall r2 (by simpa using l) fun i v k a b => f (i + 1) v k (by simpa using a) (by simpa using b))
theorem NkH.is (I : Inv X pins σ H s) {k : NestedKey} {v : V} (h : NkH X.K H k v) : ∀ {u : Value}, RelV v u → NestedIs s.heap k u := by
  induction h with
  | num i => intro u r; obtain ⟨t, rfl⟩ := (show ∃ t, u = Value.int i t from r); exact .int i t
  | tup h l r ih =>
    intro u ru
    obtain rfl : u = .ref _ := ru
    obtain ⟨its, hv, ⟨o, ho, hc, n, hd⟩, _⟩ := I.tuple h
    exact .tup ho hc hd (by simpa using nall hv l fun i v k a b => ih i v k a b)
theorem hashes_same {w w' : World} : ∀ {ks : List NestedKey}, (∀ k ∈ ks, k.hash w = k.hash w') → NestedKey.hashes w ks = NestedKey.hashes w' ks
  | [], _ => by unfold NestedKey.hashes; rfl
  | k :: ks, h => by
    unfold NestedKey.hashes
    rw [h k List.mem_cons_self, hashes_same fun k hk => h k (List.mem_cons_of_mem _ hk)]
theorem NkH.hash {K : PySem.W.Frag} {k : NestedKey} {v : V} (h : NkH K H k v) (w w' : World) : k.hash w = k.hash w' := by
  induction h with
  | num i => unfold NestedKey.hash; rfl
  | @tup a vs ks h l r ih =>
    unfold NestedKey.hash
    rw [hashes_same fun k hk => ?_]
    obtain ⟨i, hi, e⟩ := List.getElem_of_mem hk
    have hv : i < vs.length := by omega
    exact ih i vs[i] k (List.getElem?_eq_getElem hv) (by rw [List.getElem?_eq_getElem hi, e])
/-- the keys of a dict on the abstract heap -/
def KeysH (K : PySem.W.Frag) (H : Hp) (xs : List (NestedKey × Addr × Value)) : Prop := ∀ x ∈ xs, NkH K H x.1 (.ref x.2.1) ∧ x.1.depth ≤ 8
theorem dx_at {a : Addr} {o : Obj} (I : Inv X pins σ H s) (e : H a = some (dxO a o)) : s.heap.get? a = some o := (show ObjOk X.prog X.w H s.heap a (dxO a o) from I.hok a _ e).1
theorem dx_of {a : Addr} {o : Obj} {xs : List (NestedKey × Addr × Value)} (I : Inv X pins σ H s) (e : H a = some (dxO a o)) (hx : DxO a o xs) (hk : KeysH X.K H xs) : s.heap.DictOfH (nestedKind X.prog X.w) a xs := by
  obtain ⟨_, h1, _, h3, es, ep, h4, h5⟩ := hx
  exact ⟨o, es, ep, dx_at I e, h1, h4, h5 X.prog X.w, fun x hx => ⟨(hk x hx).1.is I rfl, (hk x hx).2⟩, h3⟩
theorem dx_back {P : Program} {w : World} {h' : Heap} {a : Addr} {xs : List (NestedKey × Addr × Value)} (dd : h'.DictOfH (nestedKind P w) a xs) (hs : (a == sysModules) = false) (hn : ∀ x ∈ xs, ∀ w w' : World, x.1.hash w = x.1.hash w') (hl : xs.length ≤ sizeLine) : ∃ o', h'.get? a = some o' ∧ DxO a o' xs := by
  obtain ⟨o, es, ep, h1, h2, h3, h4, _, h5⟩ := dd
  refine ⟨o, h1, hs, h2, hl, h5, es, ep, h3, fun P' w' => h4.trans (List.map_congr_left fun x hx => ?_)⟩
  show DictEntry.mk (x.1.hash w) _ _ = DictEntry.mk (x.1.hash w') _ _
  rw [hn x hx w w']
theorem dx_ok {P : Program} {w : World} {H' : Hp} {h' : Heap} {a : Addr} {o : Obj} (e : h'.get? a = some o) : ObjOk P w H' h' a (dxO a o) := ⟨e, ⟨o, e⟩, fun _ _ p k => k _ p⟩
theorem storedH_mem {xs : List (NestedKey × Addr × Value)} {k : NestedKey} {b : Addr} {u : Value} {x : NestedKey × Addr × Value} (h : x ∈ storedH xs k b u) : x.1 = k ∨ ∃ y ∈ xs, x.1 = y.1 := by
  unfold storedH at h
  split at h
  · obtain ⟨y, hy, rfl⟩ := List.mem_map.mp h
    refine .inr ⟨y, hy, ?_⟩
    unfold putAt
    split <;> rfl
  · rcases List.mem_append.mp h with h | h
    · exact .inr ⟨x, h, rfl⟩
    · obtain rfl : x = (k, b, u) := by simpa using h
      exact .inl rfl
theorem storedH_len (xs : List (NestedKey × Addr × Value)) (k : NestedKey) (b : Addr) (u : Value) : (storedH xs k b u).length ≤ xs.length + 1 := by
  unfold storedH
  split <;> simp
end
/-- a[y] = v -/
def rSetX (K : PySem.W.Frag) : V → V → V → Hp → (Hp → Prop) → Prop := fun x y v H Q => ∃ a o xs k b, x = .ref a ∧ y = .ref b ∧ H a = some (dxO a o) ∧ DxO a o xs ∧ KeysH K H xs ∧ NkH K H k y ∧ k.depth ≤ 8 ∧ xs.length < sizeLine ∧
  ∀ o' u, RelV v u → DxO a o' (storedH xs k b u) → Q (upd H a (dxO a o'))
theorem set_dx {X : Cx} (hu : X.A.units + 1 + 8 < cLine) : PSet X (rSetX X.K) := by
  intro pins s σ H o i v ov iv u Q I ro ri rv h
  obtain ⟨a, ob, xs, k, b, rfl, rfl, ha, hx, hk, hn, hd, hl, q⟩ := h
  obtain rfl : ov = .ref a := ro
  obtain rfl : iv = .ref b := ri
  have dd := dx_of I ha hx hk
  refine wpAny_setItem_heap (hsz := hx.2.2.1) (knd := nestedKind X.prog X.w) (show X.A.units + 1 + 8 < cLine from hu) ⟨hn.is I rfl, hd⟩ dd fun h' dd' hs => ?_
  obtain ⟨o', ho', hx'⟩ := dx_back dd' hx.1 (fun x hx w w' => by
    rcases storedH_mem hx with e | ⟨y, hy, e⟩
    · rw [e]; exact hn.hash w w'
    · rw [e]; exact (hk y hy).1.hash w w') (by have := storedH_len xs k b u; omega)
  exact ⟨_, d_write I (by rw [ha]; exact True.intro) hs ⟨o', ho'⟩ (dx_ok ho'), q o' u rv hx'⟩
/-- {} -/
def tXNew : TE := fun _ H Q => ∀ p o, H p = none → DxO p o [] → Q (.ref p) (upd H p (dxO p o))
theorem pe_xnew {X : Cx} {pos : Pos} : PE X (.Dict [] [] pos) tXNew := ⟨fun pins s σ H Q I h =>
  wpAny_Dict_empty ⟨.ref s.heap.objs.size, _, I.laid (a := s.heap.objs.size) (o := dxO s.heap.objs.size { cls := .type "dict", data := .dict #[] }) (t' := s.toks) (fun _ _ q => Heap.get?_push_of_some _ q) (Nat.le_refl _) (dx_ok (Heap.get?_push_size _ rfl)), rfl,
    h _ _ (I.hok.fresh (Nat.le_refl _)) ⟨beq_eq_false_iff_ne.mpr (Ne.symm (Nat.ne_of_lt I.big)), ⟨rfl, rfl, rfl⟩, Nat.zero_le _, List.nodup_nil, #[], 0, rfl, fun _ _ => rfl⟩⟩⟩
/-- list(a) -/
def rLstX : List V → Hp → VK → Prop := fun vs H Q => ∃ a o xs, vs = [.ref a] ∧ H a = some (dxO a o) ∧ DxO a o xs ∧ ∀ p, H p = none → Q (.ref p) (upd H p (.lst (xs.map fun x => V.ref x.2.1)))
theorem call_list_dx {X : Cx} (hc : X.calm = true) : CallR X (.type "list") rLstX := by
  intro pins s σ H vs us Q I r h
  obtain ⟨d, o, ks, rfl, hd, hx, q⟩ := h
  obtain ⟨u, rfl, rx⟩ := r.one
  cases rx
  obtain ⟨hs, h1, hl, hn, es, ep, hdt, he⟩ := hx
  have he := he X.prog X.w
  have l1 : es.size = ks.length := size_of_entries he
  have ho := dx_at I hd
  refine PySem.W.kdl_call (kdl_raw hs h1 hdt) (I.ok.hd hc) ho (by omega) fun h' tk acc' c' kp e it => ?_
  have ea : acc'.toList = ks.map fun x => Value.ref x.2.1 := by
    have hl : acc'.toList.length = ks.length := by rw [Array.length_toList, it.1]; exact l1
    apply List.ext_getElem?
    intro j
    rw [List.getElem?_map]
    cases hj : acc'.toList[j]? with
    | none =>
      have h1 := List.getElem?_eq_none_iff.mp hj
      rw [List.getElem?_eq_none (by omega)]
      all_goals rfl
    | some v =>
      obtain ⟨en, hen, hv⟩ := it.2 j v (by rw [← Array.getElem?_toList]; exact hj)
      have qe := entry_at he j
      rw [hen] at qe
      cases hb : ks[j]? with
      | none =>
        rw [hb] at qe
        exact nomatch (show some en = none from qe)
      | some b =>
        rw [hb] at qe
        have e2 : en = entryOfKey (nestedKind X.prog X.w) b := Option.some.inj qe
        rw [hv, e2]
        all_goals rfl
  have eb : acc'.toList = (ks.map fun x => x.2.1).map Value.ref := by rw [ea, List.map_map]; all_goals rfl
  have rv : Vals ((ks.map fun x => x.2.1).map V.ref) acc'.toList := by rw [eb]; exact vals_refs _
  have em : (ks.map fun x => x.2.1).map V.ref = ks.map fun x => V.ref x.2.1 := by rw [List.map_map]; rfl
  rw [em] at rv
  have hz : (ks.map fun x => V.ref x.2.1).length ≤ sizeLine := by rw [List.length_map]; omega
  refine ⟨.ref s.heap.objs.size, _, I.laid (t' := tk) (o := .lst (ks.map fun x => V.ref x.2.1)) kp (Nat.le_refl _) ?_, rfl, q _ (I.hok.fresh (Nat.le_refl _))⟩
  exact ⟨hz, acc'.toList, c', rv, by rw [Array.toArray_toList]; exact e⟩
section
variable {X : Cx} {tg e : Expr} {td : TE} {apos cpos : Pos}
end
end Mi

set_option Elab.async false
set_option linter.all false
set_option maxRecDepth 100000
set_option maxHeartbeats 4000000
/-! MiDy: mirrors of dicts with nested keys: owned by a slot, frozen. -/
namespace Mi
open PySem PySem.Spec PyProof.Rows L2
variable [TB : Tabl]
theorem room_u9 {k : Nat} {A : Around} (r : Room k A) : A.units + 1 + 8 < cLine := by have := r.un; omega
theorem heap_with (a : Addr) (o : Obj) (hd : ∀ z, o.data = z → z ≠ .freed) : ∃ h : Heap, h.get? a = some o := by
  refine ⟨{ objs := Array.replicate (a + 1) o }, ?_⟩
  have e : (Array.replicate (a + 1) o)[a]? = some o := by simp
  unfold Heap.get?
  rw [e]
  obtain ⟨c, d, dt, sl⟩ := o
  cases dt <;> first | rfl | exact absurd rfl (hd _ rfl)
theorem dx_ne_code {a b : Addr} {o : Obj} {q : Str} {xs : List (NestedKey × Addr × Value)} (hx : DxO a o xs) (h : a = b) : dxO a o ≠ LamX.CodeO b q := by
  subst h
  intro z
  obtain ⟨_, _, _, _, es, ep, hd, _⟩ := hx
  obtain ⟨h, e⟩ := heap_with a o (fun z e1 => by rw [← e1, hd]; exact fun z => nomatch z)
  have e2 : (fun h : Heap => h.get? a = some o) = fun h : Heap => ∃ (oc : Obj) (vs : Array Value) (t : Tok), h.get? a = some oc ∧ oc.data = .fields vs ∧ vs[1]? = some (.str q t) := HO.ext.inj z
  have e3 := congrFun e2 h
  have e4 : ∃ (oc : Obj) (vs : Array Value) (t : Tok), h.get? a = some oc ∧ oc.data = .fields vs ∧ vs[1]? = some (.str q t) := by rw [← e3]; exact e
  obtain ⟨oc, vs, t, e5, e6, _⟩ := e4
  rw [e] at e5
  cases e5
  rw [hd] at e6
  cases e6
theorem tabs_overX {H : Hp} {T : List (Addr × Str)} {q : Addr} {o : HO} {ob : Obj} {xs : List (NestedKey × Addr × Value)} (hq : H q = some (dxO q ob)) (hx : DxO q ob xs) (t : LamX.Tabs T H) : LamX.Tabs T (upd H q o) := fun P hP => by
  obtain ⟨ps, h1, h2, h3⟩ := t P hP
  refine ⟨ps, by rw [upd_ne (fun z => by rw [z, hq] at h1; cases h1)]; exact h1, h2, fun ps2 cv e => ?_⟩
  obtain ⟨c, e1, e2⟩ := h3 ps2 cv e
  exact ⟨c, e1, by rw [upd_ne (fun z => by rw [z, hq] at e2; exact dx_ne_code hx rfl (Option.some.inj e2))]; exact e2⟩
/-! ### keys -/
def hasK (ks : List D) (k : NestedKey) : Bool := ks.any fun d => decide (keyN d = some k)
def putKs (ks : List D) (kk : NestedKey) (k : D) : List D := if hasK ks kk = true then ks else ks ++ [k]
def putDs (ks ds : List D) (kk : NestedKey) (v : D) : List D := if hasK ks kk = true then List.zipWith (fun d w => if keyN d = some kk then v else w) ks ds else ds ++ [v]
section
variable {W : Wo} {p : Addr} {F H : Hp} {xs : List (NestedKey × Addr × Value)} {vs : List V} {ks ds : List D}
theorem has_iff (hl : xs.length = ks.length) (hk : ∀ (i : Nat) (x : NestedKey × Addr × Value) (d : D), xs[i]? = some x → ks[i]? = some d → keyN d = some x.1 ∧ x.1.depth ≤ 8) (k : NestedKey) : (atKey xs k).isSome = hasK ks k := by
  have h1 : (atKey xs k).isSome = xs.any fun x => decide (x.1 = k) := by
    unfold atKey
    rw [Option.isSome_map, Bool.eq_iff_iff, List.find?_isSome, List.any_eq_true]
  rw [h1]
  unfold hasK
  have : ∀ (xs : List (NestedKey × Addr × Value)) (ks : List D), xs.length = ks.length → (∀ (i : Nat) (x : NestedKey × Addr × Value) (d : D), xs[i]? = some x → ks[i]? = some d → keyN d = some x.1 ∧ x.1.depth ≤ 8) → (xs.any fun x => decide (x.1 = k)) = ks.any fun d => decide (keyN d = some k) := by
    intro xs
    induction xs with
    | nil => intro ks hl _; cases ks with
      | nil => rfl
      | cons d ks => simp at hl
    | cons x xs ih => intro ks hl hk; cases ks with
      | nil => simp at hl
      | cons d ks =>
        rw [List.any_cons, List.any_cons, ih ks (by simpa using hl) fun i x d a b => hk (i + 1) x d (by simpa using a) (by simpa using b)]
        have := (hk 0 x d rfl rfl).1
        rw [this]
        simp
  exact this xs ks hl hk
theorem DctR.put (R : DctR W p F xs vs ks ds) {kk : NestedKey} {b : Addr} {u : Value} {k v : D} {w : V} (ek : keyN k = some kk) (hd : kk.depth ≤ 8) (rk : Rep W p F (.ref b) k) (rv : Rep W p F w v) (ru : RelV w u) : ∃ vs', DctR W p F (storedH xs kk b u) vs' (putKs ks kk k) (putDs ks ds kk v) := by
  have hh := has_iff R.lk R.hk kk
  cases hb : hasK ks kk with
  | true =>
    rw [hb] at hh
    have e1 : storedH xs kk b u = xs.map (putAt kk u) := by unfold storedH; rw [if_pos hh]
    have e2 : putKs ks kk k = ks := by unfold putKs; rw [if_pos hb]
    have e3 : putDs ks ds kk v = List.zipWith (fun d w => if keyN d = some kk then v else w) ks ds := by unfold putDs; rw [if_pos hb]
    refine ⟨List.zipWith (fun d x => if keyN d = some kk then w else x) ks vs, ?_⟩
    rw [e1, e2, e3]
    have lkd : ks.length = ds.length := by rw [← R.lk, R.lv, R.l]
    have lkv : ks.length = vs.length := by rw [← R.lk, R.lv]
    have back : ∀ {i : Nat} {x : NestedKey × Addr × Value}, (xs.map (putAt kk u))[i]? = some x → ∃ y, xs[i]? = some y ∧ x = putAt kk u y := fun {i x} e => by
      rw [List.getElem?_map] at e
      cases e0 : xs[i]? with
      | none => rw [e0] at e; cases e
      | some y => rw [e0] at e; exact ⟨y, rfl, (Option.some.inj e).symm⟩
    have fst : ∀ y : NestedKey × Addr × Value, (putAt kk u y).1 = y.1 ∧ (putAt kk u y).2.1 = y.2.1 := fun y => by unfold putAt; split <;> exact ⟨rfl, rfl⟩
    refine ⟨by rw [List.length_map]; exact R.lk, by rw [List.length_map, List.length_zipWith, R.lv]; omega, by rw [List.length_zipWith, List.length_zipWith]; omega, fun i x d a c => ?_, fun i x z a c => ?_, fun i x d a c => ?_, fun i z d a c => ?_⟩
    · obtain ⟨y, ey, rfl⟩ := back a
      rw [(fst y).1]
      exact R.hk i y d ey c
    · obtain ⟨y, ey, rfl⟩ := back a
      have hi : i < ks.length := by
        have := (List.getElem?_eq_some_iff.mp ey).1
        rw [← R.lk]; exact this
      have hv : i < vs.length := by omega
      have eki : ks[i]? = some ks[i] := List.getElem?_eq_getElem hi
      have evi : vs[i]? = some vs[i] := List.getElem?_eq_getElem hv
      rw [List.getElem?_zipWith, eki, evi] at c
      have hky := (R.hk i y _ ey eki).1
      have c : (if keyN ks[i] = some kk then w else vs[i]) = z := by simpa using c
      rw [hky] at c
      unfold putAt
      by_cases hy : y.1 = kk
      · rw [if_pos hy]
        rw [if_pos (by rw [hy])] at c
        subst c
        exact ru
      · rw [if_neg hy]
        rw [if_neg (fun z => hy (Option.some.inj z))] at c
        subst c
        exact R.rv i y _ ey evi
    · obtain ⟨y, ey, rfl⟩ := back a
      rw [(fst y).2]
      exact R.rk i y d ey c
    · have hi : i < vs.length := by
        have := (List.getElem?_eq_some_iff.mp a).1
        simp at this
        omega
      have eki : ks[i]? = some (ks[i]'(by omega)) := List.getElem?_eq_getElem (by omega)
      have evi : vs[i]? = some vs[i] := List.getElem?_eq_getElem hi
      have edi : ds[i]? = some (ds[i]'(by omega)) := List.getElem?_eq_getElem (by omega)
      rw [List.getElem?_zipWith, eki, evi] at a
      rw [List.getElem?_zipWith, eki, edi] at c
      have a : (if keyN (ks[i]'(by omega)) = some kk then w else vs[i]) = z := by simpa using a
      have c : (if keyN (ks[i]'(by omega)) = some kk then v else (ds[i]'(by omega))) = d := by simpa using c
      split at a
      · rename_i hq
        rw [if_pos hq] at c
        subst a; subst c
        exact rv
      · rename_i hq
        rw [if_neg hq] at c
        subst a; subst c
        exact R.r i _ _ evi edi
  | false =>
    rw [hb] at hh
    have e1 : storedH xs kk b u = xs ++ [(kk, b, u)] := by unfold storedH; rw [if_neg (by rw [hh]; simp)]
    have e2 : putKs ks kk k = ks ++ [k] := by unfold putKs; rw [if_neg (by rw [hb]; simp)]
    have e3 : putDs ks ds kk v = ds ++ [v] := by unfold putDs; rw [if_neg (by rw [hb]; simp)]
    refine ⟨vs ++ [w], ?_⟩
    rw [e1, e2, e3]
    have two : ∀ {α β : Type} {l : List α} {m : List β} {a x : α} {c y : β} {i : Nat} {Φ : Nat → α → β → Prop}, l.length = m.length → (∀ (i : Nat) (x : α) (y : β), l[i]? = some x → m[i]? = some y → Φ i x y) → Φ l.length a c → (l ++ [a])[i]? = some x → (m ++ [c])[i]? = some y → Φ i x y := fun {α β l m a x c y i Φ} hl h1 h2 ex ey => by
      by_cases hi : i < l.length
      · rw [List.getElem?_append_left hi] at ex
        rw [List.getElem?_append_left (by omega)] at ey
        exact h1 i x y ex ey
      · have hi2 : i = l.length := by
          have := (List.getElem?_eq_some_iff.mp ex).1
          simp at this
          omega
        subst hi2
        rw [List.getElem?_append_right (Nat.le_refl _)] at ex
        rw [List.getElem?_append_right (by omega)] at ey
        simp at ex
        rw [hl] at ey
        simp at ey
        subst ex; subst ey
        exact h2
    have l1 := R.lk
    have l2 := R.lv
    have l3 := R.l
    refine ⟨by simp [l1], by simp [l2], by simp [l3], fun i x d a c => two (Φ := fun _ x d => keyN d = some x.1 ∧ x.1.depth ≤ 8) l1 (fun i x y => R.hk i x y) ⟨ek, hd⟩ a c, fun i x z a c => two (Φ := fun _ x z => RelV z x.2.2) l2 (fun i x y => R.rv i x y) ru a c, fun i x d a c => two (Φ := fun _ x d => Rep W p F (.ref x.2.1) d) l1 (fun i x y => R.rk i x y) rk a c, fun i z d a c => two (Φ := fun _ z d => Rep W p F z d) l3 (fun i x y => R.r i x y) rv a c⟩
theorem DctR.keysH (R : DctR W p F xs vs ks ds) (e : Same F H) : KeysH W.K H xs := fun x hx => by
  obtain ⟨i, hi, ei⟩ := List.getElem_of_mem hx
  have hk : i < ks.length := by rw [← R.lk]; exact hi
  have e1 : xs[i]? = some x := by rw [List.getElem?_eq_getElem hi, ei]
  have e2 : ks[i]? = some ks[i] := List.getElem?_eq_getElem hk
  obtain ⟨a, b⟩ := R.hk i x _ e1 e2
  exact ⟨(R.rk i x _ e1 e2).key e a, b⟩
theorem Rep.ndc_ {v : V} (h : Rep W p F v (.ndc ks ds)) : ∃ a o xs vs, v = .ref a ∧ F a = some (dxO a o) ∧ DxO a o xs ∧ DctR W p F xs vs ks ds := by
  cases h with
  | ndc h hx lk lv l hk rv rk r => exact ⟨_, _, _, _, rfl, h, hx, ⟨lk, lv, l, hk, rv, rk, r⟩⟩
end
/-! ### slots -/
section
variable {c : Cf} {u : PuS} {F H : Hp} {σ : L2.St} {ρ : Env}
theorem Sta.od {i : Nat} {ks ds : List D} (S : Sta c u F H σ ρ) (e : ρ[i]? = some (.od ks ds)) : ∃ q o xs vs, σ[i]? = some (some (.ref q)) ∧ H q = some (dxO q o) ∧ F q = none ∧ q ≠ c.p ∧ c.H0 q = none ∧ DxO q o xs ∧ DctR c.W c.p F xs vs ks ds := S.env.at_ i _ e
/-- a fresh dict at q is owned by the slot i -/
theorem Sta.setD {i : Nat} {q : Addr} {o : Obj} (S : Sta c u F H σ ρ) (hn : H q = none) (hx : DxO q o []) :
    Sta c u F (upd H q (dxO q o)) (σ.set i (some (.ref q))) (ρ.set i (.od [] [])) := by
  have S1 := S.step (Stp.own (o := dxO q o) hn) (S.gd.own hn)
  have hF := S.gd.fresh hn
  have hp : q ≠ c.p := fun e => S.gd.ne (e ▸ hn)
  have h0 : c.H0 q = none := S.ent.back S.gd.ne hn
  have nq : ∀ {j : Nat} {t : Sd}, ρ[j]? = some t → t.own = true → σ[j]? ≠ some (some (.ref q)) := fun {j t} e o z => by
    obtain ⟨q', e', hq', _⟩ := (S.env.at_ j t e).ref o
    rw [z] at e'
    injection e' with e'
    injection e' with e'
    injection e' with e'
    subst e'
    exact hq' hn
  refine ⟨S1.ent, S1.gd, by simpa using S.env.len, fun j t e => ?_, fun j k t t' h e1 e2 o1 o2 => ?_⟩
  · rcases set_get e with ⟨rfl, rfl, hl⟩ | ⟨ne, e⟩
    · exact ⟨q, o, [], [], List.getElem?_set_self (by rw [S.env.len]; exact hl), upd_same, hF, hp, h0, hx, rfl, rfl, rfl, (fun i x d a => by simp at a), (fun i x d a => by simp at a), (fun i x d a => by simp at a), (fun i x d a => by simp at a)⟩
    · rw [List.getElem?_set_ne ne]; exact S1.env.at_ j t e
  · rcases set_get e1 with ⟨rfl, rfl, hl⟩ | ⟨n1, e1⟩
    · rcases set_get e2 with ⟨e, _, _⟩ | ⟨n2, e2⟩
      · exact absurd e h
      · rw [List.getElem?_set_self (by rw [S.env.len]; exact hl), List.getElem?_set_ne n2]; exact fun z => nq e2 o2 z.symm
    · rcases set_get e2 with ⟨rfl, rfl, hl⟩ | ⟨n2, e2⟩
      · rw [List.getElem?_set_self (by rw [S.env.len]; exact hl), List.getElem?_set_ne n1]; exact nq e1 o1
      · rw [List.getElem?_set_ne n1, List.getElem?_set_ne n2]; exact S.env.ne j k t t' h e1 e2 o1 o2
/-- the owned dict of the slot i is changed -/
theorem Sta.putX {i : Nat} {q : Addr} {o o' : Obj} {xs xs' : List (NestedKey × Addr × Value)} {vs' : List V} {ks ds ks' ds' : List D} (S : Sta c u F H σ ρ) (e : ρ[i]? = some (.od ks ds)) (hq : σ[i]? = some (some (.ref q))) (h1 : H q = some (dxO q o)) (hx : DxO q o xs) (hx' : DxO q o' xs') (R : DctR c.W c.p F xs' vs' ks' ds') :
    Sta c u F (upd H q (dxO q o')) σ (ρ.set i (.od ks' ds')) := by
  obtain ⟨q', ob, xs0, vs0, e1, h1', hf, hp, h0, _, _⟩ := S.od e
  rw [hq] at e1
  injection e1 with e1; injection e1 with e1; injection e1 with e1
  subst e1
  have qs : ∀ {j : Nat} {t : Sd} {a : Addr}, i ≠ j → ρ[j]? = some t → t.own = true → σ[j]? = some (some (.ref a)) → a ≠ q := fun {j t a} ne e2 o z h => by
    subst h
    exact S.env.ne i j _ t ne e e2 rfl o (hq.trans z.symm)
  refine ⟨⟨S.ent.ef, fun a o ha e n => ?_, fun a ps ha e => by
    obtain ⟨qs, e1⟩ := S.ent.et a ps ha e
    exact ⟨qs, by rw [upd_ne (fun z => by rw [z, h1] at e1; cases e1)]; exact e1⟩, S.ent.nw⟩, ⟨fun a o e => ?_, by rw [upd_ne (Ne.symm hp)]; exact S.gd.pu, S.gd.off, S.gd.nt, tabs_overX h1 hx S.gd.tb, S.gd.hp⟩, by simpa using S.env.len, fun j t e2 => ?_, fun j k t t' h e1 e2 o1 o2 => ?_⟩
  · rw [upd_ne (fun z => by rw [z, h0] at e; cases e)]; exact S.ent.eh a o ha e n
  · rw [upd_ne (fun z => by rw [z, hf] at e; cases e)]; exact S.gd.ex a o e
  · rcases set_get e2 with ⟨rfl, rfl, hl⟩ | ⟨ne, e2⟩
    · exact ⟨q, o', xs', vs', hq, upd_same, hf, hp, h0, hx', R⟩
    · have k := S.env.at_ j t e2
      cases t with
      | un => trivial
      | sh d => exact k
      | ow ds' => obtain ⟨a, xs, z, ha, rest⟩ := k; exact ⟨a, xs, z, by rw [upd_ne (qs ne e2 rfl z)]; exact ha, rest⟩
      | oi kk ks ds' => obtain ⟨dx, xs, z, ha, rest⟩ := k; exact ⟨dx, xs, z, by rw [upd_ne (qs ne e2 rfl z)]; exact ha, rest⟩
      | od ks ds' => obtain ⟨a, ob, xs, ws, z, ha, rest⟩ := k; exact ⟨a, ob, xs, ws, z, by rw [upd_ne (qs ne e2 rfl z)]; exact ha, rest⟩
  · have back : ∀ {m : Nat} {y : Sd}, (ρ.set i (.od ks' ds'))[m]? = some y → y.own = true → ∃ y', ρ[m]? = some y' ∧ y'.own = true := fun {m y} z o => by
      rcases set_get z with ⟨rfl, rfl, _⟩ | ⟨_, z⟩
      · exact ⟨_, e, rfl⟩
      · exact ⟨y, z, o⟩
    obtain ⟨y1, z1, p1⟩ := back e1 o1
    obtain ⟨y2, z2, p2⟩ := back e2 o2
    exact S.env.ne j k y1 y2 h z1 z2 p1 p2
end
def vOd (ρ : Env) (i : Nat) : Option (List D × List D) := match ρ[i]? with
  | some (.od ks ds) => some (ks, ds)
  | _ => none
theorem vOd_at {ρ : Env} {i : Nat} {ks ds : List D} (h : vOd ρ i = some (ks, ds)) : ρ[i]? = some (.od ks ds) := by
  unfold vOd at h
  cases e : ρ[i]? with
  | none => rw [e] at h; cases h
  | some s => rw [e] at h; cases s <;> first | (cases h; rfl) | cases h
def frzD (i : Nat) (ρ : Env) : Env := match vOd ρ i with
  | some q => ρ.set i (.sh (.ndc q.1 q.2))
  | none => ρ
def mFrzD (i : Nat) (m : MS) : MS := fun ρ => m (frzD i ρ)
def mDNew (i : Nat) : MS := fun ρ => M.pure (.nx (ρ.set i (.od [] [])))
/-- the dict with k : v -/
def dputD (q : List D × List D) (k v : D) : Option (List D × List D) := match k, keyN k with
  | .tup _, some kk => if kk.depth ≤ 8 ∧ q.1.length < 16000000 then some (putKs q.1 kk k, putDs q.1 q.2 kk v) else none
  | _, _ => none
def mDPut (i : Nat) (m mk : ME) : MS := fun ρ => M.bind (m ρ) fun v => M.bind (mk ρ) fun k => M.bind (lft (vOd ρ i)) fun q => M.bind (lft (dputD q k v)) fun q' => M.pure (.nx (ρ.set i (.od q'.1 q'.2)))
def keysD : List D → Option (List D)
  | [.ndc ks _] => some ks
  | _ => none
theorem dputD_some {k v : D} {q r : List D × List D} (h : dputD q k v = some r) : ∃ es kk, k = .tup es ∧ keyN k = some kk ∧ kk.depth ≤ 8 ∧ q.1.length < 16000000 ∧ r = (putKs q.1 kk k, putDs q.1 q.2 kk v) := by
  unfold dputD at h
  cases k with
  | tup es =>
    cases e : keyN (.tup es) with
    | none => rw [e] at h; cases h
    | some kk =>
      rw [e] at h
      simp only [] at h
      split at h
      · rename_i hd
        cases h
        exact ⟨es, kk, rfl, rfl, hd.1, hd.2, rfl⟩
      · cases h
  | _ => cases h
section
variable {X : Cx} {c : Cf} {pos : Pos} {e ie : Expr} {m mi : ME} {i : Nat} {x : Str}
theorem Sta.frzD {u : PuS} {F H : Hp} {σ : L2.St} {ρ : Env} (S : Sta c u F H σ ρ) (i : Nat) : ∃ F', Same F F' ∧ Sta c u F' H σ (frzD i ρ) := by
  unfold Mi.frzD
  cases ho : vOd ρ i with
  | none => exact ⟨F, Same.refl F, S⟩
  | some kd =>
    obtain ⟨ks, ds⟩ := kd
    obtain ⟨q, ob, xs, vs, e1, hq, hf, hp, h0, hx, r⟩ := S.od (vOd_at ho)
    have hsm : Same F (upd F q (dxO q ob)) := fun a o e => by rw [upd_ne (fun z => by rw [z, hf] at e; cases e)]; exact e
    have qs : ∀ {j : Nat} {t : Sd} {a : Addr}, i ≠ j → ρ[j]? = some t → t.own = true → σ[j]? = some (some (.ref a)) → a ≠ q := fun {j t a} ne e2 o z h => by
      subst h
      exact S.env.ne i j _ t ne (vOd_at ho) e2 rfl o (e1.trans z.symm)
    refine ⟨upd F q (dxO q ob), hsm, ⟨S.ent.ef.trans hsm, S.ent.eh, S.ent.et, fun a o e => ?_⟩, ⟨fun a o e => ?_, S.gd.pu, fun l e => by rw [upd_ne (Ne.symm hp)]; exact S.gd.off l e, nt_upd S.gd.nt (by intro _ z; cases z), S.gd.tb, S.gd.hp⟩, by simpa using S.env.len, fun j t e => ?_, fun j k t t' h ea eb o1 o2 => ?_⟩
    · by_cases ha : a = q
      · subst ha; exact .inr h0
      · rw [upd_ne ha] at e; exact S.ent.nw a o e
    · by_cases ha : a = q
      · subst ha; rw [upd_same] at e; cases e; exact hq
      · rw [upd_ne ha] at e; exact S.gd.ex a o e
    · rcases set_get e with ⟨rfl, rfl, _⟩ | ⟨ne, e⟩
      · have r' := r.mono hsm
        exact ⟨.ref q, e1, .ndc upd_same hx r'.lk r'.lv r'.l r'.hk r'.rv r'.rk r'.r⟩
      · have k := S.env.at_ j t e
        cases t with
        | un => trivial
        | sh d => obtain ⟨v, z, r'⟩ := k; exact ⟨v, z, r'.mono hsm⟩
        | ow es => obtain ⟨a, xs, z, ha, hfa, w1, w2, r'⟩ := k; exact ⟨a, xs, z, ha, by rw [upd_ne (qs ne e rfl z)]; exact hfa, w1, w2, r'.mono hsm⟩
        | oi kk ks es => obtain ⟨dx, xs, z, ha, hfa, w1, w2, w3, r'⟩ := k; exact ⟨dx, xs, z, ha, by rw [upd_ne (qs ne e rfl z)]; exact hfa, w1, w2, w3, r'.mono hsm⟩
        | od ks es => obtain ⟨a, ob, xs, ws, z, ha, hfa, w1, w2, w3, r'⟩ := k; exact ⟨a, ob, xs, ws, z, ha, by rw [upd_ne (qs ne e rfl z)]; exact hfa, w1, w2, w3, r'.mono hsm⟩
    · rcases set_get ea with ⟨rfl, rfl, _⟩ | ⟨n1, ea⟩
      · cases o1
      · rcases set_get eb with ⟨rfl, rfl, _⟩ | ⟨n2, eb⟩
        · cases o2
        · exact S.env.ne j k t t' h ea eb o1 o2
theorem dFrzDS (i : Nat) {st : Stmt} {ms : MS} (h : DS X c st ms) : DS X c st (mFrzD i ms) := h.imp fun Dn σ H ⟨F, u, ρ, S, h⟩ => by
  obtain ⟨F', sm, S'⟩ := S.frzD i
  exact ⟨F', u, _, S', flowO.mono sm h⟩
theorem dDNew {pos' p2 : Pos} (hN : X.N.Nodup) (hi : X.N[i]? = some x) (hx : Loc X.env.scope x) (hs : swapsWith (.Dict [] [] p2) (some (.Name x pos')) pos.line X.env = pure false := by rfl)
    (hf : X.fn x = true ∨ X.env.scope.names.lookup x = some .local := by first | exact .inl rfl | exact .inr rfl | assumption) : DS X c (.Assign [.Name x pos'] (.Dict [] [] p2) pos) (mDNew i) :=
  (ps_set hN hi hx pe_xnew hs hf).imp fun Dn σ H ⟨F, u, ρ, S, h⟩ => fun p o hn ho => h _ F _ (Same.refl _) (S.setD hn ho)
theorem dDPut (i : Nat) {p0 tp : Pos} (he : DE X c e m) (hk : DE X c ie mi) (hu : Room 0 X.A) (hN : X.N[i]? = some x := by rfl) (hv : Vis X.env.scope x := by first | exact Or.inl rfl | exact Or.inr (Or.inl rfl) | exact Or.inr (Or.inr rfl)) (hd : (x == ("__debug__" : Str)) = false := by decide)
    (hcd : (x == ("__classdict__" : Str)) = false := by decide) (hK : X.K = c.W.K := by rfl)
    (ha : ∀ v, assign (.Subscript (.Name x p0) ie tp) X.env v = (do
      let ov ← holding [v] (eval (.Name x p0) X.env)
      let iv ← holding [v, ov] (eval ie X.env)
      standAt tp
      holding [v, ov, iv] (setItem ov iv v)
      release [v, ov, iv] []) := by intro _; rfl)
    (hs : swapsWithSole [.Subscript (.Name x p0) ie tp] e pos.line X.env = pure false := by rfl) (hw : swappedStores [.Subscript (.Name x p0) ie tp] e X.env = pure none := by rfl)
    (h1 : (assignEach [.Subscript (.Name x p0) ie tp] X.env).map (·.2) = [assign (.Subscript (.Name x p0) ie tp) X.env] := by rfl) : DS X c (.Assign [.Subscript (.Name x p0) ie tp] e pos) (mDPut i m mi) :=
  (ps_asg he (pg_sub (pe_var (i := i) hN hv hd hcd) hk (set_dx (room_u9 hu)) ha) hs hw h1).imp fun Dn σ H ⟨F, u, ρ, S, h⟩ => ⟨F, u, ρ, S, (flowO.after S h).imp fun d u1 F1 H1 _ s1 g1 h1 v rv => by
    have key : ∀ ks ds, vOd ρ i = some (ks, ds) → ∃ w, σ[i]? = some (some w) ∧ rdE c mi σ H1 fun i' H3 => rSetX X.K w i' v H3 fun H4 => Dn.nx σ H4 := fun ks ds hds => by
      obtain ⟨q, ob, xs, vs, e1, _⟩ := h1.1.od (vOd_at hds)
      refine ⟨.ref q, e1, F1, u1, ρ, h1.1, (flowO.after h1.1 h1.2).imp fun k u2 F2 H2 _ s2 g2 h2 w rw => ?_⟩
      obtain ⟨ds', e2, h3⟩ := flowO.lft h2.1 h2.2
      rw [hds] at e2
      cases e2
      obtain ⟨n, e3, h4⟩ := flowO.lft h2.1 h3
      obtain ⟨es, kk, rfl, ek, hdp, hlen, rfl⟩ := dputD_some e3
      obtain ⟨q', ob', xs', vs', e1', hq', _, _, _, hx', r'⟩ := h2.1.od (vOd_at hds)
      rw [e1] at e1'
      cases e1'
      obtain ⟨b, ws, rfl, hT, rs⟩ := rw.tup_
      refine ⟨q, ob', xs', kk, b, rfl, rfl, hq', hx', by rw [hK]; exact r'.keysH g2.ex, by rw [hK]; exact rw.key g2.ex ek, hdp, ?_, fun o' u' hu' hx2 => ?_⟩
      · have := r'.lk
        have hlen : ks.length < 16000000 := hlen
        rw [sizeLine_eq]
        omega
      · obtain ⟨vs2, R2⟩ := r'.put ek hdp rw (rv.mono s2.ef) hu'
        exact h4 σ F2 _ (Same.refl _) (h2.1.putX (vOd_at hds) e1 hq' hx' hx2 R2)
    cases ho : vOd ρ i with
    | some q => exact key q.1 q.2 ho
    | none =>
      exfalso
      have h2 := h1.2
      unfold M.bind at h2
      cases e1 : mi ρ u1 with
      | none => rw [e1] at h2; exact h2
      | some y => rw [e1, ho] at h2; exact h2⟩
theorem m_lstX {W : Wo} : CallL W rLstX keysD := by
  intro p F H u xs as ds Q gd r e h
  unfold keysD at e
  split at e
  · cases e
    obtain ⟨v, rfl, rv⟩ := r.one
    obtain ⟨a, o, ks, vs, rfl, hF, hx, R⟩ := rv.ndc_
    refine ⟨a, o, ks, rfl, gd.ex _ _ hF, hx, fun l hl => h l _ hl ⟨by rw [List.length_map]; exact R.lk, fun j v d ea eb => ?_⟩⟩
    rw [List.getElem?_map] at ea
    cases e0 : ks[j]? with
    | none => rw [e0] at ea; cases ea
    | some y =>
      rw [e0] at ea
      cases ea
      exact R.rk j y d e0 eb
  · cases e
end
end Mi

set_option Elab.async false
set_option linter.all false
set_option maxRecDepth 100000
set_option maxHeartbeats 4000000
namespace Sh
open PySem PySem.Spec PyProof.Rows L2 Mi He
@[reducible] def mb_is_integer : MS := mRet (mAndV (mCB isiD (mCons (mVar 0) (mCons (mC (.ty "int")) (mNil)))) (mNotV (mCB isiD (mCons (mVar 0) (mCons (mC (.ty "bool")) (mNil))))))
def mf_is_integer : List D → M D := mFn 1 mb_is_integer
@[reducible] def mb_is_natural : MS := mRet (mAndV (mCall 1 mf_is_integer (mCons (mVar 0) (mNil))) (mBin geD (mVar 0) (mC (.int 0))))
def mf_is_natural : List D → M D := mFn 1 mb_is_natural
@[reducible] def lb_wrong_number_1 : MS := mSeq (mIfS (mOr (mNot (mB (mCall 1 mf_is_natural (mCons (mVar 2) (mNil))))) (mOr (mB (mBin eqMD (mVar 2) (mC (.int 0)))) (mB (mBin eqMD (mVar 1) (mC (.int 24)))))) (mRet (mVar 1)) (mNext)) (mIfS (mAnd (mB (mBin gtD (mVar 1) (mC (.int 0)))) (mB (mBin gtD (mVar 2) (mBin ixD (mVar 0) (mBin subD (mVar 1) (mC (.int 1))))))) (mRet (mVar 1)) (mNext))
@[reducible] def mb_wrong_number : MS := mSeq (mFor (mIof enumA (mCons (mVar 0) (mNil))) (mGt 2 (mGcons (mGn 1) (mGcons (mGn 2) (mGnil)))) (lb_wrong_number_1)) (mRet (mC .non))
def mf_wrong_number : List D → M D := mFn 3 mb_wrong_number
@[reducible] def mb_Form___init__ : MS := mSeq (mIfS (mNot (mB (mCB isiD (mCons (mVar 1) (mCons (mC (.ty "tuple")) (mNil)))))) (mStuck) (mNext)) (mSeq (mSet 2 (mCall 1 mf_wrong_number (mCons (mVar 1) (mNil)))) (mSeq (mIfS (mB (mBin isntD (mVar 2) (mC .non))) (mStuck) (mNext)) (mSelfSet 0 "Form" "numbers" (mVar 1))))
def mf_Form___init__ : List D → M (List Str × List D) := mInit 3 "Form" mb_Form___init__
@[reducible] def mb_Form_row : MS := mRet (mUn (fldD "Form" ["numbers"] 0) (mVar 0))
def mf_Form_row : List D → M D := mFn 1 mb_Form_row
@[reducible] def lb_sums_of_1 : MS := mApp 1 (mBin addD (mIxO 1 (mUn negD (mC (.int 1)))) (mVar 2))
@[reducible] def mb_sums_of : MS := mSeq (mSetO 1 (mLstO (mCons (mC (.int 0)) (mNil)))) (mSeq (mFor (mIany (mVar 0)) (mGn 2) (lb_sums_of_1)) (mFrz 1 (mRet (mVar 1))))
def mf_sums_of : List D → M D := mFn 3 mb_sums_of
end Sh

set_option Elab.async false
set_option linter.all false
set_option maxRecDepth 100000
set_option maxHeartbeats 4000000
namespace Sh
open PySem PySem.Spec PyProof.Rows L2 Mi He
@[reducible] def ce_is_name_1 : ME := mOrV (mBin inD (mVar 1) (mC (.str "abcdefghijklmnopqrstuvwxyz"))) (mBin inD (mVar 1) (mC (.str "0123456789")))
@[reducible] def mb_is_name : MS := mSeq (mIfS (mOr (mNot (mB (mCB isiD (mCons (mVar 0) (mCons (mC (.ty "str")) (mNil)))))) (mOr (mNot (mB (mChain leD leD (mC (.int 1)) (mCB lenD (mCons (mVar 0) (mNil))) (mC (.int 8))))) (mB (mBin ninD (mBin ixD (mVar 0) (mC (.int 0))) (mC (.str "abcdefghijklmnopqrstuvwxyz")))))) (mRet (mC (.bl false))) (mNext)) (mRet (mCB allD (mCons (mFz (mLcO [1] (mIany (mVar 0)) (mGn 1) (mYes) (ce_is_name_1))) (mNil))))
def mf_is_name : List D → M D := mFn 2 mb_is_name
@[reducible] def lb_wrong_pair_1 : MS := mSeq (mIfS (mOr (mNot (mB (mCB isiD (mCons (mVar 3) (mCons (mC (.ty "tuple")) (mNil)))))) (mOr (mB (mBin neMD (mCB lenD (mCons (mVar 3) (mNil))) (mC (.int 2)))) (mB (mBin eqMD (mVar 2) (mC (.int 12)))))) (mRet (mVar 2)) (mNext)) (mSeq (mAsg (mVar 3) (mGt 2 (mGcons (mGn 4) (mGcons (mGn 5) (mGnil))))) (mSeq (mIfS (mBorT 1 (mOr (mNot (mB (mCall 1 mf_is_name (mCons (mVar 4) (mNil))))) (mOr (mNot (mB (mCB isiD (mCons (mVar 5) (mCons (mC (.cls "Card")) (mNil)))))) (mB (mBin inD (mVar 4) (mVar 1)))))) (mRet (mVar 2)) (mNext)) (mApp 1 (mVar 4))))
@[reducible] def mb_wrong_pair : MS := mSeq (mSetO 1 (mLstO (mNil))) (mSeq (mFor (mIof enumA (mCons (mVar 0) (mNil))) (mGt 2 (mGcons (mGn 2) (mGcons (mGn 3) (mGnil)))) (lb_wrong_pair_1)) (mRet (mC .non)))
def mf_wrong_pair : List D → M D := mFn 6 mb_wrong_pair
@[reducible] def mb_Wallet___init__ : MS := mSeq (mIfS (mNot (mB (mCB isiD (mCons (mVar 1) (mCons (mC (.ty "tuple")) (mNil)))))) (mStuck) (mNext)) (mSeq (mSet 2 (mCall 1 mf_wrong_pair (mCons (mVar 1) (mNil)))) (mSeq (mIfS (mB (mBin isntD (mVar 2) (mC .non))) (mStuck) (mNext)) (mSelfSet 0 "Wallet" "pairs" (mVar 1))))
def mf_Wallet___init__ : List D → M (List Str × List D) := mInit 3 "Wallet" mb_Wallet___init__
@[reducible] def mb_Card___init__ : MS := mSeq (mIfS (mNot (mB (mCall 1 mf_is_natural (mCons (mVar 1) (mNil))))) (mStuck) (mNext)) (mSeq (mIfS (mOr (mNot (mB (mCall 1 mf_is_natural (mCons (mVar 2) (mNil))))) (mB (mBin eqMD (mVar 2) (mC (.int 0))))) (mStuck) (mNext)) (mSeq (mIfS (mB (mBin gtD (mVar 1) (mBin mulD (mC (.int 24)) (mVar 2)))) (mStuck) (mNext)) (mSeq (mSelfSet 0 "Card" "held" (mVar 1)) (mSelfSet 0 "Card" "daily" (mVar 2)))))
def mf_Card___init__ : List D → M (List Str × List D) := mInit 3 "Card" mb_Card___init__
@[reducible] def mb_check_wallet : MS := mIfS (mNot (mB (mCB isiD (mCons (mVar 0) (mCons (mC (.cls "Wallet")) (mNil)))))) (mStuck) (mNext)
def mf_check_wallet : List D → M D := mFn 1 mb_check_wallet
@[reducible] def ce_even_1 : ME := mIf (mB (mBin ltD (mVar 4) (mVar 3))) (mBin addD (mVar 2) (mC (.int 1))) (mVar 2)
@[reducible] def mb_even : MS := mSeq (mAsg (mCB dmD (mCons (mVar 0) (mCons (mVar 1) (mNil)))) (mGt 2 (mGcons (mGn 2) (mGcons (mGn 3) (mGnil))))) (mRet (mCB tupD (mCons (mFz (mLcO [4] (mIof rng1 (mCons (mVar 1) (mNil))) (mGn 4) (mYes) (ce_even_1))) (mNil))))
def mf_even : List D → M D := mFn 5 mb_even
@[reducible] def lb_parted_1 : MS := mSeq (mSet 5 (mBin ixD (mVar 2) (mCB minD (mCons (mVar 4) (mCons (mBin subD (mCB lenD (mCons (mVar 2) (mNil))) (mC (.int 1))) (mNil)))))) (mIfS (mB (mBin gtD (mBin ixD (mVar 3) (mVar 4)) (mVar 5))) (mRet (mCall 2 mf_even (mCons (mBin addD (mVar 5) (mC (.int 1))) (mCons (mVar 4) (mNil))))) (mNext))
@[reducible] def mb_parted : MS := mSeq (mPar [2, 3] (mMsh (mCall 1 mf_sums_of (mCons (mVar 0) (mNil))) (mMsh (mCall 1 mf_sums_of (mCons (mVar 1) (mNil))) (mMnil)))) (mSeq (mFor (mIof rng2 (mCons (mC (.int 1)) (mCons (mCB lenD (mCons (mVar 3) (mNil))) (mNil)))) (mGn 4) (lb_parted_1)) (mRet (mC .non)))
def mf_parted : List D → M D := mFn 6 mb_parted
@[reducible] def mb_worth : MS := mRet (mCB minD (mCons (mVar 0) (mCons (mBin mulD (mVar 2) (mVar 1)) (mNil))))
def mf_worth : List D → M D := mFn 3 mb_worth
@[reducible] def mb_part : MS := mRet (mBin subD (mCall 3 mf_worth (mCons (mVar 0) (mCons (mVar 1) (mCons (mBin addD (mVar 2) (mC (.int 1))) (mNil))))) (mCall 3 mf_worth (mCons (mVar 0) (mCons (mVar 1) (mCons (mVar 2) (mNil))))))
def mf_part : List D → M D := mFn 3 mb_part
@[reducible] def ct_row_of_1 : MT := mB (mBin gtD (mVar 3) (mBin mulD (mVar 2) (mVar 4)))
@[reducible] def ce_row_of_2 : ME := mCall 3 mf_part (mCons (mVar 3) (mCons (mVar 4) (mCons (mVar 2) (mNil))))
@[reducible] def lb_row_of_3 : MS := mSeq (mApp 1 (mCB sumD (mCons (mFz (mLcO [3, 4] (mIany (mVar 0)) (mGt 2 (mGcons (mGn 3) (mGcons (mGn 4) (mGnil)))) (mYes) (ce_row_of_2))) (mNil)))) (mAug 2 addI (mC (.int 1)))
@[reducible] def mb_row_of : MS := mSeq (mSetO 1 (mLstO (mNil))) (mSeq (mSet 2 (mC (.int 0))) (mSeq (mWhile 100000 (mB (mBin neMD (mFz (mLcO [3, 4] (mIany (mVar 0)) (mGt 2 (mGcons (mGn 3) (mGcons (mGn 4) (mGnil)))) (ct_row_of_1) (mVar 3))) (mFz (mLstO (mNil))))) (lb_row_of_3)) (mFrz 1 (mRet (mCB tupD (mCons (mVar 1) (mNil)))))))
def mf_row_of : List D → M D := mFn 5 mb_row_of
@[reducible] def ce_Wallet_form_1 : ME := mTup (mCons (mUn (fldD "Card" ["held", "daily"] 0) (mVar 2)) (mCons (mUn (fldD "Card" ["held", "daily"] 1) (mVar 2)) (mNil)))
@[reducible] def mb_Wallet_form : MS := mRet (mMake "Form" 1 mf_Form___init__ (mCons (mCall 1 mf_row_of (mCons (mFz (mLcO [1, 2] (mIany (mUn (fldD "Wallet" ["pairs"] 0) (mVar 0))) (mGt 2 (mGcons (mGn 1) (mGcons (mGn 2) (mGnil)))) (mYes) (ce_Wallet_form_1))) (mNil))) (mNil)))
def mf_Wallet_form : List D → M D := mFn 3 mb_Wallet_form
end Sh

set_option Elab.async false
set_option linter.all false
set_option maxRecDepth 100000
set_option maxHeartbeats 4000000
namespace Sh
open PySem PySem.Spec PyProof.Rows L2 Mi He
@[reducible] def mb_Card_limit : MS := mRet (mUn (fldD "Card" ["held", "daily"] 1) (mVar 0))
def mf_Card_limit : List D → M D := mFn 1 mb_Card_limit
@[reducible] def mb_Card_balance : MS := mRet (mUn (fldD "Card" ["held", "daily"] 0) (mVar 0))
def mf_Card_balance : List D → M D := mFn 1 mb_Card_balance
@[reducible] def mb_Wallet_cards : MS := mRet (mCB tupD (mCons (mFz (mLcO [1, 2] (mIany (mUn (fldD "Wallet" ["pairs"] 0) (mVar 0))) (mGt 2 (mGcons (mGn 1) (mGcons (mGn 2) (mGnil)))) (mYes) (mVar 2))) (mNil)))
def mf_Wallet_cards : List D → M D := mFn 3 mb_Wallet_cards
@[reducible] def ce_amounts_of_1 : ME := mTup (mCons (mSelf "Card" mf_Card_balance (mVar 1)) (mCons (mSelf "Card" mf_Card_limit (mVar 1)) (mNil)))
@[reducible] def mb_amounts_of : MS := mRet (mCB tupD (mCons (mFz (mLcO [1] (mIany (mSelf "Wallet" mf_Wallet_cards (mVar 0))) (mGn 1) (mYes) (ce_amounts_of_1))) (mNil)))
def mf_amounts_of : List D → M D := mFn 2 mb_amounts_of
end Sh

set_option Elab.async false
set_option linter.all false
set_option maxRecDepth 100000
set_option maxHeartbeats 4000000
namespace S2
open PySem PySem.Spec PyProof.Rows L2 Mi He Sh
@[reducible] def mb__law_draw : MS := mSeq (mIfS (mB (mBin gtD (mIxP 0 (mC (.int 1))) (mC (.int 0)))) (mSeq (mDmP 0 (mC (.int 1)) 2 (mCB dmD (mCons (mIxP 0 (mC (.int 1))) (mCons (mVar 1) (mNil))))) (mRet (mVar 2))) (mNext)) (mSeq (mSet 3 (mCB int1D (mCons (mIxP 0 (mC (.int 0))) (mNil)))) (mSeq (mPutP 0 (mBin modD (mCB int1D (mCons (mBin addD (mBin mulD (mVar 3) (mBin addD (mBin modD (mCB int1D (mCons (mVar 3) (mNil))) (mC (.int 997))) (mC (.int 69621)))) (mC (.int 7919))) (mNil))) (mC (.int 2147483629))) (mC (.int 0))) (mRet (mBin modD (mCB int1D (mCons (mBin fdivD (mIxP 0 (mC (.int 0))) (mC (.int 512))) (mNil))) (mVar 1)))))
def mf__law_draw : List D → M D := mFn 4 mb__law_draw
@[reducible] def ce__law_shutet_1 : ME := mTup (mCons (mBin ixD (mVar 1) (mVar 2)) (mCons (mMake "Card" 2 mf_Card___init__ (mCons (mBin ixD (mBin ixD (mVar 0) (mVar 2)) (mC (.int 0))) (mCons (mBin ixD (mBin ixD (mVar 0) (mVar 2)) (mC (.int 1))) (mNil)))) (mNil)))
@[reducible] def mb__law_shutet : MS := mSeq (mSet 1 (mFz (mLstO (mCons (mC (.str "bob")) (mCons (mC (.str "a")) (mCons (mC (.str "cc")) (mCons (mC (.str "zed99999")) (mCons (mC (.str "ann")) (mCons (mC (.str "d4")) (mCons (mC (.str "f")) (mCons (mC (.str "gus")) (mCons (mC (.str "h")) (mCons (mC (.str "ian")) (mCons (mC (.str "j7j")) (mCons (mC (.str "k")) (mNil)))))))))))))))) (mRet (mMake "Wallet" 1 mf_Wallet___init__ (mCons (mCB tupD (mCons (mFz (mLcO [2] (mIof rng1 (mCons (mCB lenD (mCons (mVar 0) (mNil))) (mNil))) (mGn 2) (mYes) (ce__law_shutet_1))) (mNil))) (mNil))))
def mf__law_shutet : List D → M D := mFn 3 mb__law_shutet
@[reducible] def ce__law_room_1 : ME := mCB minD (mCons (mVar 2) (mCons (mBin mulD (mVar 1) (mVar 3)) (mNil)))
@[reducible] def mb__law_room : MS := mRet (mCB sumD (mCons (mFz (mLcO [2, 3] (mIany (mVar 0)) (mGt 2 (mGcons (mGn 2) (mGcons (mGn 3) (mGnil)))) (mYes) (ce__law_room_1))) (mNil)))
def mf__law_room : List D → M D := mFn 4 mb__law_room
@[reducible] def mb__law_unlike : MS := mRet (mOrV (mNotV (mCB isiD (mCons (mVar 0) (mCons (mC (.ty "bool")) (mNil))))) (mBin neMD (mVar 0) (mVar 1)))
def mf__law_unlike : List D → M D := mFn 2 mb__law_unlike
@[reducible] def lbL__law_purse_1 : MS := mSet 2 (mBin modD (mCB int1D (mCons (mBin mulD (mBin addD (mBin addD (mBin mulD (mVar 2) (mC (.int 69621))) (mVar 3)) (mC (.int 13))) (mC (.int 48271))) (mNil))) (mC (.int 2147483629)))
@[reducible] def mbL__law_purse : MS := mSeq (mSet 2 (mBin addD (mBin mulD (mC (.int 104659)) (mBin addD (mVar 1) (mC (.int 1)))) (mC (.int 17)))) (mSeq (mFor (mIany (mBin addD (mSl (mVar 0) (mOn) (mOs (mC (.int 4)))) (mSl (mVar 0) (mOs (mVar 1)) (mOs (mBin addD (mVar 1) (mC (.int 1))))))) (mGn 3) (lbL__law_purse_1)) (mSeq (mSet 4 (mIf (mB (mBin ltD (mVar 1) (mCB lenD (mCons (mVar 0) (mNil))))) (mBin ixD (mVar 0) (mVar 1)) (mC (.int 0)))) (mRetL (mLstO (mCons (mVar 2) (mCons (mIf (mB (mBin geD (mCB absD (mCons (mVar 4) (mNil))) (mBin powD (mC (.int 10)) (mC (.int 18))))) (mCB absD (mCons (mVar 4) (mNil))) (mC (.int 0))) (mNil)))))))
def mfL__law_purse : List D → M (List D) := mFnL 5 mbL__law_purse
end S2


set_option Elab.async false
set_option linter.all false
set_option maxRecDepth 100000
set_option maxHeartbeats 4000000
namespace S2
open PySem PySem.Spec PyProof.Rows L2 Mi He Sh
@[reducible] def ce__law_falling_1 : ME := mTup (mCons (mBin addD (mVar 4) (mTup (mCons (mVar 7) (mNil)))) (mCons (mBin subD (mVar 5) (mVar 7)) (mCons (mVar 7) (mNil))))
@[reducible] def lb__law_falling_2 : MS := mSeq (mAsg (mBin ixD (mVar 3) (mUn negD (mC (.int 1)))) (mGt 3 (mGcons (mGn 4) (mGcons (mGn 5) (mGcons (mGn 6) (mGnil)))))) (mSeq (mSet 3 (mSl (mVar 3) (mOn) (mOs (mUn negD (mC (.int 1)))))) (mSeq (mApp 2 (mVar 4)) (mSet 3 (mBin addD (mVar 3) (mFz (mLcO [7] (mIof rng2 (mCons (mC (.int 1)) (mCons (mBin addD (mCB minD (mCons (mVar 5) (mCons (mVar 6) (mNil)))) (mC (.int 1))) (mNil)))) (mGn 7) (mYes) (ce__law_falling_1)))))))
@[reducible] def mb__law_falling : MS := mSeq (mPar [2, 3] (mMow (mLstO (mNil)) (mMsh (mFz (mLstO (mCons (mTup (mCons (mTup (mNil)) (mCons (mVar 0) (mCons (mVar 1) (mNil))))) (mNil)))) (mMnil)))) (mSeq (mWhile 100000 (mB (mBin neMD (mVar 3) (mFz (mLstO (mNil))))) (lb__law_falling_2)) (mFrz 2 (mRet (mVar 2))))
def mf__law_falling : List D → M D := mFn 8 mb__law_falling
end S2

set_option Elab.async false
set_option linter.all false
set_option maxRecDepth 100000
set_option maxHeartbeats 4000000
namespace S2
open PySem PySem.Spec PyProof.Rows L2 Mi He Sh
@[reducible] def ce__law_behind_1 : ME := mTup (mCons (mBin subD (mBin ixD (mBin ixD (mVar 0) (mVar 2)) (mC (.int 0))) (mBin ixD (mVar 1) (mVar 2))) (mCons (mBin ixD (mBin ixD (mVar 0) (mVar 2)) (mC (.int 1))) (mNil)))
@[reducible] def mb__law_behind : MS := mRet (mFz (mLcO [2] (mIof rng1 (mCons (mCB lenD (mCons (mVar 0) (mNil))) (mNil))) (mGn 2) (mYes) (ce__law_behind_1)))
def mf__law_behind : List D → M D := mFn 3 mb__law_behind
end S2

set_option Elab.async false
set_option linter.all false
set_option maxRecDepth 100000
set_option maxHeartbeats 4000000
namespace S2
open PySem PySem.Spec PyProof.Rows L2 Mi He Sh
@[reducible] def lb__law_small_1 : MS := mSeq (mSet 5 (mBin addD (mC (.int 1)) (mCall 2 mf__law_draw (mCons (mVar 0) (mCons (mC (.int 4)) (mNil)))))) (mSeq (mSet 6 (mCall 2 mf__law_draw (mCons (mVar 0) (mCons (mBin addD (mCB minD (mCons (mVar 2) (mCons (mBin mulD (mC (.int 3)) (mVar 5)) (mNil)))) (mC (.int 1))) (mNil))))) (mSeq (mSet 2 (mBin subD (mVar 2) (mVar 6))) (mApp 3 (mTup (mCons (mVar 6) (mCons (mVar 5) (mNil)))))))
@[reducible] def mb__law_small : MS := mSeq (mSetO 3 (mLstO (mNil))) (mSeq (mFor (mIof rng1 (mCons (mCall 2 mf__law_draw (mCons (mVar 0) (mCons (mBin addD (mVar 1) (mC (.int 1))) (mNil)))) (mNil))) (mGn 4) (lb__law_small_1)) (mFrz 3 (mRet (mVar 3))))
def mf__law_small : List D → M D := mFn 7 mb__law_small
@[reducible] def ce__law_ways_1 : ME := mTup (mCons (mBin addD (mVar 6) (mTup (mCons (mVar 8) (mNil)))) (mCons (mBin subD (mVar 7) (mVar 8)) (mNil)))
@[reducible] def lb__law_ways_2 : MS := mSet 5 (mBin addD (mVar 5) (mFz (mLcO [8] (mIof rng1 (mCons (mBin addD (mCB min3D (mCons (mVar 3) (mCons (mVar 4) (mCons (mVar 7) (mNil))))) (mC (.int 1))) (mNil))) (mGn 8) (mYes) (ce__law_ways_1))))
@[reducible] def lb__law_ways_3 : MS := mSeq (mSet 5 (mFz (mLstO (mNil)))) (mSeq (mFor (mIany (mVar 2)) (mGt 2 (mGcons (mGn 6) (mGcons (mGn 7) (mGnil)))) (lb__law_ways_2)) (mSet 2 (mVar 5)))
@[reducible] def mb__law_ways : MS := mSeq (mSet 2 (mFz (mLstO (mCons (mTup (mCons (mTup (mNil)) (mCons (mVar 1) (mNil)))) (mNil))))) (mSeq (mFor (mIany (mVar 0)) (mGt 2 (mGcons (mGn 3) (mGcons (mGn 4) (mGnil)))) (lb__law_ways_3)) (mRet (mFz (mLcO [6, 7] (mIany (mVar 2)) (mGt 2 (mGcons (mGn 6) (mGcons (mGn 7) (mGnil)))) (mB (mBin eqMD (mVar 7) (mC (.int 0)))) (mVar 6)))))
def mf__law_ways : List D → M D := mFn 9 mb__law_ways
@[reducible] def lb__law_pays_1 : MS := mDPut 4 (mC (.bl true)) (mCB tupD (mCons (mCall 2 mf__law_behind (mCons (mVar 5) (mCons (mVar 6) (mNil)))) (mNil)))
@[reducible] def lb__law_pays_2 : MS := mIfS (mB (mCB isiD (mCons (mVar 3) (mCons (mC (.ty "tuple")) (mNil))))) (mDPut 4 (mC (.bl true)) (mBin addD (mVar 5) (mTup (mCons (mVar 3) (mNil))))) (mFor (mIany (mCall 2 mf__law_ways (mCons (mVar 5) (mCons (mVar 3) (mNil))))) (mGn 6) (lb__law_pays_1))
@[reducible] def lb__law_pays_3 : MS := mSeq (mDNew 4) (mSeq (mFor (mIany (mVar 2)) (mGn 5) (lb__law_pays_2)) (mFrzD 4 (mSet 2 (mFz (mCBO keysD (mCons (mVar 4) (mNil)))))))
@[reducible] def mb__law_pays : MS := mSeq (mSet 2 (mFz (mLstO (mCons (mCB tupD (mCons (mVar 0) (mNil))) (mNil))))) (mSeq (mFor (mIany (mVar 1)) (mGn 3) (lb__law_pays_3)) (mRet (mBin neMD (mVar 2) (mFz (mLstO (mNil))))))
def mf__law_pays : List D → M D := mFn 7 mb__law_pays
end S2

set_option Elab.async false
set_option linter.all false
set_option maxRecDepth 100000
set_option maxHeartbeats 4000000
namespace Sh
open PySem PySem.Spec PyProof.Rows L2 Mi He
@[reducible] def ce_parts_1 : ME := mCall 3 mf_part (mCons (mVar 2) (mCons (mVar 3) (mCons (mVar 1) (mNil))))
@[reducible] def mb_parts : MS := mRet (mCB tupD (mCons (mFz (mLcO [2, 3] (mIany (mVar 0)) (mGt 2 (mGcons (mGn 2) (mGcons (mGn 3) (mGnil)))) (mYes) (ce_parts_1))) (mNil)))
def mf_parts : List D → M D := mFn 4 mb_parts
@[reducible] def lb_bounds_1 : MS := mAug 2 addI (mC (.int 1))
@[reducible] def mb_bounds : MS := mSeq (mIfS (mB (mBin eqMD (mVar 1) (mC (.int 0)))) (mRet (mTup (mCons (mCB tupD (mCons (mBin mulD (mFz (mLstO (mCons (mC (.int 0)) (mNil)))) (mCB lenD (mCons (mVar 0) (mNil)))) (mNil))) (mCons (mCB tupD (mCons (mBin mulD (mFz (mLstO (mCons (mC (.int 0)) (mNil)))) (mCB lenD (mCons (mVar 0) (mNil)))) (mNil))) (mNil))))) (mNext)) (mSeq (mSet 2 (mC (.int 0))) (mSeq (mWhile 100000 (mB (mBin geD (mCB sumD (mCons (mCall 2 mf_parts (mCons (mVar 0) (mCons (mBin addD (mVar 2) (mC (.int 1))) (mNil)))) (mNil))) (mVar 1))) (lb_bounds_1)) (mRet (mTup (mCons (mCall 2 mf_parts (mCons (mVar 0) (mCons (mBin addD (mVar 2) (mC (.int 1))) (mNil)))) (mCons (mCall 2 mf_parts (mCons (mVar 0) (mCons (mVar 2) (mNil)))) (mNil)))))))
def mf_bounds : List D → M D := mFn 3 mb_bounds
@[reducible] def ce_left_behind_1 : ME := mTup (mCons (mBin subD (mVar 3) (mVar 2)) (mCons (mVar 4) (mNil)))
@[reducible] def mb_left_behind : MS := mRet (mCB tupD (mCons (mFz (mLcO [2, 3, 4] (mIof zipA2 (mCons (mVar 0) (mCons (mVar 1) (mNil)))) (mGt 2 (mGcons (mGt 2 (mGcons (mGn 3) (mGcons (mGn 4) (mGnil)))) (mGcons (mGn 2) (mGnil)))) (mYes) (ce_left_behind_1))) (mNil)))
def mf_left_behind : List D → M D := mFn 5 mb_left_behind
end Sh

set_option Elab.async false
set_option linter.all false
set_option maxRecDepth 100000
set_option maxHeartbeats 4000000
namespace Sh
open PySem PySem.Spec PyProof.Rows L2 Mi He
@[reducible] def lb_check_payment_1 : MS := mIfS (mOr (mNot (mB (mCall 1 mf_is_natural (mCons (mVar 4) (mNil))))) (mB (mBin gtD (mVar 4) (mCall 3 mf_worth (mCons (mSelf "Card" mf_Card_balance (mBin ixD (mVar 2) (mVar 3))) (mCons (mSelf "Card" mf_Card_limit (mBin ixD (mVar 2) (mVar 3))) (mCons (mC (.int 1)) (mNil)))))))) (mStuck) (mNext)
@[reducible] def mb_check_payment : MS := mSeq (mSet 2 (mSelf "Wallet" mf_Wallet_cards (mVar 0))) (mSeq (mIfS (mOr (mNot (mB (mCB isiD (mCons (mVar 1) (mCons (mC (.ty "tuple")) (mNil)))))) (mB (mBin neMD (mCB lenD (mCons (mVar 1) (mNil))) (mCB lenD (mCons (mVar 2) (mNil)))))) (mStuck) (mNext)) (mFor (mIof enumA (mCons (mVar 1) (mNil))) (mGt 2 (mGcons (mGn 3) (mGcons (mGn 4) (mGnil)))) (lb_check_payment_1)))
def mf_check_payment : List D → M D := mFn 5 mb_check_payment
@[reducible] def ce_is_sparing_1 : ME := mChain leD leD (mBin ixD (mVar 2) (mVar 4)) (mBin ixD (mVar 1) (mVar 4)) (mBin ixD (mVar 3) (mVar 4))
@[reducible] def mb_is_sparing : MS := mSeq (mDrop (mCall 1 mf_check_wallet (mCons (mVar 0) (mNil)))) (mSeq (mDrop (mCall 2 mf_check_payment (mCons (mVar 0) (mCons (mVar 1) (mNil))))) (mSeq (mAsg (mCall 2 mf_bounds (mCons (mCall 1 mf_amounts_of (mCons (mVar 0) (mNil))) (mCons (mCB sumD (mCons (mVar 1) (mNil))) (mNil)))) (mGt 2 (mGcons (mGn 2) (mGcons (mGn 3) (mGnil))))) (mRet (mCB allD (mCons (mFz (mLcO [4] (mIof rng1 (mCons (mCB lenD (mCons (mVar 1) (mNil))) (mNil))) (mGn 4) (mYes) (ce_is_sparing_1))) (mNil))))))
def mf_is_sparing : List D → M D := mFn 5 mb_is_sparing
end Sh

set_option Elab.async false
set_option linter.all false
set_option maxRecDepth 100000
set_option maxHeartbeats 4000000
namespace Sh
open PySem PySem.Spec PyProof.Rows L2 Mi He
@[reducible] def mb_number_at : MS := mRet (mIf (mB (mBin ltD (mVar 1) (mCB lenD (mCons (mVar 0) (mNil))))) (mBin ixD (mVar 0) (mVar 1)) (mC (.int 0)))
def mf_number_at : List D → M D := mFn 2 mb_number_at
end Sh


set_option Elab.async false
set_option linter.all false
set_option maxRecDepth 100000
set_option maxHeartbeats 4000000
/-! MiI: repr(..), str(..) by own methods, sep.join(list of texts). -/
namespace Mi
open PySem PySem.Spec PyProof.Rows L2 He
variable [TB : Tabl]
/-! ### str of an instance -/
/-! ### repr, str of what is an instance, None or a truth -/
def rTxt (C : Addr) (sp : Sp) : List V → Hp → VK → Prop := fun xs H Q => ∃ a dx fs, xs = [.ref a] ∧ H a = some (.ins C dx fs) ∧ sp [.ref a] H (fun v H' => ∃ n : Str, v = .str n ∧ Q (.str n) H') E0
section
variable {X : Cx} {c : Cf} {k : Nat} {f C : Addr} {fd : FuncData} {ps : List Str} {sp : Sp} {mf : List D → M D} {ck : Str} {a : Expr} {ma : ME} {pos : Pos}
def bTx (b : Bool) : Str := if b then "True" else "False"
def rRep (C : Addr) (sp : Sp) : List V → Hp → VK → Prop := fun xs H Q => rTxt C sp xs H Q ∨ (xs = [.non] ∧ Q (.str "None") H) ∨ ∃ b, xs = [.bl b] ∧ Q (.str (bTx b)) H
/-! ### join -/
end
/-! ### == of texts -/
/-! ### recursion -/
end Mi






set_option Elab.async false
set_option linter.all false
set_option maxRecDepth 100000
set_option maxHeartbeats 4000000
namespace Sh
open PySem PySem.Spec PyProof.Rows L2 Mi He
@[reducible] def mb_taken : MS := mSeq (mIfS (mB (mBin eqMD (mVar 1) (mC (.int 0)))) (mRet (mVar 0)) (mNext)) (mSeq (mSet 2 (mBin subD (mCB lenD (mCons (mFz (mLcO [4] (mIany (mVar 0)) (mGn 4) (mB (mBin geD (mVar 4) (mVar 1))) (mVar 4))) (mNil))) (mC (.int 1)))) (mSeq (mSet 3 (mBin subD (mBin addD (mBin ixD (mVar 0) (mVar 2)) (mCall 2 mf_number_at (mCons (mVar 0) (mCons (mBin addD (mVar 2) (mC (.int 1))) (mNil))))) (mVar 1))) (mRet (mBin addD (mBin addD (mSl (mVar 0) (mOn) (mOs (mVar 2))) (mIf (mB (mBin gtD (mVar 3) (mC (.int 0)))) (mTup (mCons (mVar 3) (mNil))) (mTup (mNil)))) (mSl (mVar 0) (mOs (mBin addD (mVar 2) (mC (.int 2)))) (mOn))))))
def mf_taken : List D → M D := mFn 5 mb_taken
end Sh

set_option Elab.async false
set_option linter.all false
set_option maxRecDepth 100000
set_option maxHeartbeats 4000000
namespace G39
open PySem PySem.Spec PyProof.Rows L2 Mi He Sh S2
noncomputable section
@[reducible] def mb_lost_row : MS := mSeq (mDrop (mCall 1 mf_check_wallet (mCons (mVar 0) (mNil)))) (mSeq (mDrop (mCall 2 mf_check_payment (mCons (mVar 0) (mCons (mVar 1) (mNil))))) (mSeq (mSet 2 (mCall 2 mf_taken (mCons (mSelf "Form" mf_Form_row (mSelf "Wallet" mf_Wallet_form (mVar 0))) (mCons (mCB sumD (mCons (mVar 1) (mNil))) (mNil))))) (mRet (mCall 2 mf_parted (mCons (mCall 1 mf_row_of (mCons (mCall 2 mf_left_behind (mCons (mCall 1 mf_amounts_of (mCons (mVar 0) (mNil))) (mCons (mVar 1) (mNil)))) (mNil))) (mCons (mVar 2) (mNil)))))))
def mf_lost_row : List D → M D := mFn 3 mb_lost_row
@[reducible] def ce__law_right_1 : ME := mCall 2 mf__law_pays (mCons (mCall 2 mf__law_behind (mCons (mVar 1) (mCons (mVar 13) (mNil)))) (mCons (mVar 14) (mNil)))
@[reducible] def ce__law_right_2 : ME := mFz (mLcO [14] (mIany (mVar 6)) (mGn 14) (mYes) (ce__law_right_1))
@[reducible] def ce__law_right_3 : ME := mCB anyD (mCons (mFz (mLcO [15] (mIany (mVar 8)) (mGn 15) (mYes) (mBin ixD (mVar 15) (mVar 10)))) (mNil))
@[reducible] def lb__law_right_4 : MS := mSeq (mPar [11, 12] (mMsh (mCall 2 mf_lost_row (mCons (mVar 2) (mCons (mBin ixD (mVar 7) (mVar 10)) (mNil)))) (mMsh (mBin eqMD (mBin ixD (mVar 8) (mVar 10)) (mVar 9)) (mMnil)))) (mSeq (mIfS (mOr (mB (mCall 2 mf__law_unlike (mCons (mCall 2 mf_is_sparing (mCons (mVar 2) (mCons (mBin ixD (mVar 7) (mVar 10)) (mNil)))) (mCons (mVar 12) (mNil))))) (mB (mBin neMD (mBin isD (mVar 11) (mC .non)) (mVar 12)))) (mRet (mC (.bl false))) (mNext)) (mIfS (mB (mBin isntD (mVar 11) (mC .non))) (mSeq (mIfS (mOr (mB (mBin ninLD (mVar 11) (mVar 6))) (mNot (mB (mBin ixD (mVar 9) (mIxOf (mVar 6) (mVar 11)))))) (mRet (mC (.bl false))) (mNext)) (mIfS (mB (mBin ixD (mBin ixD (mVar 8) (mVar 10)) (mIxOf (mVar 6) (mVar 11)))) (mRet (mC (.bl false))) (mNext))) (mNext)))
@[reducible] def mb__law_right : MS := mSeq (mSet 1 (mCall 3 mf__law_small (mCons (mVar 0) (mCons (mC (.int 3)) (mCons (mC (.int 6)) (mNil)))))) (mSeq (mPar [2, 3] (mMsh (mCall 1 mf__law_shutet (mCons (mVar 1) (mNil))) (mMsh (mCall 2 mf__law_room (mCons (mVar 1) (mCons (mC (.int 1)) (mNil)))) (mMnil)))) (mSeq (mSet 4 (mCall 2 mf__law_draw (mCons (mVar 0) (mCons (mBin addD (mVar 3) (mC (.int 1))) (mNil))))) (mSeq (mSet 5 (mBin subD (mCall 2 mf__law_room (mCons (mVar 1) (mCons (mC (.int 24)) (mNil)))) (mVar 4))) (mSeq (mAsg (mTup (mCons (mCall 2 mf__law_falling (mCons (mVar 5) (mCons (mVar 5) (mNil)))) (mCons (mCall 2 mf__law_ways (mCons (mVar 1) (mCons (mVar 4) (mNil)))) (mNil)))) (mGt 2 (mGcons (mGn 6) (mGcons (mGn 7) (mGnil))))) (mSeq (mSet 8 (mFz (mLcO [13] (mIany (mVar 7)) (mGn 13) (mYes) (ce__law_right_2)))) (mSeq (mSet 9 (mFz (mBorLs [] (mLcO [10] (mIof rng1 (mCons (mCB lenD (mCons (mVar 6) (mNil))) (mNil))) (mGn 10) (mYes) (ce__law_right_3))))) (mSeq (mFor (mIof rng1 (mCons (mCB lenD (mCons (mVar 7) (mNil))) (mNil))) (mGn 10) (lb__law_right_4)) (mRet (mAndV (mBin neMD (mVar 7) (mFz (mLstO (mNil)))) (mBin eqMD (mCall 2 mf_is_sparing (mCons (mVar 2) (mCons (mBin ixD (mVar 7) (mC (.int 0))) (mNil)))) (mBin eqMD (mBin ixD (mVar 8) (mC (.int 0))) (mVar 9))))))))))))
def mf__law_right : List D → M D := mFn 16 mb__law_right
@[reducible] def ce_law_1 : ME := mWith mf__law_right (mCallL 2 mfL__law_purse (mCons (mVar 0) (mCons (mVar 1) (mNil))))
@[reducible] def mb_law : MS := mRet (mCB allD (mCons (mFz (mLcO [1] (mIof rng1 (mCons (mC (.int 2)) (mNil))) (mGn 1) (mYes) (ce_law_1))) (mNil)))
def mf_law : List D → M D := mFn 2 mb_law
end
end G39

set_option maxHeartbeats 4000000
namespace G39
open PySem PySem.Spec PyProof.Rows L2 Mi He Sh S2
section
variable [TB : Tabl]
variable {P : Program} {w : World} {K : PySem.W.Frag} {mg : Str → Option Value} {base : Heap}

theorem bi__law_draw {K : PySem.W.Frag} {mg : Str → Option Value} (C : HF fa fn K mg) : Binds K (fdOf K (Pl.ad K (.glob "_law_draw"))) ["_law_purse_here", "_law_many"] [] := (C.fun_ 0 (d := d__law_draw) rfl).bindsN fun _ _ _ _ _ _ us hl => match us, hl with | [_, _], _ => rfl
theorem ok__law_draw (C : HF fa fn K mg) : FO cs P w K mg base 1 (.glob "_law_draw") ["_law_purse_here", "_law_many"] 2 mf__law_draw := by
  have f_divmod := C.free 2 rfl
  have f_int := C.free 3 rfl
  have sc := sc__law_draw
  refine fn_mir (C.fun_ 0 (d := d__law_draw) rfl) sc__law_draw fun cdv A outer s H E p F0 hr => ?_
  exact dBcons (dIfS (dTcmp op_gt m_gt (dIxP 0 (dInt)) (dInt) (nomark _)) (dBcons (dDmP 0 2 rfl (dCallB m_dm call_divmodW rfl f_divmod bb_divmod (dCons (dIxP 0 (dInt)) (dCons (dVar 1) (dNil)))) (dInt) sc.nd rfl (by first | exact Or.inl rfl | exact Or.inr rfl)) (dBone (dRet (dVar 2)))) (dBnil)) (dBcons (dSet (i := 3) sc.nd rfl (by first | exact Or.inl rfl | exact Or.inr rfl) (dCallT m_int1 call_int1 rfl f_int bb_int (dCons (dIxP 0 (dInt)) (dNil)))) (dBcons (dPutP 0 (dBin op_mod m_mod (dCallT m_int1 call_int1 rfl f_int bb_int (dCons (dBin op_addA m_add (dBin op_mulA m_mul (dVar 3) (dBin op_addA m_add (dBin op_mod m_mod (dCallT m_int1 call_int1 rfl f_int bb_int (dCons (dVar 3) (dNil))) (dInt)) (dInt))) (dInt)) (dNil))) (dInt)) (dInt)) (dBone (dRet (dBin op_mod m_mod (dCallT m_int1 call_int1 rfl f_int bb_int (dCons (dBin op_fdivW m_fdiv (dIxP 0 (dInt)) (dInt)) (dNil))) (dVar 1))))))
theorem bi__law_small {K : PySem.W.Frag} {mg : Str → Option Value} (C : HF fa fn K mg) : Binds K (fdOf K (Pl.ad K (.glob "_law_small"))) ["_law_purse_here", "_law_most", "_law_total"] [] := (C.fun_ 1 (d := d__law_small) rfl).bindsN fun _ _ _ _ _ _ us hl => match us, hl with | [_, _, _], _ => rfl
theorem ok__law_small (C : HF fa fn K mg) : FO cs P w K mg base 2 (.glob "_law_small") ["_law_purse_here", "_law_most", "_law_total"] 3 mf__law_small := by
  have G__law_draw := ok__law_draw (P := P) (w := w) (base := base) C
  have F__law_draw := C.fun_ 0 (d := d__law_draw) rfl
  have B__law_draw := bi__law_draw C
  have g__law_draw := C.glo 4 rfl
  have f_range := C.free 1 rfl
  have f_min := C.free 5 rfl
  have sc := sc__law_small
  refine fn_mir (C.fun_ 1 (d := d__law_small) rfl) sc__law_small fun cdv A outer s H E p F0 hr => ?_
  exact dBcons (dSetO (i := 3) sc.nd rfl (by first | exact Or.inl rfl | exact Or.inr rfl) (dLstO (dNil))) (dBcons (dFor PassesOwn.never rfl (dIrng1 rfl f_range (dCons (dCall G__law_draw (hr.mono (by decide)) rfl g__law_draw F__law_draw.kp B__law_draw (dCons (dVar 0) (dCons (dBin op_addA m_add (dVar 1) (dInt)) (dNil)))) (dNil))) (dGn (i := 4) sc.nd rfl (by first | exact Or.inl rfl | exact Or.inr rfl)) (dBcons (dSet (i := 5) sc.nd rfl (by first | exact Or.inl rfl | exact Or.inr rfl) (dBin op_addA m_add (dInt) (dCall G__law_draw (hr.mono (by decide)) rfl g__law_draw F__law_draw.kp B__law_draw (dCons (dVar 0) (dCons (dInt) (dNil)))))) (dBcons (dSet (i := 6) sc.nd rfl (by first | exact Or.inl rfl | exact Or.inr rfl) (dCall G__law_draw (hr.mono (by decide)) rfl g__law_draw F__law_draw.kp B__law_draw (dCons (dVar 0) (dCons (dBin op_addA m_add (dCallB m_min (cr_minA rfl) rfl f_min bb_min (dCons (dVar 2) (dCons (dBin op_mulA m_mul (dInt) (dVar 5)) (dNil)))) (dInt)) (dNil))))) (dBcons (dSet (i := 2) sc.nd rfl (by first | exact Or.inl rfl | exact Or.inr rfl) (dBin op_sub m_sub (dVar 2) (dVar 6))) (dBone (dApp 3 (dTup (dCons (dVar 6) (dCons (dVar 5) (dNil)))))))))) (dBone (dFrzS 3 (dRet (dVar 3)))))
theorem bi__law_room {K : PySem.W.Frag} {mg : Str → Option Value} (C : HF fa fn K mg) : Binds K (fdOf K (Pl.ad K (.glob "_law_room"))) ["_law_amounts", "_law_days"] [] := (C.fun_ 2 (d := d__law_room) rfl).bindsN fun _ _ _ _ _ _ us hl => match us, hl with | [_, _], _ => rfl
theorem ok__law_room (C : HF fa fn K mg) : FO cs P w K mg base 1 (.glob "_law_room") ["_law_amounts", "_law_days"] 2 mf__law_room := by
  have f_min := C.free 5 rfl
  have f_sum := C.free 7 rfl
  have sc := sc__law_room
  refine fn_mir (C.fun_ 2 (d := d__law_room) rfl) sc__law_room fun cdv A outer s H E p F0 hr => ?_
  exact dBone (dRet (dCallB m_sum (cr_sumA rfl) rfl f_sum bb_sum (dCons (dFz (dLcO (own := [("_law_balance", 2), ("_law_limit", 3)]) rfl sc.nd (dIany (dVar 0)) (blkOk_by (by kernel_rfl)) (fun _ _ _ _ _ => dGt (n := 2) rfl (dGcons (dGn (i := 2) sc.nd rfl (by first | exact Or.inl rfl | exact Or.inr rfl)) (dGcons (dGn (i := 3) sc.nd rfl (by first | exact Or.inl rfl | exact Or.inr rfl)) (dGnil)))) (fun _ _ _ _ _ => dYes) (fun _ _ _ _ _ => dCallB m_min (cr_minA rfl) rfl f_min bb_min (dCons (dVar 2) (dCons (dBin op_mulA m_mul (dVar 1) (dVar 3)) (dNil)))))) (dNil))))
theorem bi_is_name {K : PySem.W.Frag} {mg : Str → Option Value} (C : HF fa fn K mg) : Binds K (fdOf K (Pl.ad K (.glob "is_name"))) ["value"] [] := (C.fun_ 3 (d := d_is_name) rfl).bindsN fun _ _ _ _ _ _ us hl => match us, hl with | [_], _ => rfl
theorem ok_is_name (C : HF fa fn K mg) : FO cs P w K mg base 1 (.glob "is_name") ["value"] 1 mf_is_name := by
  have isi := isi_ok (C.fact 0 rfl)
  have f_str := C.free 14 rfl
  have f_isinstance := C.free 10 rfl
  have f_len := C.free 12 rfl
  obtain ⟨_, k_LONGEST_NAME⟩ := C.int 15 rfl
  obtain ⟨_, k_LETTERS⟩ := C.str 16 rfl
  obtain ⟨_, k_DIGITS⟩ := C.str 17 rfl
  have f_all := C.free 18 rfl
  have sc := sc_is_name
  refine fn_mir (C.fun_ 3 (d := d_is_name) rfl) sc_is_name fun cdv A outer s H E p F0 hr => ?_
  exact dBcons (dIfS (PW.pt (dOrT (dNotT (dTst (dCallB (m_isi isi) call_isi rfl f_isinstance bb_isinstance (dCons (dVar 0) (dCons (dTy rfl f_str bb_str) (dNil)))))) (dOrT (dNotT (dTchain op_le m_le op_le m_le (dInt) (dCallB m_len call_lenA rfl f_len bb_len (dCons (dVar 0) (dNil))) (dGI rfl k_LONGEST_NAME))) (dOr1 (dTcmp op_ninA m_nin (dIx ix_seq m_ix (dVar 0) (dInt)) (dGS rfl k_LETTERS) rfl))))) (dBone (dRet (dBl))) (dBnil)) (dBone (dRet (dCallB m_all (cr_all rfl) rfl f_all bb_all (dCons (dFz (dLcO (own := [("sign", 1)]) rfl sc.nd (dIany (dVar 0)) (blkOk_by (by kernel_rfl)) (fun _ _ _ _ _ => dGn (i := 1) sc.nd rfl (by first | exact Or.inl rfl | exact Or.inr rfl)) (fun _ _ _ _ _ => dYes) (fun _ _ _ _ _ => dOrV (dCmp op_inA m_in (dVar 1) (dGS rfl k_LETTERS) rfl) (dOneV (dCmp op_inA m_in (dVar 1) (dGS rfl k_DIGITS) rfl))))) (dNil)))))
theorem bi_wrong_pair {K : PySem.W.Frag} {mg : Str → Option Value} (C : HF fa fn K mg) : Binds K (fdOf K (Pl.ad K (.glob "wrong_pair"))) ["pairs"] [] := (C.fun_ 4 (d := d_wrong_pair) rfl).bindsN fun _ _ _ _ _ _ us hl => match us, hl with | [_], _ => rfl
theorem ok_wrong_pair (C : HF fa fn K mg) : FO cs P w K mg base 2 (.glob "wrong_pair") ["pairs"] 1 mf_wrong_pair := by
  have f_enumerate := C.free 11 rfl
  have isi := isi_ok (C.fact 0 rfl)
  have f_tuple := C.free 9 rfl
  have f_isinstance := C.free 10 rfl
  have f_len := C.free 12 rfl
  obtain ⟨_, k_MOST_CARDS⟩ := C.int 13 rfl
  have G_is_name := ok_is_name (P := P) (w := w) (base := base) C
  have F_is_name := C.fun_ 3 (d := d_is_name) rfl
  have B_is_name := bi_is_name C
  have g_is_name := C.glo 19 rfl
  have g_Card := C.glo 20 rfl
  have sc := sc_wrong_pair
  refine fn_mir (C.fun_ 4 (d := d_wrong_pair) rfl) sc_wrong_pair fun cdv A outer s H E p F0 hr => ?_
  exact dBcons (dSetO (i := 1) sc.nd rfl (by first | exact Or.inl rfl | exact Or.inr rfl) (dLstO (dNil))) (dBcons (dFor PassesOwn.never rfl (dIenumA rfl f_enumerate (dCons (dVar 0) (dNil))) (dGt (n := 2) rfl (dGcons (dGn (i := 2) sc.nd rfl (by first | exact Or.inl rfl | exact Or.inr rfl)) (dGcons (dGn (i := 3) sc.nd rfl (by first | exact Or.inl rfl | exact Or.inr rfl)) (dGnil)))) (dBcons (dIfS (PW.pt (dOrT (dNotT (dTst (dCallB (m_isi isi) call_isi rfl f_isinstance bb_isinstance (dCons (dVar 3) (dCons (dTy rfl f_tuple bb_tuple) (dNil)))))) (dOrT (dTcmp (op_neD hr.units) m_ne (dCallB m_len call_lenA rfl f_len bb_len (dCons (dVar 3) (dNil))) (dInt) (nomark _)) (dOr1 (dTcmp (op_eqD hr.units) m_eq (dVar 2) (dGI rfl k_MOST_CARDS) (nomark _)))))) (dBone (dRet (dVar 2))) (dBnil)) (dBcons (dAsg (dVar 3) (dGt (n := 2) rfl (dGcons (dGn (i := 4) sc.nd rfl (by first | exact Or.inl rfl | exact Or.inr rfl)) (dGcons (dGn (i := 5) sc.nd rfl (by first | exact Or.inl rfl | exact Or.inr rfl)) (dGnil))))) (dBcons (dIfS (dBorT 1 (PW.pt (dOrT (dNotT (dTst (dCall G_is_name (hr.mono (by decide)) rfl g_is_name F_is_name.kp B_is_name (dCons (dVar 4) (dNil))))) (dOrT (dNotT (dTst (dCallB (m_isi isi) call_isi rfl f_isinstance bb_isinstance (dCons (dVar 5) (dCons (dGC (k := "Card") hc_Card rfl g_Card) (dNil)))))) (dOr1 (dTcmp op_inA m_in (dVar 4) (dVar 1) rfl)))))) (dBone (dRet (dVar 2))) (dBnil)) (dBone (dApp 1 (dVar 4))))))) (dBone (dRet (dNon))))
theorem bi_Wallet___init__ {K : PySem.W.Frag} {mg : Str → Option Value} (C : HF fa fn K mg) : Binds K (fdOf K (Pl.ad K (.meth "Wallet" "__init__"))) ["self", "cards"] [] := (C.fun_ 5 (d := d_Wallet___init__) rfl).bindsN fun _ _ _ _ _ _ us hl => match us, hl with | [_, _], _ => rfl
theorem ok_Wallet___init__ (C : HF fa fn K mg) : FnOk P w K mg base CX0 3 (Pl.ad K (.meth "Wallet" "__init__")) (fdOf K (Pl.ad K (.meth "Wallet" "__init__"))) ["self", "cards"] (spI (WW cs K) "Wallet" 1 mf_Wallet___init__) := by
  have isi := isi_ok (C.fact 0 rfl)
  have f_tuple := C.free 9 rfl
  have f_isinstance := C.free 10 rfl
  have G_wrong_pair := ok_wrong_pair (P := P) (w := w) (base := base) C
  have F_wrong_pair := C.fun_ 4 (d := d_wrong_pair) rfl
  have B_wrong_pair := bi_wrong_pair C
  have g_wrong_pair := C.glo 21 rfl
  have n_Wallet_pairs := C.noat 22 rfl
  have c_Wallet := C.cls 23 rfl
  have sc := sc_Wallet___init__
  refine fn_init (ck := "Wallet") (nm := "self") (N := ["cards", "wrong"]) (n := 1) (C.fun_ 5 (d := d_Wallet___init__) rfl) sc_Wallet___init__ rfl fun cdv A outer s H E p F0 H0 sf hr => ?_
  exact dBcons (dIfS (dNotT (dTst (dCallB (m_isi isi) call_isi rfl f_isinstance bb_isinstance (dCons (dVar 1) (dCons (dTy rfl f_tuple bb_tuple) (dNil)))))) (dBone (dNever)) (dBnil)) (dBcons (dSet (i := 2) sc.nd rfl (by first | exact Or.inl rfl | exact Or.inr rfl) (dCall G_wrong_pair (hr.mono (by decide)) rfl g_wrong_pair F_wrong_pair.kp B_wrong_pair (dCons (dVar 1) (dNil)))) (dBcons (dIfS (dTcmp op_isntA m_isnt (dVar 2) (dNon) (nomark _)) (dBone (dNever)) (dBnil)) (dBone (dSelfSet (ck := "Wallet") 0 c_Wallet n_Wallet_pairs (dVar 1)))))
theorem bi_is_integer {K : PySem.W.Frag} {mg : Str → Option Value} (C : HF fa fn K mg) : Binds K (fdOf K (Pl.ad K (.glob "is_integer"))) ["value"] [] := (C.fun_ 6 (d := d_is_integer) rfl).bindsN fun _ _ _ _ _ _ us hl => match us, hl with | [_], _ => rfl
theorem ok_is_integer (C : HF fa fn K mg) : FO cs P w K mg base 1 (.glob "is_integer") ["value"] 1 mf_is_integer := by
  have isi := isi_ok (C.fact 0 rfl)
  have f_int := C.free 3 rfl
  have f_isinstance := C.free 10 rfl
  have f_bool := C.free 25 rfl
  have sc := sc_is_integer
  refine fn_mir (C.fun_ 6 (d := d_is_integer) rfl) sc_is_integer fun cdv A outer s H E p F0 hr => ?_
  exact dBone (dRet (dAndV (dCallB (m_isi isi) call_isi rfl f_isinstance bb_isinstance (dCons (dVar 0) (dCons (dTy rfl f_int bb_int) (dNil)))) (dOneV (dNotV (dCallB (m_isi isi) call_isi rfl f_isinstance bb_isinstance (dCons (dVar 0) (dCons (dTy rfl f_bool bb_bool) (dNil))))))))
theorem bi_is_natural {K : PySem.W.Frag} {mg : Str → Option Value} (C : HF fa fn K mg) : Binds K (fdOf K (Pl.ad K (.glob "is_natural"))) ["value"] [] := (C.fun_ 7 (d := d_is_natural) rfl).bindsN fun _ _ _ _ _ _ us hl => match us, hl with | [_], _ => rfl
theorem ok_is_natural (C : HF fa fn K mg) : FO cs P w K mg base 2 (.glob "is_natural") ["value"] 1 mf_is_natural := by
  have G_is_integer := ok_is_integer (P := P) (w := w) (base := base) C
  have F_is_integer := C.fun_ 6 (d := d_is_integer) rfl
  have B_is_integer := bi_is_integer C
  have g_is_integer := C.glo 26 rfl
  have sc := sc_is_natural
  refine fn_mir (C.fun_ 7 (d := d_is_natural) rfl) sc_is_natural fun cdv A outer s H E p F0 hr => ?_
  exact dBone (dRet (dAndV (dCall G_is_integer (hr.mono (by decide)) rfl g_is_integer F_is_integer.kp B_is_integer (dCons (dVar 0) (dNil))) (dOneV (dCmp op_ge m_ge (dVar 0) (dInt) (nomark _)))))
theorem bi_Card___init__ {K : PySem.W.Frag} {mg : Str → Option Value} (C : HF fa fn K mg) : Binds K (fdOf K (Pl.ad K (.meth "Card" "__init__"))) ["self", "balance", "limit"] [] := (C.fun_ 8 (d := d_Card___init__) rfl).bindsN fun _ _ _ _ _ _ us hl => match us, hl with | [_, _, _], _ => rfl
theorem ok_Card___init__ (C : HF fa fn K mg) : FnOk P w K mg base CX0 3 (Pl.ad K (.meth "Card" "__init__")) (fdOf K (Pl.ad K (.meth "Card" "__init__"))) ["self", "balance", "limit"] (spI (WW cs K) "Card" 2 mf_Card___init__) := by
  have G_is_natural := ok_is_natural (P := P) (w := w) (base := base) C
  have F_is_natural := C.fun_ 7 (d := d_is_natural) rfl
  have B_is_natural := bi_is_natural C
  have g_is_natural := C.glo 27 rfl
  obtain ⟨_, k_MOST_DAYS⟩ := C.int 28 rfl
  have n_Card_held := C.noat 29 rfl
  have c_Card := C.cls 30 rfl
  have n_Card_daily := C.noat 31 rfl
  have sc := sc_Card___init__
  refine fn_init (ck := "Card") (nm := "self") (N := ["balance", "limit"]) (n := 2) (C.fun_ 8 (d := d_Card___init__) rfl) sc_Card___init__ rfl fun cdv A outer s H E p F0 H0 sf hr => ?_
  exact dBcons (dIfS (dNotT (dTst (dCall G_is_natural (hr.mono (by decide)) rfl g_is_natural F_is_natural.kp B_is_natural (dCons (dVar 1) (dNil))))) (dBone (dNever)) (dBnil)) (dBcons (dIfS (PW.pt (dOrT (dNotT (dTst (dCall G_is_natural (hr.mono (by decide)) rfl g_is_natural F_is_natural.kp B_is_natural (dCons (dVar 2) (dNil))))) (dOr1 (dTcmp (op_eqD hr.units) m_eq (dVar 2) (dInt) (nomark _))))) (dBone (dNever)) (dBnil)) (dBcons (dIfS (dTcmp op_gt m_gt (dVar 1) (dBin op_mulA m_mul (dGI rfl k_MOST_DAYS) (dVar 2)) (nomark _)) (dBone (dNever)) (dBnil)) (dBcons (dSelfSet (ck := "Card") 0 c_Card n_Card_held (dVar 1)) (dBone (dSelfSet (ck := "Card") 0 c_Card n_Card_daily (dVar 2))))))
theorem bi__law_shutet {K : PySem.W.Frag} {mg : Str → Option Value} (C : HF fa fn K mg) : Binds K (fdOf K (Pl.ad K (.glob "_law_shutet"))) ["_law_amounts"] [] := (C.fun_ 9 (d := d__law_shutet) rfl).bindsN fun _ _ _ _ _ _ us hl => match us, hl with | [_], _ => rfl
theorem ok__law_shutet (C : HF fa fn K mg) : FO cs P w K mg base 5 (.glob "_law_shutet") ["_law_amounts"] 1 mf__law_shutet := by
  have G_Wallet___init__ := ok_Wallet___init__ (P := P) (w := w) (base := base) C
  have F_Wallet___init__ := C.fun_ 5 (d := d_Wallet___init__) rfl
  have B_Wallet___init__ := bi_Wallet___init__ C
  have m_Wallet := C.mkr 24 rfl
  have f_len := C.free 12 rfl
  have f_range := C.free 1 rfl
  have G_Card___init__ := ok_Card___init__ (P := P) (w := w) (base := base) C
  have F_Card___init__ := C.fun_ 8 (d := d_Card___init__) rfl
  have B_Card___init__ := bi_Card___init__ C
  have m_Card := C.mkr 32 rfl
  have g_Card := C.glo 20 rfl
  have f_tuple := C.free 9 rfl
  have g_Wallet := C.glo 33 rfl
  have sc := sc__law_shutet
  refine fn_mir (C.fun_ 9 (d := d__law_shutet) rfl) sc__law_shutet fun cdv A outer s H E p F0 hr => ?_
  exact dBcons (dSet (i := 1) sc.nd rfl (by first | exact Or.inl rfl | exact Or.inr rfl) (dFz (dLstO (dCons (dStr) (dCons (dStr) (dCons (dStr) (dCons (dStr) (dCons (dStr) (dCons (dStr) (dCons (dStr) (dCons (dStr) (dCons (dStr) (dCons (dStr) (dCons (dStr) (dCons (dStr) (dNil)))))))))))))))) (dBone (dRet (dMake (ck := "Wallet") hc_Wallet m_Wallet G_Wallet___init__ (hr.mono (by decide)) rfl g_Wallet B_Wallet___init__ (dCons (dCallT m_tup call_tuple_of rfl f_tuple bb_tuple (dCons (dFz (dLcO (own := [("_law_k", 2)]) rfl sc.nd (dIrng1 rfl f_range (dCons (dCallB m_len call_lenA rfl f_len bb_len (dCons (dVar 0) (dNil))) (dNil))) (blkOk_by (by kernel_rfl)) (fun _ _ _ _ _ => dGn (i := 2) sc.nd rfl (by first | exact Or.inl rfl | exact Or.inr rfl)) (fun _ _ _ _ _ => dYes) (fun _ _ _ _ _ => dTup (dCons (dIx ix_seq m_ix (dVar 1) (dVar 2)) (dCons (dMake (ck := "Card") hc_Card m_Card G_Card___init__ (hr.mono (by decide)) rfl g_Card B_Card___init__ (dCons (dIx ix_seq m_ix (dIx ix_seq m_ix (dVar 0) (dVar 2)) (dInt)) (dCons (dIx ix_seq m_ix (dIx ix_seq m_ix (dVar 0) (dVar 2)) (dInt)) (dNil)))) (dNil)))))) (dNil))) (dNil)))))
theorem bi__law_ways {K : PySem.W.Frag} {mg : Str → Option Value} (C : HF fa fn K mg) : Binds K (fdOf K (Pl.ad K (.glob "_law_ways"))) ["_law_amounts", "_law_cost"] [] := (C.fun_ 10 (d := d__law_ways) rfl).bindsN fun _ _ _ _ _ _ us hl => match us, hl with | [_, _], _ => rfl
theorem ok__law_ways (C : HF fa fn K mg) : FO cs P w K mg base 1 (.glob "_law_ways") ["_law_amounts", "_law_cost"] 2 mf__law_ways := by
  have f_min := C.free 5 rfl
  have f_range := C.free 1 rfl
  have sc := sc__law_ways
  refine fn_mir (C.fun_ 10 (d := d__law_ways) rfl) sc__law_ways fun cdv A outer s H E p F0 hr => ?_
  exact dBcons (dSet (i := 2) sc.nd rfl (by first | exact Or.inl rfl | exact Or.inr rfl) (dFz (dLstO (dCons (dTup (dCons (dTup (dNil)) (dCons (dVar 1) (dNil)))) (dNil))))) (dBcons (dFor PassesOwn.never rfl (dIany (dVar 0)) (dGt (n := 2) rfl (dGcons (dGn (i := 3) sc.nd rfl (by first | exact Or.inl rfl | exact Or.inr rfl)) (dGcons (dGn (i := 4) sc.nd rfl (by first | exact Or.inl rfl | exact Or.inr rfl)) (dGnil)))) (dBcons (dSet (i := 5) sc.nd rfl (by first | exact Or.inl rfl | exact Or.inr rfl) (dFz (dLstO (dNil)))) (dBcons (dFor PassesOwn.never rfl (dIany (dVar 2)) (dGt (n := 2) rfl (dGcons (dGn (i := 6) sc.nd rfl (by first | exact Or.inl rfl | exact Or.inr rfl)) (dGcons (dGn (i := 7) sc.nd rfl (by first | exact Or.inl rfl | exact Or.inr rfl)) (dGnil)))) (dBone (dSet (i := 5) sc.nd rfl (by first | exact Or.inl rfl | exact Or.inr rfl) (dBin op_addA m_add (dVar 5) (dFz (dLcO (own := [("_law_k", 8)]) rfl sc.nd (dIrng1 rfl f_range (dCons (dBin op_addA m_add (dCallB m_min3 (cr_min3 rfl) rfl f_min bb_min (dCons (dVar 3) (dCons (dVar 4) (dCons (dVar 7) (dNil))))) (dInt)) (dNil))) (blkOk_by (by kernel_rfl)) (fun _ _ _ _ _ => dGn (i := 8) sc.nd rfl (by first | exact Or.inl rfl | exact Or.inr rfl)) (fun _ _ _ _ _ => dYes) (fun _ _ _ _ _ => dTup (dCons (dBin op_addA m_add (dVar 6) (dTup (dCons (dVar 8) (dNil)))) (dCons (dBin op_sub m_sub (dVar 7) (dVar 8)) (dNil)))))))))) (dBone (dSet (i := 2) sc.nd rfl (by first | exact Or.inl rfl | exact Or.inr rfl) (dVar 5)))))) (dBone (dRet (dFz (dLcO (own := [("_law_some", 6), ("_law_rest", 7)]) rfl sc.nd (dIany (dVar 2)) (blkOk_by (by kernel_rfl)) (fun _ _ _ _ _ => dGt (n := 2) rfl (dGcons (dGn (i := 6) sc.nd rfl (by first | exact Or.inl rfl | exact Or.inr rfl)) (dGcons (dGn (i := 7) sc.nd rfl (by first | exact Or.inl rfl | exact Or.inr rfl)) (dGnil)))) (fun _ _ _ _ _ => pts_one (dTcmp (op_eqD hr.units) m_eq (dVar 7) (dInt) (nomark _))) (fun _ _ _ _ _ => dVar 6))))))
theorem bi__law_falling {K : PySem.W.Frag} {mg : Str → Option Value} (C : HF fa fn K mg) : Binds K (fdOf K (Pl.ad K (.glob "_law_falling"))) ["_law_total", "_law_most"] [] := (C.fun_ 11 (d := d__law_falling) rfl).bindsN fun _ _ _ _ _ _ us hl => match us, hl with | [_, _], _ => rfl
theorem ok__law_falling (C : HF fa fn K mg) : FO cs P w K mg base 1 (.glob "_law_falling") ["_law_total", "_law_most"] 2 mf__law_falling := by
  have f_min := C.free 5 rfl
  have f_range := C.free 1 rfl
  have sc := sc__law_falling
  refine fn_mir (C.fun_ 11 (d := d__law_falling) rfl) sc__law_falling fun cdv A outer s H E p F0 hr => ?_
  exact dBcons (dPar (i := 2) (j := 3) rfl sc.nd rfl rfl (by decide) rfl rfl (dMow (dLstO (dNil)) (dMsh (dFz (dLstO (dCons (dTup (dCons (dTup (dNil)) (dCons (dVar 0) (dCons (dVar 1) (dNil))))) (dNil)))) (dMnil)))) (dBcons (dWhile 100000 PassesOwn.never (dTcmp (op_neD hr.units) m_ne (dVar 3) (dFz (dLstO (dNil))) (nomark _)) (dBcons (dAsg (dIx ix_seq m_ix (dVar 3) (dUn un_neg m_neg (dInt))) (dGt (n := 3) rfl (dGcons (dGn (i := 4) sc.nd rfl (by first | exact Or.inl rfl | exact Or.inr rfl)) (dGcons (dGn (i := 5) sc.nd rfl (by first | exact Or.inl rfl | exact Or.inr rfl)) (dGcons (dGn (i := 6) sc.nd rfl (by first | exact Or.inl rfl | exact Or.inr rfl)) (dGnil)))))) (dBcons (dSet (i := 3) sc.nd rfl (by first | exact Or.inl rfl | exact Or.inr rfl) (dSl (dVar 3) (dOn) (dOs (dUn un_neg m_neg (dInt))))) (dBcons (dApp 2 (dVar 4)) (dBone (dSet (i := 3) sc.nd rfl (by first | exact Or.inl rfl | exact Or.inr rfl) (dBin op_addA m_add (dVar 3) (dFz (dLcO (own := [("_law_k", 7)]) rfl sc.nd (dIrng2 rfl f_range (dCons (dInt) (dCons (dBin op_addA m_add (dCallB m_min (cr_minA rfl) rfl f_min bb_min (dCons (dVar 5) (dCons (dVar 6) (dNil)))) (dInt)) (dNil)))) (blkOk_by (by kernel_rfl)) (fun _ _ _ _ _ => dGn (i := 7) sc.nd rfl (by first | exact Or.inl rfl | exact Or.inr rfl)) (fun _ _ _ _ _ => dYes) (fun _ _ _ _ _ => dTup (dCons (dBin op_addA m_add (dVar 4) (dTup (dCons (dVar 7) (dNil)))) (dCons (dBin op_sub m_sub (dVar 5) (dVar 7)) (dCons (dVar 7) (dNil)))))))))))))) (dBone (dFrzS 2 (dRet (dVar 2)))))
theorem bi__law_behind {K : PySem.W.Frag} {mg : Str → Option Value} (C : HF fa fn K mg) : Binds K (fdOf K (Pl.ad K (.glob "_law_behind"))) ["_law_amounts", "_law_way"] [] := (C.fun_ 12 (d := d__law_behind) rfl).bindsN fun _ _ _ _ _ _ us hl => match us, hl with | [_, _], _ => rfl
theorem ok__law_behind (C : HF fa fn K mg) : FO cs P w K mg base 1 (.glob "_law_behind") ["_law_amounts", "_law_way"] 2 mf__law_behind := by
  have f_len := C.free 12 rfl
  have f_range := C.free 1 rfl
  have sc := sc__law_behind
  refine fn_mir (C.fun_ 12 (d := d__law_behind) rfl) sc__law_behind fun cdv A outer s H E p F0 hr => ?_
  exact dBone (dRet (dFz (dLcO (own := [("_law_k", 2)]) rfl sc.nd (dIrng1 rfl f_range (dCons (dCallB m_len call_lenA rfl f_len bb_len (dCons (dVar 0) (dNil))) (dNil))) (blkOk_by (by kernel_rfl)) (fun _ _ _ _ _ => dGn (i := 2) sc.nd rfl (by first | exact Or.inl rfl | exact Or.inr rfl)) (fun _ _ _ _ _ => dYes) (fun _ _ _ _ _ => dTup (dCons (dBin op_sub m_sub (dIx ix_seq m_ix (dIx ix_seq m_ix (dVar 0) (dVar 2)) (dInt)) (dIx ix_seq m_ix (dVar 1) (dVar 2))) (dCons (dIx ix_seq m_ix (dIx ix_seq m_ix (dVar 0) (dVar 2)) (dInt)) (dNil)))))))
theorem bi__law_pays {K : PySem.W.Frag} {mg : Str → Option Value} (C : HF fa fn K mg) : Binds K (fdOf K (Pl.ad K (.glob "_law_pays"))) ["_law_amounts", "_law_events"] [] := (C.fun_ 13 (d := d__law_pays) rfl).bindsN fun _ _ _ _ _ _ us hl => match us, hl with | [_, _], _ => rfl
theorem ok__law_pays (C : HF fa fn K mg) : FO cs P w K mg base 2 (.glob "_law_pays") ["_law_amounts", "_law_events"] 2 mf__law_pays := by
  have f_tuple := C.free 9 rfl
  have isi := isi_ok (C.fact 0 rfl)
  have f_isinstance := C.free 10 rfl
  have G__law_ways := ok__law_ways (P := P) (w := w) (base := base) C
  have F__law_ways := C.fun_ 10 (d := d__law_ways) rfl
  have B__law_ways := bi__law_ways C
  have g__law_ways := C.glo 35 rfl
  have G__law_behind := ok__law_behind (P := P) (w := w) (base := base) C
  have F__law_behind := C.fun_ 12 (d := d__law_behind) rfl
  have B__law_behind := bi__law_behind C
  have g__law_behind := C.glo 37 rfl
  have f_list := C.free 38 rfl
  have sc := sc__law_pays
  refine fn_mir (C.fun_ 13 (d := d__law_pays) rfl) sc__law_pays fun cdv A outer s H E p F0 hr => ?_
  exact dBcons (dSet (i := 2) sc.nd rfl (by first | exact Or.inl rfl | exact Or.inr rfl) (dFz (dLstO (dCons (dCallT m_tup call_tuple_of rfl f_tuple bb_tuple (dCons (dVar 0) (dNil))) (dNil))))) (dBcons (dFor PassesOwn.never rfl (dIany (dVar 1)) (dGn (i := 3) sc.nd rfl (by first | exact Or.inl rfl | exact Or.inr rfl)) (dBcons (dDNew (i := 4) sc.nd rfl (by first | exact Or.inl rfl | exact Or.inr rfl)) (dBcons (dFor PassesOwn.never rfl (dIany (dVar 2)) (dGn (i := 5) sc.nd rfl (by first | exact Or.inl rfl | exact Or.inr rfl)) (dBone (dIfS (dTst (dCallB (m_isi isi) call_isi rfl f_isinstance bb_isinstance (dCons (dVar 3) (dCons (dTy rfl f_tuple bb_tuple) (dNil))))) (dBone (dDPut 4 (dBl) (dBin op_addA m_add (dVar 5) (dTup (dCons (dVar 3) (dNil)))) (hr.mono (by decide)))) (dBone (dFor PassesOwn.never rfl (dIany (dCall G__law_ways (hr.mono (by decide)) rfl g__law_ways F__law_ways.kp B__law_ways (dCons (dVar 5) (dCons (dVar 3) (dNil))))) (dGn (i := 6) sc.nd rfl (by first | exact Or.inl rfl | exact Or.inr rfl)) (dBone (dDPut 4 (dBl) (dCallT m_tup call_tuple_of rfl f_tuple bb_tuple (dCons (dCall G__law_behind (hr.mono (by decide)) rfl g__law_behind F__law_behind.kp B__law_behind (dCons (dVar 5) (dCons (dVar 6) (dNil)))) (dNil))) (hr.mono (by decide))))))))) (dBone (dFrzDS 4 (dSet (i := 2) sc.nd rfl (by first | exact Or.inl rfl | exact Or.inr rfl) (dFz (dCallTO m_lstX (call_list_dx rfl) rfl f_list bb_list (dCons (dVar 4) (dNil)))))))))) (dBone (dRet (dCmp (op_neD hr.units) m_ne (dVar 2) (dFz (dLstO (dNil))) (nomark _)))))
theorem bi_check_wallet {K : PySem.W.Frag} {mg : Str → Option Value} (C : HF fa fn K mg) : Binds K (fdOf K (Pl.ad K (.glob "check_wallet"))) ["value"] [] := (C.fun_ 14 (d := d_check_wallet) rfl).bindsN fun _ _ _ _ _ _ us hl => match us, hl with | [_], _ => rfl
theorem ok_check_wallet (C : HF fa fn K mg) : FO cs P w K mg base 1 (.glob "check_wallet") ["value"] 1 mf_check_wallet := by
  have isi := isi_ok (C.fact 0 rfl)
  have g_Wallet := C.glo 33 rfl
  have f_isinstance := C.free 10 rfl
  have sc := sc_check_wallet
  refine fn_mir (C.fun_ 14 (d := d_check_wallet) rfl) sc_check_wallet fun cdv A outer s H E p F0 hr => ?_
  exact dBone (dIfS (dNotT (dTst (dCallB (m_isi isi) call_isi rfl f_isinstance bb_isinstance (dCons (dVar 0) (dCons (dGC (k := "Wallet") hc_Wallet rfl g_Wallet) (dNil)))))) (dBone (dNever)) (dBnil))
theorem bi_Wallet_cards {K : PySem.W.Frag} {mg : Str → Option Value} (C : HF fa fn K mg) : Binds K (fdOf K (Pl.ad K (.prop "Wallet" "cards"))) ["self"] [] := (C.fun_ 15 (d := d_Wallet_cards) rfl).bindsN fun _ _ _ _ _ _ us hl => match us, hl with | [_], _ => rfl
theorem ok_Wallet_cards (C : HF fa fn K mg) : FO cs P w K mg base 1 (.prop "Wallet" "cards") ["self"] 1 mf_Wallet_cards := by
  have n_Wallet_pairs := C.noat 22 rfl
  have c_Wallet := C.cls 23 rfl
  have f_tuple := C.free 9 rfl
  have sc := sc_Wallet_cards
  refine fn_mir (C.fun_ 15 (d := d_Wallet_cards) rfl) sc_Wallet_cards fun cdv A outer s H E p F0 hr => ?_
  exact dBone (dRet (dCallT m_tup call_tuple_of rfl f_tuple bb_tuple (dCons (dFz (dLcO (own := [("name", 1), ("card", 2)]) rfl sc.nd (dIany (dFld (ck := "Wallet") (ks := ["pairs"]) 0 rfl (by decide) c_Wallet n_Wallet_pairs (dVar 0))) (blkOk_by (by kernel_rfl)) (fun _ _ _ _ _ => dGt (n := 2) rfl (dGcons (dGn (i := 1) sc.nd rfl (by first | exact Or.inl rfl | exact Or.inr rfl)) (dGcons (dGn (i := 2) sc.nd rfl (by first | exact Or.inl rfl | exact Or.inr rfl)) (dGnil)))) (fun _ _ _ _ _ => dYes) (fun _ _ _ _ _ => dVar 2))) (dNil))))
theorem bi_worth {K : PySem.W.Frag} {mg : Str → Option Value} (C : HF fa fn K mg) : Binds K (fdOf K (Pl.ad K (.glob "worth"))) ["balance", "limit", "days"] [] := (C.fun_ 16 (d := d_worth) rfl).bindsN fun _ _ _ _ _ _ us hl => match us, hl with | [_, _, _], _ => rfl
theorem ok_worth (C : HF fa fn K mg) : FO cs P w K mg base 1 (.glob "worth") ["balance", "limit", "days"] 3 mf_worth := by
  have f_min := C.free 5 rfl
  have sc := sc_worth
  refine fn_mir (C.fun_ 16 (d := d_worth) rfl) sc_worth fun cdv A outer s H E p F0 hr => ?_
  exact dBone (dRet (dCallB m_min (cr_minA rfl) rfl f_min bb_min (dCons (dVar 0) (dCons (dBin op_mulA m_mul (dVar 2) (dVar 1)) (dNil)))))
theorem bi_Card_limit {K : PySem.W.Frag} {mg : Str → Option Value} (C : HF fa fn K mg) : Binds K (fdOf K (Pl.ad K (.prop "Card" "limit"))) ["self"] [] := (C.fun_ 17 (d := d_Card_limit) rfl).bindsN fun _ _ _ _ _ _ us hl => match us, hl with | [_], _ => rfl
theorem ok_Card_limit (C : HF fa fn K mg) : FO cs P w K mg base 1 (.prop "Card" "limit") ["self"] 1 mf_Card_limit := by
  have n_Card_daily := C.noat 31 rfl
  have c_Card := C.cls 30 rfl
  have sc := sc_Card_limit
  refine fn_mir (C.fun_ 17 (d := d_Card_limit) rfl) sc_Card_limit fun cdv A outer s H E p F0 hr => ?_
  exact dBone (dRet (dFld (ck := "Card") (ks := ["held", "daily"]) 1 rfl (by decide) c_Card n_Card_daily (dVar 0)))
theorem bi_Card_balance {K : PySem.W.Frag} {mg : Str → Option Value} (C : HF fa fn K mg) : Binds K (fdOf K (Pl.ad K (.prop "Card" "balance"))) ["self"] [] := (C.fun_ 18 (d := d_Card_balance) rfl).bindsN fun _ _ _ _ _ _ us hl => match us, hl with | [_], _ => rfl
theorem ok_Card_balance (C : HF fa fn K mg) : FO cs P w K mg base 1 (.prop "Card" "balance") ["self"] 1 mf_Card_balance := by
  have n_Card_held := C.noat 29 rfl
  have c_Card := C.cls 30 rfl
  have sc := sc_Card_balance
  refine fn_mir (C.fun_ 18 (d := d_Card_balance) rfl) sc_Card_balance fun cdv A outer s H E p F0 hr => ?_
  exact dBone (dRet (dFld (ck := "Card") (ks := ["held", "daily"]) 0 rfl (by decide) c_Card n_Card_held (dVar 0)))
theorem bi_check_payment {K : PySem.W.Frag} {mg : Str → Option Value} (C : HF fa fn K mg) : Binds K (fdOf K (Pl.ad K (.glob "check_payment"))) ["wallet", "payment"] [] := (C.fun_ 19 (d := d_check_payment) rfl).bindsN fun _ _ _ _ _ _ us hl => match us, hl with | [_, _], _ => rfl
theorem ok_check_payment (C : HF fa fn K mg) : FO cs P w K mg base 3 (.glob "check_payment") ["wallet", "payment"] 2 mf_check_payment := by
  have G_Wallet_cards := ok_Wallet_cards (P := P) (w := w) (base := base) C
  have F_Wallet_cards := C.fun_ 15 (d := d_Wallet_cards) rfl
  have B_Wallet_cards := bi_Wallet_cards C
  have p_Wallet_cards := prop_ok (C.fact 42 rfl)
  have c_Wallet := C.cls 23 rfl
  have isi := isi_ok (C.fact 0 rfl)
  have f_tuple := C.free 9 rfl
  have f_isinstance := C.free 10 rfl
  have f_len := C.free 12 rfl
  have f_enumerate := C.free 11 rfl
  have G_is_natural := ok_is_natural (P := P) (w := w) (base := base) C
  have F_is_natural := C.fun_ 7 (d := d_is_natural) rfl
  have B_is_natural := bi_is_natural C
  have g_is_natural := C.glo 27 rfl
  have G_worth := ok_worth (P := P) (w := w) (base := base) C
  have F_worth := C.fun_ 16 (d := d_worth) rfl
  have B_worth := bi_worth C
  have G_Card_limit := ok_Card_limit (P := P) (w := w) (base := base) C
  have F_Card_limit := C.fun_ 17 (d := d_Card_limit) rfl
  have B_Card_limit := bi_Card_limit C
  have p_Card_limit := prop_ok (C.fact 43 rfl)
  have c_Card := C.cls 30 rfl
  have G_Card_balance := ok_Card_balance (P := P) (w := w) (base := base) C
  have F_Card_balance := C.fun_ 18 (d := d_Card_balance) rfl
  have B_Card_balance := bi_Card_balance C
  have p_Card_balance := prop_ok (C.fact 44 rfl)
  have g_worth := C.glo 45 rfl
  have sc := sc_check_payment
  refine fn_mir (C.fun_ 19 (d := d_check_payment) rfl) sc_check_payment fun cdv A outer s H E p F0 hr => ?_
  exact dBcons (dSet (i := 2) sc.nd rfl (by first | exact Or.inl rfl | exact Or.inr rfl) (dProp (ck := "Wallet") (dVar 0) c_Wallet p_Wallet_cards G_Wallet_cards (hr.mono (by decide)) B_Wallet_cards)) (dBcons (dIfS (PW.pt (dOrT (dNotT (dTst (dCallB (m_isi isi) call_isi rfl f_isinstance bb_isinstance (dCons (dVar 1) (dCons (dTy rfl f_tuple bb_tuple) (dNil)))))) (dOr1 (dTcmp (op_neD hr.units) m_ne (dCallB m_len call_lenA rfl f_len bb_len (dCons (dVar 1) (dNil))) (dCallB m_len call_lenA rfl f_len bb_len (dCons (dVar 2) (dNil))) (nomark _))))) (dBone (dNever)) (dBnil)) (dBone (dFor PassesOwn.never rfl (dIenumA rfl f_enumerate (dCons (dVar 1) (dNil))) (dGt (n := 2) rfl (dGcons (dGn (i := 3) sc.nd rfl (by first | exact Or.inl rfl | exact Or.inr rfl)) (dGcons (dGn (i := 4) sc.nd rfl (by first | exact Or.inl rfl | exact Or.inr rfl)) (dGnil)))) (dBone (dIfS (PW.pt (dOrT (dNotT (dTst (dCall G_is_natural (hr.mono (by decide)) rfl g_is_natural F_is_natural.kp B_is_natural (dCons (dVar 4) (dNil))))) (dOr1 (dTcmp op_gt m_gt (dVar 4) (dCall G_worth (hr.mono (by decide)) rfl g_worth F_worth.kp B_worth (dCons (dProp (ck := "Card") (dIx ix_seq m_ix (dVar 2) (dVar 3)) c_Card p_Card_balance G_Card_balance (hr.mono (by decide)) B_Card_balance) (dCons (dProp (ck := "Card") (dIx ix_seq m_ix (dVar 2) (dVar 3)) c_Card p_Card_limit G_Card_limit (hr.mono (by decide)) B_Card_limit) (dCons (dInt) (dNil))))) (nomark _))))) (dBone (dNever)) (dBnil))))))
theorem bi_number_at {K : PySem.W.Frag} {mg : Str → Option Value} (C : HF fa fn K mg) : Binds K (fdOf K (Pl.ad K (.glob "number_at"))) ["row", "index"] [] := (C.fun_ 20 (d := d_number_at) rfl).bindsN fun _ _ _ _ _ _ us hl => match us, hl with | [_, _], _ => rfl
theorem ok_number_at (C : HF fa fn K mg) : FO cs P w K mg base 1 (.glob "number_at") ["row", "index"] 2 mf_number_at := by
  have f_len := C.free 12 rfl
  have sc := sc_number_at
  refine fn_mir (C.fun_ 20 (d := d_number_at) rfl) sc_number_at fun cdv A outer s H E p F0 hr => ?_
  exact dBone (dRet (dIf (dTcmp op_lt m_lt (dVar 1) (dCallB m_len call_lenA rfl f_len bb_len (dCons (dVar 0) (dNil))) (nomark _)) (dIx ix_seq m_ix (dVar 0) (dVar 1)) (dInt)))
theorem bi_taken {K : PySem.W.Frag} {mg : Str → Option Value} (C : HF fa fn K mg) : Binds K (fdOf K (Pl.ad K (.glob "taken"))) ["row", "bill"] [] := (C.fun_ 21 (d := d_taken) rfl).bindsN fun _ _ _ _ _ _ us hl => match us, hl with | [_, _], _ => rfl
theorem ok_taken (C : HF fa fn K mg) : FO cs P w K mg base 2 (.glob "taken") ["row", "bill"] 2 mf_taken := by
  have f_len := C.free 12 rfl
  have G_number_at := ok_number_at (P := P) (w := w) (base := base) C
  have F_number_at := C.fun_ 20 (d := d_number_at) rfl
  have B_number_at := bi_number_at C
  have g_number_at := C.glo 47 rfl
  have sc := sc_taken
  refine fn_mir (C.fun_ 21 (d := d_taken) rfl) sc_taken fun cdv A outer s H E p F0 hr => ?_
  exact dBcons (dIfS (dTcmp (op_eqD hr.units) m_eq (dVar 1) (dInt) (nomark _)) (dBone (dRet (dVar 0))) (dBnil)) (dBcons (dSet (i := 2) sc.nd rfl (by first | exact Or.inl rfl | exact Or.inr rfl) (dBin op_sub m_sub (dCallB m_len call_lenA rfl f_len bb_len (dCons (dFz (dLcO (own := [("number", 4)]) rfl sc.nd (dIany (dVar 0)) (blkOk_by (by kernel_rfl)) (fun _ _ _ _ _ => dGn (i := 4) sc.nd rfl (by first | exact Or.inl rfl | exact Or.inr rfl)) (fun _ _ _ _ _ => pts_one (dTcmp op_ge m_ge (dVar 4) (dVar 1) (nomark _))) (fun _ _ _ _ _ => dVar 4))) (dNil))) (dInt))) (dBcons (dSet (i := 3) sc.nd rfl (by first | exact Or.inl rfl | exact Or.inr rfl) (dBin op_sub m_sub (dBin op_addA m_add (dIx ix_seq m_ix (dVar 0) (dVar 2)) (dCall G_number_at (hr.mono (by decide)) rfl g_number_at F_number_at.kp B_number_at (dCons (dVar 0) (dCons (dBin op_addA m_add (dVar 2) (dInt)) (dNil))))) (dVar 1))) (dBone (dRet (dBin op_addA m_add (dBin op_addA m_add (dSl (dVar 0) (dOn) (dOs (dVar 2))) (dIf (dTcmp op_gt m_gt (dVar 3) (dInt) (nomark _)) (dTup (dCons (dVar 3) (dNil))) (dTup (dNil)))) (dSl (dVar 0) (dOs (dBin op_addA m_add (dVar 2) (dInt))) (dOn)))))))
theorem bi_wrong_number {K : PySem.W.Frag} {mg : Str → Option Value} (C : HF fa fn K mg) : Binds K (fdOf K (Pl.ad K (.glob "wrong_number"))) ["row"] [] := (C.fun_ 22 (d := d_wrong_number) rfl).bindsN fun _ _ _ _ _ _ us hl => match us, hl with | [_], _ => rfl
theorem ok_wrong_number (C : HF fa fn K mg) : FO cs P w K mg base 3 (.glob "wrong_number") ["row"] 1 mf_wrong_number := by
  have f_enumerate := C.free 11 rfl
  have G_is_natural := ok_is_natural (P := P) (w := w) (base := base) C
  have F_is_natural := C.fun_ 7 (d := d_is_natural) rfl
  have B_is_natural := bi_is_natural C
  have g_is_natural := C.glo 27 rfl
  obtain ⟨_, k_MOST_DAYS⟩ := C.int 28 rfl
  have sc := sc_wrong_number
  refine fn_mir (C.fun_ 22 (d := d_wrong_number) rfl) sc_wrong_number fun cdv A outer s H E p F0 hr => ?_
  exact dBcons (dFor PassesOwn.never rfl (dIenumA rfl f_enumerate (dCons (dVar 0) (dNil))) (dGt (n := 2) rfl (dGcons (dGn (i := 1) sc.nd rfl (by first | exact Or.inl rfl | exact Or.inr rfl)) (dGcons (dGn (i := 2) sc.nd rfl (by first | exact Or.inl rfl | exact Or.inr rfl)) (dGnil)))) (dBcons (dIfS (PW.pt (dOrT (dNotT (dTst (dCall G_is_natural (hr.mono (by decide)) rfl g_is_natural F_is_natural.kp B_is_natural (dCons (dVar 2) (dNil))))) (dOrT (dTcmp (op_eqD hr.units) m_eq (dVar 2) (dInt) (nomark _)) (dOr1 (dTcmp (op_eqD hr.units) m_eq (dVar 1) (dGI rfl k_MOST_DAYS) (nomark _)))))) (dBone (dRet (dVar 1))) (dBnil)) (dBone (dIfS (PW.pt (dAndT (dTcmp op_gt m_gt (dVar 1) (dInt) (nomark _)) (dAnd1 (dTcmp op_gt m_gt (dVar 2) (dIx ix_seq m_ix (dVar 0) (dBin op_sub m_sub (dVar 1) (dInt))) (nomark _))))) (dBone (dRet (dVar 1))) (dBnil))))) (dBone (dRet (dNon)))
theorem bi_Form___init__ {K : PySem.W.Frag} {mg : Str → Option Value} (C : HF fa fn K mg) : Binds K (fdOf K (Pl.ad K (.meth "Form" "__init__"))) ["self", "row"] [] := (C.fun_ 23 (d := d_Form___init__) rfl).bindsN fun _ _ _ _ _ _ us hl => match us, hl with | [_, _], _ => rfl
theorem ok_Form___init__ (C : HF fa fn K mg) : FnOk P w K mg base CX0 4 (Pl.ad K (.meth "Form" "__init__")) (fdOf K (Pl.ad K (.meth "Form" "__init__"))) ["self", "row"] (spI (WW cs K) "Form" 1 mf_Form___init__) := by
  have isi := isi_ok (C.fact 0 rfl)
  have f_tuple := C.free 9 rfl
  have f_isinstance := C.free 10 rfl
  have G_wrong_number := ok_wrong_number (P := P) (w := w) (base := base) C
  have F_wrong_number := C.fun_ 22 (d := d_wrong_number) rfl
  have B_wrong_number := bi_wrong_number C
  have g_wrong_number := C.glo 48 rfl
  have n_Form_numbers := C.noat 49 rfl
  have c_Form := C.cls 50 rfl
  have sc := sc_Form___init__
  refine fn_init (ck := "Form") (nm := "self") (N := ["row", "wrong"]) (n := 1) (C.fun_ 23 (d := d_Form___init__) rfl) sc_Form___init__ rfl fun cdv A outer s H E p F0 H0 sf hr => ?_
  exact dBcons (dIfS (dNotT (dTst (dCallB (m_isi isi) call_isi rfl f_isinstance bb_isinstance (dCons (dVar 1) (dCons (dTy rfl f_tuple bb_tuple) (dNil)))))) (dBone (dNever)) (dBnil)) (dBcons (dSet (i := 2) sc.nd rfl (by first | exact Or.inl rfl | exact Or.inr rfl) (dCall G_wrong_number (hr.mono (by decide)) rfl g_wrong_number F_wrong_number.kp B_wrong_number (dCons (dVar 1) (dNil)))) (dBcons (dIfS (dTcmp op_isntA m_isnt (dVar 2) (dNon) (nomark _)) (dBone (dNever)) (dBnil)) (dBone (dSelfSet (ck := "Form") 0 c_Form n_Form_numbers (dVar 1)))))
theorem bi_part {K : PySem.W.Frag} {mg : Str → Option Value} (C : HF fa fn K mg) : Binds K (fdOf K (Pl.ad K (.glob "part"))) ["balance", "limit", "level"] [] := (C.fun_ 24 (d := d_part) rfl).bindsN fun _ _ _ _ _ _ us hl => match us, hl with | [_, _, _], _ => rfl
theorem ok_part (C : HF fa fn K mg) : FO cs P w K mg base 2 (.glob "part") ["balance", "limit", "level"] 3 mf_part := by
  have G_worth := ok_worth (P := P) (w := w) (base := base) C
  have F_worth := C.fun_ 16 (d := d_worth) rfl
  have B_worth := bi_worth C
  have g_worth := C.glo 45 rfl
  have sc := sc_part
  refine fn_mir (C.fun_ 24 (d := d_part) rfl) sc_part fun cdv A outer s H E p F0 hr => ?_
  exact dBone (dRet (dBin op_sub m_sub (dCall G_worth (hr.mono (by decide)) rfl g_worth F_worth.kp B_worth (dCons (dVar 0) (dCons (dVar 1) (dCons (dBin op_addA m_add (dVar 2) (dInt)) (dNil))))) (dCall G_worth (hr.mono (by decide)) rfl g_worth F_worth.kp B_worth (dCons (dVar 0) (dCons (dVar 1) (dCons (dVar 2) (dNil)))))))
theorem bi_row_of {K : PySem.W.Frag} {mg : Str → Option Value} (C : HF fa fn K mg) : Binds K (fdOf K (Pl.ad K (.glob "row_of"))) ["amounts"] [] := (C.fun_ 25 (d := d_row_of) rfl).bindsN fun _ _ _ _ _ _ us hl => match us, hl with | [_], _ => rfl
theorem ok_row_of (C : HF fa fn K mg) : FO cs P w K mg base 3 (.glob "row_of") ["amounts"] 1 mf_row_of := by
  have G_part := ok_part (P := P) (w := w) (base := base) C
  have F_part := C.fun_ 24 (d := d_part) rfl
  have B_part := bi_part C
  have g_part := C.glo 52 rfl
  have f_sum := C.free 7 rfl
  have f_tuple := C.free 9 rfl
  have sc := sc_row_of
  refine fn_mir (C.fun_ 25 (d := d_row_of) rfl) sc_row_of fun cdv A outer s H E p F0 hr => ?_
  exact dBcons (dSetO (i := 1) sc.nd rfl (by first | exact Or.inl rfl | exact Or.inr rfl) (dLstO (dNil))) (dBcons (dSet (i := 2) sc.nd rfl (by first | exact Or.inl rfl | exact Or.inr rfl) (dInt)) (dBcons (dWhile 100000 PassesOwn.never (dTcmp (op_neD hr.units) m_ne (dFz (dLcO (own := [("balance", 3), ("limit", 4)]) rfl sc.nd (dIany (dVar 0)) (blkOk_by (by kernel_rfl)) (fun _ _ _ _ _ => dGt (n := 2) rfl (dGcons (dGn (i := 3) sc.nd rfl (by first | exact Or.inl rfl | exact Or.inr rfl)) (dGcons (dGn (i := 4) sc.nd rfl (by first | exact Or.inl rfl | exact Or.inr rfl)) (dGnil)))) (fun _ _ _ _ _ => pts_one (dTcmp op_gt m_gt (dVar 3) (dBin op_mulA m_mul (dVar 2) (dVar 4)) (nomark _))) (fun _ _ _ _ _ => dVar 3))) (dFz (dLstO (dNil))) (nomark _)) (dBcons (dApp 1 (dCallB m_sum (cr_sumA rfl) rfl f_sum bb_sum (dCons (dFz (dLcO (own := [("balance", 3), ("limit", 4)]) rfl sc.nd (dIany (dVar 0)) (blkOk_by (by kernel_rfl)) (fun _ _ _ _ _ => dGt (n := 2) rfl (dGcons (dGn (i := 3) sc.nd rfl (by first | exact Or.inl rfl | exact Or.inr rfl)) (dGcons (dGn (i := 4) sc.nd rfl (by first | exact Or.inl rfl | exact Or.inr rfl)) (dGnil)))) (fun _ _ _ _ _ => dYes) (fun _ _ _ _ _ => dCall G_part (hr.mono (by decide)) rfl g_part F_part.kp B_part (dCons (dVar 3) (dCons (dVar 4) (dCons (dVar 2) (dNil))))))) (dNil)))) (dBone (dAug (i := 2) m_addI ip_add sc.nd rfl (by first | exact Or.inl rfl | exact Or.inr rfl) (dInt))))) (dBone (dFrzS 1 (dRet (dCallT m_tup call_tuple_of rfl f_tuple bb_tuple (dCons (dVar 1) (dNil))))))))
theorem bi_Wallet_form {K : PySem.W.Frag} {mg : Str → Option Value} (C : HF fa fn K mg) : Binds K (fdOf K (Pl.ad K (.prop "Wallet" "form"))) ["self"] [] := (C.fun_ 26 (d := d_Wallet_form) rfl).bindsN fun _ _ _ _ _ _ us hl => match us, hl with | [_], _ => rfl
theorem ok_Wallet_form (C : HF fa fn K mg) : FO cs P w K mg base 6 (.prop "Wallet" "form") ["self"] 1 mf_Wallet_form := by
  have G_Form___init__ := ok_Form___init__ (P := P) (w := w) (base := base) C
  have F_Form___init__ := C.fun_ 23 (d := d_Form___init__) rfl
  have B_Form___init__ := bi_Form___init__ C
  have m_Form := C.mkr 51 rfl
  have G_row_of := ok_row_of (P := P) (w := w) (base := base) C
  have F_row_of := C.fun_ 25 (d := d_row_of) rfl
  have B_row_of := bi_row_of C
  have n_Wallet_pairs := C.noat 22 rfl
  have c_Wallet := C.cls 23 rfl
  have n_Card_daily := C.noat 31 rfl
  have c_Card := C.cls 30 rfl
  have n_Card_held := C.noat 29 rfl
  have g_row_of := C.glo 53 rfl
  have g_Form := C.glo 54 rfl
  have sc := sc_Wallet_form
  refine fn_mir (C.fun_ 26 (d := d_Wallet_form) rfl) sc_Wallet_form fun cdv A outer s H E p F0 hr => ?_
  exact dBone (dRet (dMake (ck := "Form") hc_Form m_Form G_Form___init__ (hr.mono (by decide)) rfl g_Form B_Form___init__ (dCons (dCall G_row_of (hr.mono (by decide)) rfl g_row_of F_row_of.kp B_row_of (dCons (dFz (dLcO (own := [("name", 1), ("card", 2)]) rfl sc.nd (dIany (dFld (ck := "Wallet") (ks := ["pairs"]) 0 rfl (by decide) c_Wallet n_Wallet_pairs (dVar 0))) (blkOk_by (by kernel_rfl)) (fun _ _ _ _ _ => dGt (n := 2) rfl (dGcons (dGn (i := 1) sc.nd rfl (by first | exact Or.inl rfl | exact Or.inr rfl)) (dGcons (dGn (i := 2) sc.nd rfl (by first | exact Or.inl rfl | exact Or.inr rfl)) (dGnil)))) (fun _ _ _ _ _ => dYes) (fun _ _ _ _ _ => dTup (dCons (dFld (ck := "Card") (ks := ["held", "daily"]) 0 rfl (by decide) c_Card n_Card_held (dVar 2)) (dCons (dFld (ck := "Card") (ks := ["held", "daily"]) 1 rfl (by decide) c_Card n_Card_daily (dVar 2)) (dNil)))))) (dNil))) (dNil))))
theorem bi_Form_row {K : PySem.W.Frag} {mg : Str → Option Value} (C : HF fa fn K mg) : Binds K (fdOf K (Pl.ad K (.prop "Form" "row"))) ["self"] [] := (C.fun_ 27 (d := d_Form_row) rfl).bindsN fun _ _ _ _ _ _ us hl => match us, hl with | [_], _ => rfl
theorem ok_Form_row (C : HF fa fn K mg) : FO cs P w K mg base 1 (.prop "Form" "row") ["self"] 1 mf_Form_row := by
  have n_Form_numbers := C.noat 49 rfl
  have c_Form := C.cls 50 rfl
  have sc := sc_Form_row
  refine fn_mir (C.fun_ 27 (d := d_Form_row) rfl) sc_Form_row fun cdv A outer s H E p F0 hr => ?_
  exact dBone (dRet (dFld (ck := "Form") (ks := ["numbers"]) 0 rfl (by decide) c_Form n_Form_numbers (dVar 0)))
theorem bi_sums_of {K : PySem.W.Frag} {mg : Str → Option Value} (C : HF fa fn K mg) : Binds K (fdOf K (Pl.ad K (.glob "sums_of"))) ["row"] [] := (C.fun_ 28 (d := d_sums_of) rfl).bindsN fun _ _ _ _ _ _ us hl => match us, hl with | [_], _ => rfl
theorem ok_sums_of (C : HF fa fn K mg) : FO cs P w K mg base 1 (.glob "sums_of") ["row"] 1 mf_sums_of := by
  have sc := sc_sums_of
  refine fn_mir (C.fun_ 28 (d := d_sums_of) rfl) sc_sums_of fun cdv A outer s H E p F0 hr => ?_
  exact dBcons (dSetO (i := 1) sc.nd rfl (by first | exact Or.inl rfl | exact Or.inr rfl) (dLstO (dCons (dInt) (dNil)))) (dBcons (dFor PassesOwn.never rfl (dIany (dVar 0)) (dGn (i := 2) sc.nd rfl (by first | exact Or.inl rfl | exact Or.inr rfl)) (dBone (dApp 1 (dBin op_addA m_add (dIxO 1 (dUn un_neg m_neg (dInt))) (dVar 2))))) (dBone (dFrzS 1 (dRet (dVar 1)))))
theorem bi_even {K : PySem.W.Frag} {mg : Str → Option Value} (C : HF fa fn K mg) : Binds K (fdOf K (Pl.ad K (.glob "even"))) ["total", "many"] [] := (C.fun_ 29 (d := d_even) rfl).bindsN fun _ _ _ _ _ _ us hl => match us, hl with | [_, _], _ => rfl
theorem ok_even (C : HF fa fn K mg) : FO cs P w K mg base 1 (.glob "even") ["total", "many"] 2 mf_even := by
  have f_divmod := C.free 2 rfl
  have f_range := C.free 1 rfl
  have f_tuple := C.free 9 rfl
  have sc := sc_even
  refine fn_mir (C.fun_ 29 (d := d_even) rfl) sc_even fun cdv A outer s H E p F0 hr => ?_
  exact dBcons (dAsg (dCallB m_dm call_divmodW rfl f_divmod bb_divmod (dCons (dVar 0) (dCons (dVar 1) (dNil)))) (dGt (n := 2) rfl (dGcons (dGn (i := 2) sc.nd rfl (by first | exact Or.inl rfl | exact Or.inr rfl)) (dGcons (dGn (i := 3) sc.nd rfl (by first | exact Or.inl rfl | exact Or.inr rfl)) (dGnil))))) (dBone (dRet (dCallT m_tup call_tuple_of rfl f_tuple bb_tuple (dCons (dFz (dLcO (own := [("index", 4)]) rfl sc.nd (dIrng1 rfl f_range (dCons (dVar 1) (dNil))) (blkOk_by (by kernel_rfl)) (fun _ _ _ _ _ => dGn (i := 4) sc.nd rfl (by first | exact Or.inl rfl | exact Or.inr rfl)) (fun _ _ _ _ _ => dYes) (fun _ _ _ _ _ => dIf (dTcmp op_lt m_lt (dVar 4) (dVar 3) (nomark _)) (dBin op_addA m_add (dVar 2) (dInt)) (dVar 2)))) (dNil)))))
theorem bi_parted {K : PySem.W.Frag} {mg : Str → Option Value} (C : HF fa fn K mg) : Binds K (fdOf K (Pl.ad K (.glob "parted"))) ["one", "other"] [] := (C.fun_ 30 (d := d_parted) rfl).bindsN fun _ _ _ _ _ _ us hl => match us, hl with | [_, _], _ => rfl
theorem ok_parted (C : HF fa fn K mg) : FO cs P w K mg base 2 (.glob "parted") ["one", "other"] 2 mf_parted := by
  have G_sums_of := ok_sums_of (P := P) (w := w) (base := base) C
  have F_sums_of := C.fun_ 28 (d := d_sums_of) rfl
  have B_sums_of := bi_sums_of C
  have g_sums_of := C.glo 58 rfl
  have f_len := C.free 12 rfl
  have f_range := C.free 1 rfl
  have f_min := C.free 5 rfl
  have G_even := ok_even (P := P) (w := w) (base := base) C
  have F_even := C.fun_ 29 (d := d_even) rfl
  have B_even := bi_even C
  have g_even := C.glo 59 rfl
  have sc := sc_parted
  refine fn_mir (C.fun_ 30 (d := d_parted) rfl) sc_parted fun cdv A outer s H E p F0 hr => ?_
  exact dBcons (dPar (i := 2) (j := 3) rfl sc.nd rfl rfl (by decide) rfl rfl (dMsh (dCall G_sums_of (hr.mono (by decide)) rfl g_sums_of F_sums_of.kp B_sums_of (dCons (dVar 0) (dNil))) (dMsh (dCall G_sums_of (hr.mono (by decide)) rfl g_sums_of F_sums_of.kp B_sums_of (dCons (dVar 1) (dNil))) (dMnil)))) (dBcons (dFor PassesOwn.never rfl (dIrng2 rfl f_range (dCons (dInt) (dCons (dCallB m_len call_lenA rfl f_len bb_len (dCons (dVar 3) (dNil))) (dNil)))) (dGn (i := 4) sc.nd rfl (by first | exact Or.inl rfl | exact Or.inr rfl)) (dBcons (dSet (i := 5) sc.nd rfl (by first | exact Or.inl rfl | exact Or.inr rfl) (dIx ix_seq m_ix (dVar 2) (dCallB m_min (cr_minA rfl) rfl f_min bb_min (dCons (dVar 4) (dCons (dBin op_sub m_sub (dCallB m_len call_lenA rfl f_len bb_len (dCons (dVar 2) (dNil))) (dInt)) (dNil)))))) (dBone (dIfS (dTcmp op_gt m_gt (dIx ix_seq m_ix (dVar 3) (dVar 4)) (dVar 5) (nomark _)) (dBone (dRet (dCall G_even (hr.mono (by decide)) rfl g_even F_even.kp B_even (dCons (dBin op_addA m_add (dVar 5) (dInt)) (dCons (dVar 4) (dNil)))))) (dBnil))))) (dBone (dRet (dNon))))
theorem bi_left_behind {K : PySem.W.Frag} {mg : Str → Option Value} (C : HF fa fn K mg) : Binds K (fdOf K (Pl.ad K (.glob "left_behind"))) ["amounts", "payment"] [] := (C.fun_ 31 (d := d_left_behind) rfl).bindsN fun _ _ _ _ _ _ us hl => match us, hl with | [_, _], _ => rfl
theorem ok_left_behind (C : HF fa fn K mg) : FO cs P w K mg base 1 (.glob "left_behind") ["amounts", "payment"] 2 mf_left_behind := by
  have f_zip := C.free 60 rfl
  have f_tuple := C.free 9 rfl
  have sc := sc_left_behind
  refine fn_mir (C.fun_ 31 (d := d_left_behind) rfl) sc_left_behind fun cdv A outer s H E p F0 hr => ?_
  exact dBone (dRet (dCallT m_tup call_tuple_of rfl f_tuple bb_tuple (dCons (dFz (dLcO (own := [("paid_here", 2), ("balance", 3), ("limit", 4)]) rfl sc.nd (dIzipA rfl f_zip (dCons (dVar 0) (dCons (dVar 1) (dNil)))) (blkOk_by (by kernel_rfl)) (fun _ _ _ _ _ => dGt (n := 2) rfl (dGcons (dGt (n := 2) rfl (dGcons (dGn (i := 3) sc.nd rfl (by first | exact Or.inl rfl | exact Or.inr rfl)) (dGcons (dGn (i := 4) sc.nd rfl (by first | exact Or.inl rfl | exact Or.inr rfl)) (dGnil)))) (dGcons (dGn (i := 2) sc.nd rfl (by first | exact Or.inl rfl | exact Or.inr rfl)) (dGnil)))) (fun _ _ _ _ _ => dYes) (fun _ _ _ _ _ => dTup (dCons (dBin op_sub m_sub (dVar 3) (dVar 2)) (dCons (dVar 4) (dNil)))))) (dNil))))
theorem bi_amounts_of {K : PySem.W.Frag} {mg : Str → Option Value} (C : HF fa fn K mg) : Binds K (fdOf K (Pl.ad K (.glob "amounts_of"))) ["wallet"] [] := (C.fun_ 32 (d := d_amounts_of) rfl).bindsN fun _ _ _ _ _ _ us hl => match us, hl with | [_], _ => rfl
theorem ok_amounts_of (C : HF fa fn K mg) : FO cs P w K mg base 3 (.glob "amounts_of") ["wallet"] 1 mf_amounts_of := by
  have G_Wallet_cards := ok_Wallet_cards (P := P) (w := w) (base := base) C
  have F_Wallet_cards := C.fun_ 15 (d := d_Wallet_cards) rfl
  have B_Wallet_cards := bi_Wallet_cards C
  have p_Wallet_cards := prop_ok (C.fact 42 rfl)
  have c_Wallet := C.cls 23 rfl
  have G_Card_limit := ok_Card_limit (P := P) (w := w) (base := base) C
  have F_Card_limit := C.fun_ 17 (d := d_Card_limit) rfl
  have B_Card_limit := bi_Card_limit C
  have p_Card_limit := prop_ok (C.fact 43 rfl)
  have c_Card := C.cls 30 rfl
  have G_Card_balance := ok_Card_balance (P := P) (w := w) (base := base) C
  have F_Card_balance := C.fun_ 18 (d := d_Card_balance) rfl
  have B_Card_balance := bi_Card_balance C
  have p_Card_balance := prop_ok (C.fact 44 rfl)
  have f_tuple := C.free 9 rfl
  have sc := sc_amounts_of
  refine fn_mir (C.fun_ 32 (d := d_amounts_of) rfl) sc_amounts_of fun cdv A outer s H E p F0 hr => ?_
  exact dBone (dRet (dCallT m_tup call_tuple_of rfl f_tuple bb_tuple (dCons (dFz (dLcO (own := [("card", 1)]) rfl sc.nd (dIany (dProp (ck := "Wallet") (dVar 0) c_Wallet p_Wallet_cards G_Wallet_cards (hr.mono (by decide)) B_Wallet_cards)) (blkOk_by (by kernel_rfl)) (fun _ _ _ _ _ => dGn (i := 1) sc.nd rfl (by first | exact Or.inl rfl | exact Or.inr rfl)) (fun _ _ _ _ _ => dYes) (fun _ _ _ _ _ => dTup (dCons (dProp (ck := "Card") (dVar 1) c_Card p_Card_balance G_Card_balance (hr.mono (by decide)) B_Card_balance) (dCons (dProp (ck := "Card") (dVar 1) c_Card p_Card_limit G_Card_limit (hr.mono (by decide)) B_Card_limit) (dNil)))))) (dNil))))
theorem bi_lost_row {K : PySem.W.Frag} {mg : Str → Option Value} (C : HF fa fn K mg) : Binds K (fdOf K (Pl.ad K (.glob "lost_row"))) ["wallet", "payment"] [] := (C.fun_ 33 (d := d_lost_row) rfl).bindsN fun _ _ _ _ _ _ us hl => match us, hl with | [_, _], _ => rfl
theorem ok_lost_row (C : HF fa fn K mg) : FO cs P w K mg base 8 (.glob "lost_row") ["wallet", "payment"] 2 mf_lost_row := by
  have G_check_wallet := ok_check_wallet (P := P) (w := w) (base := base) C
  have F_check_wallet := C.fun_ 14 (d := d_check_wallet) rfl
  have B_check_wallet := bi_check_wallet C
  have g_check_wallet := C.glo 41 rfl
  have G_check_payment := ok_check_payment (P := P) (w := w) (base := base) C
  have F_check_payment := C.fun_ 19 (d := d_check_payment) rfl
  have B_check_payment := bi_check_payment C
  have g_check_payment := C.glo 46 rfl
  have G_taken := ok_taken (P := P) (w := w) (base := base) C
  have F_taken := C.fun_ 21 (d := d_taken) rfl
  have B_taken := bi_taken C
  have f_sum := C.free 7 rfl
  have G_Wallet_form := ok_Wallet_form (P := P) (w := w) (base := base) C
  have F_Wallet_form := C.fun_ 26 (d := d_Wallet_form) rfl
  have B_Wallet_form := bi_Wallet_form C
  have p_Wallet_form := prop_ok (C.fact 55 rfl)
  have c_Wallet := C.cls 23 rfl
  have G_Form_row := ok_Form_row (P := P) (w := w) (base := base) C
  have F_Form_row := C.fun_ 27 (d := d_Form_row) rfl
  have B_Form_row := bi_Form_row C
  have p_Form_row := prop_ok (C.fact 56 rfl)
  have c_Form := C.cls 50 rfl
  have g_taken := C.glo 57 rfl
  have G_parted := ok_parted (P := P) (w := w) (base := base) C
  have F_parted := C.fun_ 30 (d := d_parted) rfl
  have B_parted := bi_parted C
  have G_row_of := ok_row_of (P := P) (w := w) (base := base) C
  have F_row_of := C.fun_ 25 (d := d_row_of) rfl
  have B_row_of := bi_row_of C
  have G_left_behind := ok_left_behind (P := P) (w := w) (base := base) C
  have F_left_behind := C.fun_ 31 (d := d_left_behind) rfl
  have B_left_behind := bi_left_behind C
  have G_amounts_of := ok_amounts_of (P := P) (w := w) (base := base) C
  have F_amounts_of := C.fun_ 32 (d := d_amounts_of) rfl
  have B_amounts_of := bi_amounts_of C
  have g_amounts_of := C.glo 61 rfl
  have g_left_behind := C.glo 62 rfl
  have g_row_of := C.glo 53 rfl
  have g_parted := C.glo 63 rfl
  have sc := sc_lost_row
  refine fn_mir (C.fun_ 33 (d := d_lost_row) rfl) sc_lost_row fun cdv A outer s H E p F0 hr => ?_
  exact dBcons (dExpr (dCall G_check_wallet (hr.mono (by decide)) rfl g_check_wallet F_check_wallet.kp B_check_wallet (dCons (dVar 0) (dNil)))) (dBcons (dExpr (dCall G_check_payment (hr.mono (by decide)) rfl g_check_payment F_check_payment.kp B_check_payment (dCons (dVar 0) (dCons (dVar 1) (dNil))))) (dBcons (dSet (i := 2) sc.nd rfl (by first | exact Or.inl rfl | exact Or.inr rfl) (dCall G_taken (hr.mono (by decide)) rfl g_taken F_taken.kp B_taken (dCons (dProp (ck := "Form") (dProp (ck := "Wallet") (dVar 0) c_Wallet p_Wallet_form G_Wallet_form (hr.mono (by decide)) B_Wallet_form) c_Form p_Form_row G_Form_row (hr.mono (by decide)) B_Form_row) (dCons (dCallB m_sum (cr_sumA rfl) rfl f_sum bb_sum (dCons (dVar 1) (dNil))) (dNil))))) (dBone (dRet (dCall G_parted (hr.mono (by decide)) rfl g_parted F_parted.kp B_parted (dCons (dCall G_row_of (hr.mono (by decide)) rfl g_row_of F_row_of.kp B_row_of (dCons (dCall G_left_behind (hr.mono (by decide)) rfl g_left_behind F_left_behind.kp B_left_behind (dCons (dCall G_amounts_of (hr.mono (by decide)) rfl g_amounts_of F_amounts_of.kp B_amounts_of (dCons (dVar 0) (dNil))) (dCons (dVar 1) (dNil)))) (dNil))) (dCons (dVar 2) (dNil))))))))
theorem bi__law_unlike {K : PySem.W.Frag} {mg : Str → Option Value} (C : HF fa fn K mg) : Binds K (fdOf K (Pl.ad K (.glob "_law_unlike"))) ["_law_told", "_law_due"] [] := (C.fun_ 34 (d := d__law_unlike) rfl).bindsN fun _ _ _ _ _ _ us hl => match us, hl with | [_, _], _ => rfl
theorem ok__law_unlike (C : HF fa fn K mg) : FO cs P w K mg base 1 (.glob "_law_unlike") ["_law_told", "_law_due"] 2 mf__law_unlike := by
  have isi := isi_ok (C.fact 0 rfl)
  have f_bool := C.free 25 rfl
  have f_isinstance := C.free 10 rfl
  have sc := sc__law_unlike
  refine fn_mir (C.fun_ 34 (d := d__law_unlike) rfl) sc__law_unlike fun cdv A outer s H E p F0 hr => ?_
  exact dBone (dRet (dOrV (dNotV (dCallB (m_isi isi) call_isi rfl f_isinstance bb_isinstance (dCons (dVar 0) (dCons (dTy rfl f_bool bb_bool) (dNil))))) (dOneV (dCmp (op_neD hr.units) m_ne (dVar 0) (dVar 1) (nomark _)))))
theorem bi_parts {K : PySem.W.Frag} {mg : Str → Option Value} (C : HF fa fn K mg) : Binds K (fdOf K (Pl.ad K (.glob "parts"))) ["amounts", "level"] [] := (C.fun_ 35 (d := d_parts) rfl).bindsN fun _ _ _ _ _ _ us hl => match us, hl with | [_, _], _ => rfl
theorem ok_parts (C : HF fa fn K mg) : FO cs P w K mg base 3 (.glob "parts") ["amounts", "level"] 2 mf_parts := by
  have G_part := ok_part (P := P) (w := w) (base := base) C
  have F_part := C.fun_ 24 (d := d_part) rfl
  have B_part := bi_part C
  have g_part := C.glo 52 rfl
  have f_tuple := C.free 9 rfl
  have sc := sc_parts
  refine fn_mir (C.fun_ 35 (d := d_parts) rfl) sc_parts fun cdv A outer s H E p F0 hr => ?_
  exact dBone (dRet (dCallT m_tup call_tuple_of rfl f_tuple bb_tuple (dCons (dFz (dLcO (own := [("balance", 2), ("limit", 3)]) rfl sc.nd (dIany (dVar 0)) (blkOk_by (by kernel_rfl)) (fun _ _ _ _ _ => dGt (n := 2) rfl (dGcons (dGn (i := 2) sc.nd rfl (by first | exact Or.inl rfl | exact Or.inr rfl)) (dGcons (dGn (i := 3) sc.nd rfl (by first | exact Or.inl rfl | exact Or.inr rfl)) (dGnil)))) (fun _ _ _ _ _ => dYes) (fun _ _ _ _ _ => dCall G_part (hr.mono (by decide)) rfl g_part F_part.kp B_part (dCons (dVar 2) (dCons (dVar 3) (dCons (dVar 1) (dNil))))))) (dNil))))
theorem bi_bounds {K : PySem.W.Frag} {mg : Str → Option Value} (C : HF fa fn K mg) : Binds K (fdOf K (Pl.ad K (.glob "bounds"))) ["amounts", "bill"] [] := (C.fun_ 36 (d := d_bounds) rfl).bindsN fun _ _ _ _ _ _ us hl => match us, hl with | [_, _], _ => rfl
theorem ok_bounds (C : HF fa fn K mg) : FO cs P w K mg base 4 (.glob "bounds") ["amounts", "bill"] 2 mf_bounds := by
  have f_len := C.free 12 rfl
  have f_tuple := C.free 9 rfl
  have G_parts := ok_parts (P := P) (w := w) (base := base) C
  have F_parts := C.fun_ 35 (d := d_parts) rfl
  have B_parts := bi_parts C
  have g_parts := C.glo 65 rfl
  have f_sum := C.free 7 rfl
  have sc := sc_bounds
  refine fn_mir (C.fun_ 36 (d := d_bounds) rfl) sc_bounds fun cdv A outer s H E p F0 hr => ?_
  exact dBcons (dIfS (dTcmp (op_eqD hr.units) m_eq (dVar 1) (dInt) (nomark _)) (dBone (dRet (dTup (dCons (dCallT m_tup call_tuple_of rfl f_tuple bb_tuple (dCons (dBin op_mulA m_mul (dFz (dLstO (dCons (dInt) (dNil)))) (dCallB m_len call_lenA rfl f_len bb_len (dCons (dVar 0) (dNil)))) (dNil))) (dCons (dCallT m_tup call_tuple_of rfl f_tuple bb_tuple (dCons (dBin op_mulA m_mul (dFz (dLstO (dCons (dInt) (dNil)))) (dCallB m_len call_lenA rfl f_len bb_len (dCons (dVar 0) (dNil)))) (dNil))) (dNil)))))) (dBnil)) (dBcons (dSet (i := 2) sc.nd rfl (by first | exact Or.inl rfl | exact Or.inr rfl) (dInt)) (dBcons (dWhile 100000 PassesOwn.never (dTcmp op_ge m_ge (dCallB m_sum (cr_sumA rfl) rfl f_sum bb_sum (dCons (dCall G_parts (hr.mono (by decide)) rfl g_parts F_parts.kp B_parts (dCons (dVar 0) (dCons (dBin op_addA m_add (dVar 2) (dInt)) (dNil)))) (dNil))) (dVar 1) (nomark _)) (dBone (dAug (i := 2) m_addI ip_add sc.nd rfl (by first | exact Or.inl rfl | exact Or.inr rfl) (dInt)))) (dBone (dRet (dTup (dCons (dCall G_parts (hr.mono (by decide)) rfl g_parts F_parts.kp B_parts (dCons (dVar 0) (dCons (dBin op_addA m_add (dVar 2) (dInt)) (dNil)))) (dCons (dCall G_parts (hr.mono (by decide)) rfl g_parts F_parts.kp B_parts (dCons (dVar 0) (dCons (dVar 2) (dNil)))) (dNil))))))))
theorem bi_is_sparing {K : PySem.W.Frag} {mg : Str → Option Value} (C : HF fa fn K mg) : Binds K (fdOf K (Pl.ad K (.glob "is_sparing"))) ["wallet", "payment"] [] := (C.fun_ 37 (d := d_is_sparing) rfl).bindsN fun _ _ _ _ _ _ us hl => match us, hl with | [_, _], _ => rfl
theorem ok_is_sparing (C : HF fa fn K mg) : FO cs P w K mg base 5 (.glob "is_sparing") ["wallet", "payment"] 2 mf_is_sparing := by
  have G_check_wallet := ok_check_wallet (P := P) (w := w) (base := base) C
  have F_check_wallet := C.fun_ 14 (d := d_check_wallet) rfl
  have B_check_wallet := bi_check_wallet C
  have g_check_wallet := C.glo 41 rfl
  have G_check_payment := ok_check_payment (P := P) (w := w) (base := base) C
  have F_check_payment := C.fun_ 19 (d := d_check_payment) rfl
  have B_check_payment := bi_check_payment C
  have g_check_payment := C.glo 46 rfl
  have G_bounds := ok_bounds (P := P) (w := w) (base := base) C
  have F_bounds := C.fun_ 36 (d := d_bounds) rfl
  have B_bounds := bi_bounds C
  have f_sum := C.free 7 rfl
  have G_amounts_of := ok_amounts_of (P := P) (w := w) (base := base) C
  have F_amounts_of := C.fun_ 32 (d := d_amounts_of) rfl
  have B_amounts_of := bi_amounts_of C
  have g_amounts_of := C.glo 61 rfl
  have g_bounds := C.glo 66 rfl
  have f_len := C.free 12 rfl
  have f_range := C.free 1 rfl
  have f_all := C.free 18 rfl
  have sc := sc_is_sparing
  refine fn_mir (C.fun_ 37 (d := d_is_sparing) rfl) sc_is_sparing fun cdv A outer s H E p F0 hr => ?_
  exact dBcons (dExpr (dCall G_check_wallet (hr.mono (by decide)) rfl g_check_wallet F_check_wallet.kp B_check_wallet (dCons (dVar 0) (dNil)))) (dBcons (dExpr (dCall G_check_payment (hr.mono (by decide)) rfl g_check_payment F_check_payment.kp B_check_payment (dCons (dVar 0) (dCons (dVar 1) (dNil))))) (dBcons (dAsg (dCall G_bounds (hr.mono (by decide)) rfl g_bounds F_bounds.kp B_bounds (dCons (dCall G_amounts_of (hr.mono (by decide)) rfl g_amounts_of F_amounts_of.kp B_amounts_of (dCons (dVar 0) (dNil))) (dCons (dCallB m_sum (cr_sumA rfl) rfl f_sum bb_sum (dCons (dVar 1) (dNil))) (dNil)))) (dGt (n := 2) rfl (dGcons (dGn (i := 2) sc.nd rfl (by first | exact Or.inl rfl | exact Or.inr rfl)) (dGcons (dGn (i := 3) sc.nd rfl (by first | exact Or.inl rfl | exact Or.inr rfl)) (dGnil))))) (dBone (dRet (dCallB m_all (cr_all rfl) rfl f_all bb_all (dCons (dFz (dLcO (own := [("k", 4)]) rfl sc.nd (dIrng1 rfl f_range (dCons (dCallB m_len call_lenA rfl f_len bb_len (dCons (dVar 1) (dNil))) (dNil))) (blkOk_by (by kernel_rfl)) (fun _ _ _ _ _ => dGn (i := 4) sc.nd rfl (by first | exact Or.inl rfl | exact Or.inr rfl)) (fun _ _ _ _ _ => dYes) (fun _ _ _ _ _ => dChain op_le m_le op_le m_le (dIx ix_seq m_ix (dVar 2) (dVar 4)) (dIx ix_seq m_ix (dVar 1) (dVar 4)) (dIx ix_seq m_ix (dVar 3) (dVar 4))))) (dNil)))))))
theorem bi__law_right {K : PySem.W.Frag} {mg : Str → Option Value} (C : HF fa fn K mg) : Binds K (fdOf K (Pl.ad K (.glob "_law_right"))) ["_law_purse_here"] [] := (C.fun_ 38 (d := d__law_right) rfl).bindsN fun _ _ _ _ _ _ us hl => match us, hl with | [_], _ => rfl
theorem ok__law_right (C : HF fa fn K mg) : FO cs P w K mg base 9 (.glob "_law_right") ["_law_purse_here"] 1 mf__law_right := by
  have G__law_small := ok__law_small (P := P) (w := w) (base := base) C
  have F__law_small := C.fun_ 1 (d := d__law_small) rfl
  have B__law_small := bi__law_small C
  have g__law_small := C.glo 6 rfl
  have G__law_room := ok__law_room (P := P) (w := w) (base := base) C
  have F__law_room := C.fun_ 2 (d := d__law_room) rfl
  have B__law_room := bi__law_room C
  have g__law_room := C.glo 8 rfl
  have G__law_shutet := ok__law_shutet (P := P) (w := w) (base := base) C
  have F__law_shutet := C.fun_ 9 (d := d__law_shutet) rfl
  have B__law_shutet := bi__law_shutet C
  have g__law_shutet := C.glo 34 rfl
  have G__law_draw := ok__law_draw (P := P) (w := w) (base := base) C
  have F__law_draw := C.fun_ 0 (d := d__law_draw) rfl
  have B__law_draw := bi__law_draw C
  have g__law_draw := C.glo 4 rfl
  have G__law_ways := ok__law_ways (P := P) (w := w) (base := base) C
  have F__law_ways := C.fun_ 10 (d := d__law_ways) rfl
  have B__law_ways := bi__law_ways C
  have g__law_ways := C.glo 35 rfl
  have G__law_falling := ok__law_falling (P := P) (w := w) (base := base) C
  have F__law_falling := C.fun_ 11 (d := d__law_falling) rfl
  have B__law_falling := bi__law_falling C
  have g__law_falling := C.glo 36 rfl
  have G__law_pays := ok__law_pays (P := P) (w := w) (base := base) C
  have F__law_pays := C.fun_ 13 (d := d__law_pays) rfl
  have B__law_pays := bi__law_pays C
  have G__law_behind := ok__law_behind (P := P) (w := w) (base := base) C
  have F__law_behind := C.fun_ 12 (d := d__law_behind) rfl
  have B__law_behind := bi__law_behind C
  have g__law_behind := C.glo 37 rfl
  have g__law_pays := C.glo 39 rfl
  have f_len := C.free 12 rfl
  have f_range := C.free 1 rfl
  have f_any := C.free 40 rfl
  have G_lost_row := ok_lost_row (P := P) (w := w) (base := base) C
  have F_lost_row := C.fun_ 33 (d := d_lost_row) rfl
  have B_lost_row := bi_lost_row C
  have g_lost_row := C.glo 64 rfl
  have G__law_unlike := ok__law_unlike (P := P) (w := w) (base := base) C
  have F__law_unlike := C.fun_ 34 (d := d__law_unlike) rfl
  have B__law_unlike := bi__law_unlike C
  have G_is_sparing := ok_is_sparing (P := P) (w := w) (base := base) C
  have F_is_sparing := C.fun_ 37 (d := d_is_sparing) rfl
  have B_is_sparing := bi_is_sparing C
  have g_is_sparing := C.glo 67 rfl
  have g__law_unlike := C.glo 68 rfl
  have sc := sc__law_right
  refine fn_mir (C.fun_ 38 (d := d__law_right) rfl) sc__law_right fun cdv A outer s H E p F0 hr => ?_
  exact dBcons (dSet (i := 1) sc.nd rfl (by first | exact Or.inl rfl | exact Or.inr rfl) (dCall G__law_small (hr.mono (by decide)) rfl g__law_small F__law_small.kp B__law_small (dCons (dVar 0) (dCons (dInt) (dCons (dInt) (dNil)))))) (dBcons (dPar (i := 2) (j := 3) rfl sc.nd rfl rfl (by decide) rfl rfl (dMsh (dCall G__law_shutet (hr.mono (by decide)) rfl g__law_shutet F__law_shutet.kp B__law_shutet (dCons (dVar 1) (dNil))) (dMsh (dCall G__law_room (hr.mono (by decide)) rfl g__law_room F__law_room.kp B__law_room (dCons (dVar 1) (dCons (dInt) (dNil)))) (dMnil)))) (dBcons (dSet (i := 4) sc.nd rfl (by first | exact Or.inl rfl | exact Or.inr rfl) (dCall G__law_draw (hr.mono (by decide)) rfl g__law_draw F__law_draw.kp B__law_draw (dCons (dVar 0) (dCons (dBin op_addA m_add (dVar 3) (dInt)) (dNil))))) (dBcons (dSet (i := 5) sc.nd rfl (by first | exact Or.inl rfl | exact Or.inr rfl) (dBin op_sub m_sub (dCall G__law_room (hr.mono (by decide)) rfl g__law_room F__law_room.kp B__law_room (dCons (dVar 1) (dCons (dInt) (dNil)))) (dVar 4))) (dBcons (dAsg (dTup (dCons (dCall G__law_falling (hr.mono (by decide)) rfl g__law_falling F__law_falling.kp B__law_falling (dCons (dVar 5) (dCons (dVar 5) (dNil)))) (dCons (dCall G__law_ways (hr.mono (by decide)) rfl g__law_ways F__law_ways.kp B__law_ways (dCons (dVar 1) (dCons (dVar 4) (dNil)))) (dNil)))) (dGt (n := 2) rfl (dGcons (dGn (i := 6) sc.nd rfl (by first | exact Or.inl rfl | exact Or.inr rfl)) (dGcons (dGn (i := 7) sc.nd rfl (by first | exact Or.inl rfl | exact Or.inr rfl)) (dGnil))))) (dBcons (dSet (i := 8) sc.nd rfl (by first | exact Or.inl rfl | exact Or.inr rfl) (dFz (dLcO (own := [("_law_some", 13)]) rfl sc.nd (dIany (dVar 7)) (blkOk_by (by kernel_rfl)) (fun _ _ _ _ _ => dGn (i := 13) sc.nd rfl (by first | exact Or.inl rfl | exact Or.inr rfl)) (fun _ _ _ _ _ => dYes) (fun _ _ _ _ _ => dFz (dLcO (own := [("_law_row", 14)]) rfl sc.nd (dIany (dVar 6)) (blkOk_by (by kernel_rfl)) (fun _ _ _ _ _ => dGn (i := 14) sc.nd rfl (by first | exact Or.inl rfl | exact Or.inr rfl)) (fun _ _ _ _ _ => dYes) (fun _ _ _ _ _ => dCall G__law_pays (hr.mono (by decide)) rfl g__law_pays F__law_pays.kp B__law_pays (dCons (dCall G__law_behind (hr.mono (by decide)) rfl g__law_behind F__law_behind.kp B__law_behind (dCons (dVar 1) (dCons (dVar 13) (dNil)))) (dCons (dVar 14) (dNil))))))))) (dBcons (dLcSet 9 [] (own := [("_law_k", 10)]) rfl sc.nd rfl rfl (sw_true rfl rfl rfl (by kernel_rfl)) (dIrng1 rfl f_range (dCons (dCallB m_len call_lenA rfl f_len bb_len (dCons (dVar 6) (dNil))) (dNil))) (blkOk_by (by kernel_rfl)) (fun _ _ _ _ _ => dGn (i := 10) sc.nd rfl (by first | exact Or.inl rfl | exact Or.inr rfl)) (fun _ _ _ _ _ => dYes) (fun _ _ _ _ _ => dCallB m_any (cr_any rfl) rfl f_any bb_any (dCons (dFz (dLcO (own := [("_law_line", 15)]) rfl sc.nd (dIany (dVar 8)) (blkOk_by (by kernel_rfl)) (fun _ _ _ _ _ => dGn (i := 15) sc.nd rfl (by first | exact Or.inl rfl | exact Or.inr rfl)) (fun _ _ _ _ _ => dYes) (fun _ _ _ _ _ => dIx ix_seq m_ix (dVar 15) (dVar 10)))) (dNil)))) (dBcons (dFor PassesOwn.never rfl (dIrng1 rfl f_range (dCons (dCallB m_len call_lenA rfl f_len bb_len (dCons (dVar 7) (dNil))) (dNil))) (dGn (i := 10) sc.nd rfl (by first | exact Or.inl rfl | exact Or.inr rfl)) (dBcons (dPar (i := 11) (j := 12) rfl sc.nd rfl rfl (by decide) rfl rfl (dMsh (dCall G_lost_row (hr.mono (by decide)) rfl g_lost_row F_lost_row.kp B_lost_row (dCons (dVar 2) (dCons (dIx ix_seq m_ix (dVar 7) (dVar 10)) (dNil)))) (dMsh (dCmp (op_eqD hr.units) m_eq (dIx ix_seq m_ix (dVar 8) (dVar 10)) (dVar 9) (nomark _)) (dMnil)))) (dBcons (dIfS (PW.pt (dOrT (dTst (dCall G__law_unlike (hr.mono (by decide)) rfl g__law_unlike F__law_unlike.kp B__law_unlike (dCons (dCall G_is_sparing (hr.mono (by decide)) rfl g_is_sparing F_is_sparing.kp B_is_sparing (dCons (dVar 2) (dCons (dIx ix_seq m_ix (dVar 7) (dVar 10)) (dNil)))) (dCons (dVar 12) (dNil))))) (dOr1 (dTcmp (op_neD hr.units) m_ne (dCmp op_isA m_is (dVar 11) (dNon) (nomark _)) (dVar 12) (nomark _))))) (dBone (dRet (dBl))) (dBnil)) (dBone (dIfS (dTcmp op_isntA m_isnt (dVar 11) (dNon) (nomark _)) (dBcons (dIfS (PW.pt (dOrT (dTcmp (op_notInD (room65 hr)) m_ninL (dVar 11) (dVar 6) rfl) (dOr1 (dNotT (dTst (dIx ix_seq m_ix (dVar 9) (dIxOf (room65 hr) (dVar 6) (dVar 11)))))))) (dBone (dRet (dBl))) (dBnil)) (dBone (dIfS (dTst (dIx ix_seq m_ix (dIx ix_seq m_ix (dVar 8) (dVar 10)) (dIxOf (room65 hr) (dVar 6) (dVar 11)))) (dBone (dRet (dBl))) (dBnil)))) (dBnil)))))) (dBone (dRet (dAndV (dCmp (op_neD hr.units) m_ne (dVar 7) (dFz (dLstO (dNil))) (nomark _)) (dOneV (dCmp (op_eqD hr.units) m_eq (dCall G_is_sparing (hr.mono (by decide)) rfl g_is_sparing F_is_sparing.kp B_is_sparing (dCons (dVar 2) (dCons (dIx ix_seq m_ix (dVar 7) (dInt)) (dNil)))) (dCmp (op_eqD hr.units) m_eq (dIx ix_seq m_ix (dVar 8) (dInt)) (dVar 9) (nomark _)) (nomark _)))))))))))))
theorem bi__law_purse {K : PySem.W.Frag} {mg : Str → Option Value} (C : HF fa fn K mg) : Binds K (fdOf K (Pl.ad K (.glob "_law_purse"))) ["_law_script", "_law_spot"] [] := (C.fun_ 39 (d := d__law_purse) rfl).bindsN fun _ _ _ _ _ _ us hl => match us, hl with | [_, _], _ => rfl
theorem okL__law_purse (C : HF fa fn K mg) : FnOk P w K mg base CX0 1 (Pl.ad K (.glob "_law_purse")) (fdOf K (Pl.ad K (.glob "_law_purse"))) ["_law_script", "_law_spot"] (spL (WW cs K) 2 mfL__law_purse) := by
  have f_int := C.free 3 rfl
  have f_len := C.free 12 rfl
  have f_abs := C.free 69 rfl
  have sc := sc__law_purse
  refine fn_mirL (C.fun_ 39 (d := d__law_purse) rfl) sc__law_purse fun cdv A outer s H E p F0 hr => ?_
  exact dBcons (dSet (i := 2) sc.nd rfl (by first | exact Or.inl rfl | exact Or.inr rfl) (dBin op_addA m_add (dBin op_mulA m_mul (dInt) (dBin op_addA m_add (dVar 1) (dInt))) (dInt))) (dBcons (dFor PassesOwn.never rfl (dIany (dBin op_addA m_add (dSl (dVar 0) (dOn) (dOs (dInt))) (dSl (dVar 0) (dOs (dVar 1)) (dOs (dBin op_addA m_add (dVar 1) (dInt)))))) (dGn (i := 3) sc.nd rfl (by first | exact Or.inl rfl | exact Or.inr rfl)) (dBone (dSet (i := 2) sc.nd rfl (by first | exact Or.inl rfl | exact Or.inr rfl) (dBin op_mod m_mod (dCallT m_int1 call_int1 rfl f_int bb_int (dCons (dBin op_mulA m_mul (dBin op_addA m_add (dBin op_addA m_add (dBin op_mulA m_mul (dVar 2) (dInt)) (dVar 3)) (dInt)) (dInt)) (dNil))) (dInt))))) (dBcons (dSet (i := 4) sc.nd rfl (by first | exact Or.inl rfl | exact Or.inr rfl) (dIf (dTcmp op_lt m_lt (dVar 1) (dCallB m_len call_lenA rfl f_len bb_len (dCons (dVar 0) (dNil))) (nomark _)) (dIx ix_seq m_ix (dVar 0) (dVar 1)) (dInt))) (dBone (dRetL (dLstO (dCons (dVar 2) (dCons (dIf (dTcmp op_ge m_ge (dCallB m_abs call_abs rfl f_abs bb_abs (dCons (dVar 4) (dNil))) (dBin op_pow m_pow (dInt) (dInt)) (nomark _)) (dCallB m_abs call_abs rfl f_abs bb_abs (dCons (dVar 4) (dNil))) (dInt)) (dNil))))))))
theorem bi_law {K : PySem.W.Frag} {mg : Str → Option Value} (C : HF fa fn K mg) : Binds K (fdOf K (Pl.ad K (.glob "law"))) ["_law_script"] [] := (C.fun_ 40 (d := d_law) rfl).bindsN fun _ _ _ _ _ _ us hl => match us, hl with | [_], _ => rfl
theorem ok_law (C : HF fa fn K mg) : FO cs P w K mg base 10 (.glob "law") ["_law_script"] 1 mf_law := by
  have f_range := C.free 1 rfl
  have G__law_right := ok__law_right (P := P) (w := w) (base := base) C
  have F__law_right := C.fun_ 38 (d := d__law_right) rfl
  have B__law_right := bi__law_right C
  have GL__law_purse := okL__law_purse (P := P) (w := w) (base := base) C
  have F__law_purse := C.fun_ 39 (d := d__law_purse) rfl
  have B__law_purse := bi__law_purse C
  have g__law_purse := C.glo 70 rfl
  have g__law_right := C.glo 71 rfl
  have f_all := C.free 18 rfl
  have sc := sc_law
  refine fn_mir (C.fun_ 40 (d := d_law) rfl) sc_law fun cdv A outer s H E p F0 hr => ?_
  exact dBone (dRet (dCallB m_all (cr_all rfl) rfl f_all bb_all (dCons (dFz (dLcO (own := [("_law_spot", 1)]) rfl sc.nd (dIrng1 rfl f_range (dCons (dInt) (dNil))) (blkOk_by (by kernel_rfl)) (fun _ _ _ _ _ => dGn (i := 1) sc.nd rfl (by first | exact Or.inl rfl | exact Or.inr rfl)) (fun _ _ _ _ _ => dYes) (fun _ _ _ _ _ => dWith G__law_right (hr.mono (by decide)) rfl g__law_right F__law_right.kp B__law_right (dCallL GL__law_purse (hr.mono (by decide)) rfl g__law_purse F__law_purse.kp B__law_purse (dCons (dVar 0) (dCons (dVar 1) (dNil))))))) (dNil))))
theorem glaw (C : HF fa fn K mg) : mg "law" = some (.ref (ga K "law")) := C.glo 72 rfl
theorem flaw (C : HF fa fn K mg) : FunP K d_law := C.fun_ 40 rfl
end
end G39

set_option Elab.async false
set_option linter.all false
set_option maxRecDepth 100000
set_option maxHeartbeats 4000000
/-! P20m: the least falling row above given sums, plain. -/
namespace P20
/-- what must still come on a day: the greatest of the rounded-up means -/
def need (total : Int) (i : Nat) (s : Int) : Int := -((total - s) / ((i : Int) + 1))
/-- k is the greatest of the needs -/
def IsMax (k total : Int) (ss : List Int) : Prop := (∃ i s, ss[i]? = some s ∧ k = need total i s) ∧ ∀ i s, ss[i]? = some s → need total i s ≤ k
theorem need_le {total s k : Int} {i : Nat} (h : need total i s ≤ k) : s - total ≤ k * ((i : Int) + 1) := by
  unfold need at h
  have hp : (0 : Int) < (i : Int) + 1 := by omega
  have h1 : -k ≤ (total - s) / ((i : Int) + 1) := by omega
  have h2 : (-k) * ((i : Int) + 1) ≤ total - s := (Int.le_ediv_iff_mul_le hp).mp h1
  rw [Int.neg_mul] at h2
  omega
theorem need_gt {total s k : Int} {i : Nat} (h : k ≤ need total i s) : (k - 1) * ((i : Int) + 1) < s - total := by
  unfold need at h
  have hp : (0 : Int) < (i : Int) + 1 := by omega
  have h1 : (total - s) / ((i : Int) + 1) < -k + 1 := by omega
  have h2 : total - s < (-k + 1) * ((i : Int) + 1) := Int.lt_mul_of_ediv_lt hp h1
  have e : (-k + 1) * ((i : Int) + 1) = -((k - 1) * ((i : Int) + 1)) := by
    rw [← Int.neg_mul]; congr 1; omega
  rw [e] at h2
  omega
/-- the row as it is built, from the sums ss that are left behind a total -/
inductive Least : Int → List Int → List Int → Prop
  | nil (total : Int) : Least total [] []
  | stop {total k : Int} {ss : List Int} (h : IsMax k total ss) (hk : k ≤ 0) : Least total ss []
  | more {total k s : Int} {ss row : List Int} (h : IsMax k total (s :: ss)) (hk : 0 < k) (r : Least (total + k) ss row) : Least total (s :: ss) (k :: row)
theorem Least.len {t : Int} {ss row : List Int} (h : Least t ss row) : row.length ≤ ss.length := by
  induction h with
  | nil => simp
  | stop => simp
  | more _ _ _ ih => simpa using ih
theorem Least.pos {t : Int} {ss row : List Int} (h : Least t ss row) : ∀ x ∈ row, 0 < x := by
  induction h with
  | nil => simp
  | stop => simp
  | more _ hk _ ih =>
    intro x hx
    rcases List.mem_cons.mp hx with rfl | hx
    · exact hk
    · exact ih x hx
/-- the first number behind a day is at most the day's -/
theorem Least.fall {t k s : Int} {ss row : List Int} (hm : IsMax k t (s :: ss)) (hk : 0 < k) (h : Least (t + k) ss row) : ∀ x, row[0]? = some x → x ≤ k := by
  intro x hx
  cases h with
  | nil => cases hx
  | stop => cases hx
  | more h2 hk2 r =>
    simp at hx
    subst hx
    obtain ⟨⟨i, s2, e, rfl⟩, _⟩ := h2
    have h3 := need_le (hm.2 (i + 1) s2 (by simpa using e))
    have h4 := @need_gt (t + k) s2 _ i (Int.le_refl _)
    apply Decidable.byContradiction
    intro hc
    have h5 : k ≤ need (t + k) i s2 - 1 := by omega
    have h6 : k * ((i : Int) + 1) ≤ (need (t + k) i s2 - 1) * ((i : Int) + 1) := Int.mul_le_mul_of_nonneg_right h5 (by omega)
    have h7 : k * (((i + 1 : Nat) : Int) + 1) = k * ((i : Int) + 1) + k := by
      rw [show (((i + 1 : Nat) : Int) + 1) = ((i : Int) + 1) + 1 by omega, Int.mul_add, Int.mul_one]
    rw [h7] at h3
    omega
theorem Least.falls {t : Int} {ss row : List Int} (h : Least t ss row) : ∀ (k : Nat) (x y : Int), row[k]? = some x → row[k + 1]? = some y → y ≤ x := by
  induction h with
  | nil => intro k x y h; cases h
  | stop => intro k x y h; cases h
  | more hm hk r ih =>
    intro k x y hx hy
    cases k with
    | zero =>
      simp at hx hy
      subst hx
      exact Least.fall hm hk r y (by simpa using hy)
    | succ k => exact ih k x y (by simpa using hx) (by simpa using hy)
/-- sum of the first n numbers -/
def sumN (row : List Int) : Nat → Int
  | 0 => 0
  | n + 1 => row.headD 0 + sumN row.tail n
theorem sumN_nil (n : Nat) : sumN [] n = 0 := by
  induction n with
  | zero => rfl
  | succ n ih => show (0 : Int) + sumN [] n = 0; rw [ih]; rfl
theorem Least.cover {t : Int} {ss row : List Int} (h : Least t ss row) : ∀ (n : Nat) (s : Int), ss[n]? = some s → s ≤ t + sumN row (n + 1) := by
  induction h with
  | nil => intro n s h; cases h
  | @stop t k ss h hk =>
    intro n s e
    rw [sumN_nil]
    have h1 := need_le (h.2 n s e)
    have h2 : k * ((n : Int) + 1) ≤ 0 := by
      have := Int.mul_le_mul_of_nonneg_right hk (show (0 : Int) ≤ (n : Int) + 1 by omega)
      rw [Int.zero_mul] at this
      exact this
    omega
  | @more t k s0 ss row h hk r ih =>
    intro n s e
    cases n with
    | zero =>
      simp at e
      subst e
      have h1 := need_le (h.2 0 s0 rfl)
      show s0 ≤ t + (k + 0)
      have h2 : k * (((0 : Nat) : Int) + 1) = k := by simp
      rw [h2] at h1
      omega
    | succ n =>
      have h1 := ih n s (by simpa using e)
      show s ≤ t + (k + sumN row (n + 1))
      omega
theorem Least.tight {t : Int} {ss row : List Int} (h : Least t ss row) : ∀ (k : Nat) (x : Int), row[k]? = some x → ∃ (i : Nat) (s : Int), ss[k + i]? = some s ∧ t + sumN row k + ((i : Int) + 1) * (x - 1) < s := by
  induction h with
  | nil => intro k x h; cases h
  | stop => intro k x h; cases h
  | @more t m s0 ss row h hk r ih =>
    intro k x e
    cases k with
    | zero =>
      simp at e
      subst e
      obtain ⟨⟨i, s, e1, e2⟩, _⟩ := h
      have h2 := @need_gt t s m i (by omega)
      rw [Int.mul_comm] at h2
      refine ⟨i, s, by simpa using e1, ?_⟩
      show t + 0 + _ < s
      omega
    | succ k =>
      obtain ⟨i, s, e1, h1⟩ := ih k x (by simpa using e)
      refine ⟨i, s, by rw [show k + 1 + i = (k + i) + 1 by omega]; simpa using e1, ?_⟩
      show t + (m + sumN row k) + _ < s
      omega
/-- the least row is one only -/
theorem IsMax.uniq {a b t : Int} {ss : List Int} (h : IsMax a t ss) (k : IsMax b t ss) : a = b := by
  obtain ⟨⟨i, s, e, rfl⟩, h2⟩ := h
  obtain ⟨⟨j, s', e', rfl⟩, k2⟩ := k
  have := h2 _ _ e'
  have := k2 _ _ e
  omega
theorem Least.uniq {t : Int} {ss row row' : List Int} (h : Least t ss row) (k : Least t ss row') : row = row' := by
  induction h generalizing row' with
  | nil =>
    cases k with
    | nil => rfl
    | stop => rfl
  | stop h hk =>
    cases k with
    | nil => rfl
    | stop => rfl
    | more h2 hk2 r => have := h.uniq h2; omega
  | more h hk r ih =>
    cases k with
    | stop h2 hk2 => have := h.uniq h2; omega
    | more h2 hk2 r2 =>
      have := h.uniq h2
      subst this
      rw [ih r2]
/-- a falling row of numbers above 0 is the least one above its own sums -/
def Falls (row : List Int) : Prop := (∀ x ∈ row, 0 < x) ∧ ∀ (k : Nat) (x y : Int), row[k]? = some x → row[k + 1]? = some y → y ≤ x
theorem Falls.tail {x : Int} {row : List Int} (h : Falls (x :: row)) : Falls row := ⟨fun y hy => h.1 y (List.mem_cons_of_mem _ hy), fun k a b e1 e2 => h.2 (k + 1) a b (by simpa using e1) (by simpa using e2)⟩
def sumsFrom (t : Int) : List Int → List Int
  | [] => []
  | x :: row => (t + x) :: sumsFrom (t + x) row
end P20

set_option Elab.async false
set_option linter.all false
set_option maxRecDepth 100000
set_option maxHeartbeats 4000000
namespace Sh
open PySem L2 Mi P20
@[simp] theorem isint_ok {n : Int} {u : PuS} {P : D → PuS → Prop} : Ok (mf_is_integer [.int n]) u P ↔ P (.bl true) u := ok_of rfl
@[simp] theorem isnat_ok {n : Int} {u : PuS} {P : D → PuS → Prop} : Ok (mf_is_natural [.int n]) u P ↔ P (.bl (decide (0 ≤ n))) u := by
  unfold mf_is_natural mb_is_natural
  simp
theorem getI {ns : List Int} {k : Nat} {x : Int} (h : ns[k]? = some x) : atI (ns.map D.int) (k : Int) = some (.int x) := at_nat (by rw [List.getElem?_map, h]; rfl)
/-- a row as forms have it -/
def Good (row : List Int) : Prop := Falls row ∧ row.length ≤ 24
theorem wrong_ok {row : List Int} (h : Good row) {u : PuS} {P : D → PuS → Prop} (hp : P .non u) : Ok (mf_wrong_number [.tup (row.map D.int)]) u P := by
  unfold mf_wrong_number mb_wrong_number
  simp
  refine ok_list (enumD (row.map D.int)) (fun k ρ u' => u' = u ∧ ∃ t w, ρ = [.sh (.tup (row.map D.int)), t, w]) ?_ ?_ _ _ ⟨rfl, _, _, rfl⟩
  · rintro k d ρ u' e ⟨rfl, t, w, rfl⟩
    obtain ⟨x, ex, rfl⟩ := enumD_ints e
    have hk : k < row.length := (List.getElem?_eq_some_iff.mp ex).1
    have hx : 0 < x := h.1.1 x (List.mem_of_getElem? ex)
    have h24 := h.2
    unfold lb_wrong_number_1
    have h1 : ¬ (k : Int) = 24 := by omega
    have h2 : ¬ x = 0 := by omega
    have h3 : 0 ≤ x := by omega
    by_cases h0 : 0 < k
    · obtain ⟨j, rfl⟩ : ∃ j, k = j + 1 := ⟨k - 1, by omega⟩
      have ej : row[j]? = some row[j] := List.getElem?_eq_getElem (by omega)
      have hle := h.1.2 j _ _ ej ex
      have e1 : atI (row.map D.int) (((j + 1 : Nat) : Int) - 1) = some (.int row[j]) := by
        rw [show (((j + 1 : Nat) : Int) - 1) = (j : Int) by omega]
        exact getI ej
      have h5 : ¬ row[j] < x := by omega
      simp at h1 e1
      simp [h1, h2, h3, h0, e1, h5]
    · have h0' : k = 0 := by omega
      subst h0'
      simp [h2, h3]
  · rintro ρ u' ⟨rfl, t, w, rfl⟩
    simpa using hp
theorem init_ok {row : List Int} (h : Good row) {u : PuS} {P : List Str × List D → PuS → Prop} (hp : P (["numbers"], [.tup (row.map D.int)]) u) : Ok (mf_Form___init__ [.tup (row.map D.int)]) u P := by
  unfold mf_Form___init__ mb_Form___init__
  have e : isiD [.tup (row.map D.int), .ty "tuple"] = some (.bl true) := rfl
  simp [startI, e]
  refine wrong_ok h ?_
  have e2 : isntD .non .non = some (.bl false) := rfl
  simp [e2]
  exact ⟨[], [], ⟨rfl, rfl⟩, by simp, by decide, hp⟩
/-- the needs of the days behind k -/
def nd (ns : List Int) (k : Nat) (t : Int) (i : Nat) : Int := need t i ((ns.drop k).getD i 0)
/-- a form as data -/
def formD (row : List Int) : D := .obj "Form" ["numbers"] [.tup (row.map D.int)]
@[simp] theorem row_ok' {row : List Int} {u : PuS} {P : D → PuS → Prop} : Ok (mf_Form_row [.obj "Form" ["numbers"] [.tup (row.map D.int)]]) u P ↔ P (.tup (row.map D.int)) u := by
  unfold mf_Form_row mb_Form_row
  simp
theorem sums_of_ok {row : List Int} (hl : row.length ≤ 24) {u : PuS} {P : D → PuS → Prop} (hp : P (.lst ((0 :: sumsFrom 0 row).map D.int)) u) : Ok (mf_sums_of [.tup (row.map D.int)]) u P := by
  unfold mf_sums_of mb_sums_of
  simp
  refine ok_list (row.map D.int) (fun k ρ u' => u' = u ∧ ∃ (pre : List Int) (t : Int) (w : Sd), pre.length = k ∧ (pre ++ [t]) ++ sumsFrom t (row.drop k) = 0 :: sumsFrom 0 row ∧ ρ = [.sh (.tup (row.map D.int)), .ow ((pre ++ [t]).map D.int), w]) ?_ ?_ _ _ ⟨rfl, [], 0, _, rfl, rfl, rfl⟩
  · rintro k d ρ u' e ⟨rfl, pre, t, w, hk, hs, rfl⟩
    have hkl : k < row.length := by have := (List.getElem?_eq_some_iff.mp e).1; simpa using this
    have ed : d = .int row[k] := by rw [List.getElem?_map, List.getElem?_eq_getElem hkl] at e; exact (Option.some.inj e).symm
    subst ed
    unfold lb_sums_of_1
    have e1 : atI ((pre ++ [t]).map D.int) (-1) = some (.int t) := by rw [List.map_append]; exact at_last
    simp at e1
    simp [e1]
    refine ⟨by omega, pre ++ [t], by simp [hk], ?_, by simp⟩
    rw [← hs, List.drop_eq_getElem_cons hkl]
    simp [sumsFrom]
  · rintro ρ u' ⟨rfl, pre, t, w, hk, hs, rfl⟩
    rw [List.length_map] at hk
    rw [List.drop_eq_nil_of_le (by simp)] at hs
    simp only [sumsFrom, List.append_nil] at hs
    rw [← hs] at hp
    simpa using hp
theorem sumsFrom_len : ∀ (row : List Int) (t : Int), (sumsFrom t row).length = row.length
  | [], _ => rfl
  | x :: row, t => congrArg Nat.succ (sumsFrom_len row (t + x))
end Sh

set_option Elab.async false
set_option linter.all false
set_option maxRecDepth 100000
set_option maxHeartbeats 4000000
/-! W2m: what cards can pay, plain. -/
namespace P20
theorem mono_mul {a b l : Int} (h : a ≤ b) (hl : 0 ≤ l) : a * l ≤ b * l := Int.mul_le_mul_of_nonneg_right h hl
/-- what a card can pay in k days -/
def wor (b l : Int) (k : Nat) : Int := min b ((k : Int) * l)
/-- what cards can pay in k days -/
def FF (am : List (Int × Int)) (k : Nat) : Int := (am.map fun q => wor q.1 q.2 k).sum
/-- cards as they may be -/
def Am (am : List (Int × Int)) : Prop := ∀ q ∈ am, 1 ≤ q.2 ∧ 0 ≤ q.1 ∧ q.1 ≤ 24 * q.2
theorem Am.tail {q : Int × Int} {am : List (Int × Int)} (h : Am (q :: am)) : Am am := fun x hx => h x (List.mem_cons_of_mem _ hx)
theorem Am.nil : Am [] := fun q h => by cases h
theorem Am.cons {q : Int × Int} {am : List (Int × Int)} (h : 1 ≤ q.2 ∧ 0 ≤ q.1 ∧ q.1 ≤ 24 * q.2) (a : Am am) : Am (q :: am) := fun x hx => by
  rcases List.mem_cons.mp hx with rfl | hx
  · exact h
  · exact a x hx
theorem Am.append {am bm : List (Int × Int)} (a : Am am) (b : Am bm) : Am (am ++ bm) := fun x hx => by
  rcases List.mem_append.mp hx with h | h
  · exact a x h
  · exact b x h
theorem FF_nil (k : Nat) : FF [] k = 0 := rfl
theorem FF_cons (q : Int × Int) (am : List (Int × Int)) (k : Nat) : FF (q :: am) k = wor q.1 q.2 k + FF am k := by simp [FF]
theorem FF_append (am bm : List (Int × Int)) (k : Nat) : FF (am ++ bm) k = FF am k + FF bm k := by simp [FF]
theorem wor_zero {b l : Int} (h : 0 ≤ b) : wor b l 0 = 0 := by unfold wor; simp; omega
theorem succ_mul' (k : Nat) (l : Int) : ((k + 1 : Nat) : Int) * l = (k : Int) * l + l := by
  rw [show ((k + 1 : Nat) : Int) = (k : Int) + 1 by omega, Int.add_mul, Int.one_mul]
theorem wor_mono {b l : Int} (hl : 0 ≤ l) (k : Nat) : wor b l k ≤ wor b l (k + 1) := by
  unfold wor
  rw [succ_mul']
  omega
theorem wor_conc {b l : Int} (hl : 0 ≤ l) (k : Nat) : wor b l (k + 2) - wor b l (k + 1) ≤ wor b l (k + 1) - wor b l k := by
  unfold wor
  rw [show k + 2 = (k + 1) + 1 from rfl, succ_mul' (k + 1), succ_mul' k]
  omega
theorem wor_step {b l : Int} (hl : 1 ≤ l) (k : Nat) : wor b l k < wor b l (k + 1) ↔ (k : Int) * l < b := by
  unfold wor
  rw [succ_mul']
  omega
theorem wor_nonneg {b l : Int} (hb : 0 ≤ b) (hl : 0 ≤ l) (k : Nat) : 0 ≤ wor b l k := by
  have : 0 ≤ (k : Int) * l := Int.mul_nonneg (by omega) hl
  unfold wor
  omega
theorem FF_nonneg {am : List (Int × Int)} (h : Am am) (k : Nat) : 0 ≤ FF am k := by
  induction am with
  | nil => simp [FF]
  | cons q am ih =>
    have := ih h.tail
    obtain ⟨h1, h2, h3⟩ := h q List.mem_cons_self
    have := wor_nonneg h2 (by omega : 0 ≤ q.2) k
    rw [FF_cons]
    omega
theorem FF_zero {am : List (Int × Int)} (h : Am am) : FF am 0 = 0 := by
  induction am with
  | nil => rfl
  | cons q am ih => rw [FF_cons, ih h.tail, wor_zero (h q List.mem_cons_self).2.1]; rfl
theorem FF_mono {am : List (Int × Int)} (h : Am am) (k : Nat) : FF am k ≤ FF am (k + 1) := by
  induction am with
  | nil => simp [FF]
  | cons q am ih =>
    have := ih h.tail
    have := wor_mono (b := q.1) (show 0 ≤ q.2 by have := (h q List.mem_cons_self).1; omega) k
    rw [FF_cons, FF_cons]
    omega
theorem FF_conc {am : List (Int × Int)} (h : Am am) (k : Nat) : FF am (k + 2) - FF am (k + 1) ≤ FF am (k + 1) - FF am k := by
  induction am with
  | nil => simp [FF]
  | cons q am ih =>
    have := ih h.tail
    have := wor_conc (b := q.1) (show 0 ≤ q.2 by have := (h q List.mem_cons_self).1; omega) k
    rw [FF_cons, FF_cons, FF_cons]
    omega
/-- on day k + 1 some card can still pay -/
def Mor (am : List (Int × Int)) (k : Nat) : Prop := ∃ q ∈ am, (k : Int) * q.2 < q.1
theorem Mor.less {am : List (Int × Int)} (h : Am am) {k : Nat} : Mor am (k + 1) → Mor am k := by
  rintro ⟨q, hq, h1⟩
  refine ⟨q, hq, ?_⟩
  have := (h q hq).1
  rw [succ_mul'] at h1
  omega
theorem FF_step {am : List (Int × Int)} (h : Am am) (k : Nat) : FF am k < FF am (k + 1) ↔ Mor am k := by
  induction am with
  | nil => simp [FF, Mor]
  | cons q am ih =>
    have ih := ih h.tail
    have h1 := FF_mono h.tail k
    have h0 := (h q List.mem_cons_self).1
    have h2 := wor_mono (b := q.1) (show 0 ≤ q.2 by omega) k
    have h3 := wor_step (b := q.1) h0 k
    rw [FF_cons, FF_cons]
    constructor
    · intro z
      by_cases hq : (k : Int) * q.2 < q.1
      · exact ⟨q, List.mem_cons_self, hq⟩
      · obtain ⟨x, hx, hm⟩ := ih.mp (by omega)
        exact ⟨x, List.mem_cons_of_mem _ hx, hm⟩
    · rintro ⟨x, hx, hm⟩
      rcases List.mem_cons.mp hx with rfl | hx
      · have := h3.mpr hm; omega
      · have := ih.mpr ⟨x, hx, hm⟩; omega
/-- the row of cards: the numbers by which the sums grow, as long as they do -/
def IsRow (am : List (Int × Int)) (row : List Int) : Prop := ∃ d : Nat, d ≤ 24 ∧ (∀ k, k < d → Mor am k) ∧ ¬ Mor am d ∧ row = (List.range d).map fun k => FF am (k + 1) - FF am k
theorem Am.stop {am : List (Int × Int)} (h : Am am) : ¬ Mor am 24 := by
  rintro ⟨q, hq, h1⟩
  have := (h q hq).2.2
  omega
theorem sumN_app : ∀ (n : Nat) (row : List Int), sumN row (n + 1) = sumN row n + row.getD n 0
  | 0, row => by cases row <;> simp [sumN]
  | n + 1, row => by
    show row.headD 0 + sumN row.tail (n + 1) = (row.headD 0 + sumN row.tail n) + row.getD (n + 1) 0
    rw [sumN_app n row.tail]
    have : row.getD (n + 1) 0 = row.tail.getD n 0 := by cases row <;> simp
    omega
theorem Mor.from {am : List (Int × Int)} (h : Am am) {d : Nat} (hd : ¬ Mor am d) : ∀ k, d ≤ k → ¬ Mor am k := by
  intro k hk
  induction k with
  | zero => have : d = 0 := by omega
            subst this; exact hd
  | succ k ih =>
    by_cases e : d = k + 1
    · subst e; exact hd
    · exact fun z => ih (by omega) (z.less h)
theorem FF_flat {am : List (Int × Int)} (h : Am am) {d : Nat} (hd : ¬ Mor am d) : ∀ k, d ≤ k → FF am k = FF am d := by
  intro k hk
  induction k with
  | zero => have : d = 0 := by omega
            subst this; rfl
  | succ k ih =>
    by_cases e : d = k + 1
    · subst e; rfl
    · have h1 := ih (by omega)
      have h2 := Mor.from h hd k (by omega)
      have h3 := FF_mono h k
      have h4 := mt (FF_step h k).mp h2
      omega
theorem IsRow.sum {am : List (Int × Int)} (h : Am am) {row : List Int} (r : IsRow am row) : ∀ n, sumN row n = FF am n := by
  obtain ⟨d, hd, h1, h2, rfl⟩ := r
  intro n
  induction n with
  | zero => rw [FF_zero h]; rfl
  | succ n ih =>
    rw [sumN_app, ih]
    by_cases hn : n < d
    · have : ((List.range d).map fun k => FF am (k + 1) - FF am k).getD n 0 = FF am (n + 1) - FF am n := by
        rw [List.getD_eq_getElem?_getD, List.getElem?_map, List.getElem?_range hn]; rfl
      omega
    · have : ((List.range d).map fun k => FF am (k + 1) - FF am k).getD n 0 = 0 := by
        rw [List.getD_eq_getElem?_getD, List.getElem?_eq_none (by simp; omega)]; rfl
      have := FF_flat h h2 n (by omega)
      have := FF_flat h h2 (n + 1) (by omega)
      omega
theorem IsRow.len {am : List (Int × Int)} {row : List Int} (r : IsRow am row) : row.length ≤ 24 := by
  obtain ⟨d, hd, h1, h2, rfl⟩ := r
  simpa using hd
theorem IsRow.falls {am : List (Int × Int)} (h : Am am) {row : List Int} (r : IsRow am row) : Falls row := by
  obtain ⟨d, hd, h1, h2, rfl⟩ := r
  refine ⟨fun x hx => ?_, fun k x y hx hy => ?_⟩
  · obtain ⟨k, hk, rfl⟩ := List.mem_map.mp hx
    have := (FF_step h k).mpr (h1 k (List.mem_range.mp hk))
    omega
  · rw [List.getElem?_map] at hx hy
    have hk : k + 1 < d := by
      by_cases z : k + 1 < d
      · exact z
      · rw [List.getElem?_eq_none (by simp; omega)] at hy; cases hy
    rw [List.getElem?_range (by omega)] at hx
    rw [List.getElem?_range hk] at hy
    cases hx
    cases hy
    exact FF_conc h k
/-- rows of numbers above 0 are told apart by their sums -/
theorem pos_uniq : ∀ {a b : List Int}, (∀ x ∈ a, 0 < x) → (∀ x ∈ b, 0 < x) → (∀ n, sumN a n = sumN b n) → a = b
  | [], [], _, _, _ => rfl
  | [], y :: b, _, hb, h => by
    have h1 := h 1
    have := hb y List.mem_cons_self
    simp [sumN] at h1
    omega
  | x :: a, [], ha, _, h => by
    have h1 := h 1
    have := ha x List.mem_cons_self
    simp [sumN] at h1
    omega
  | x :: a, y :: b, ha, hb, h => by
    have h1 := h 1
    simp [sumN] at h1
    subst h1
    rw [pos_uniq (a := a) (b := b) (fun z hz => ha z (List.mem_cons_of_mem _ hz)) (fun z hz => hb z (List.mem_cons_of_mem _ hz)) fun n => ?_]
    have h2 := h (n + 1)
    simp [sumN] at h2
    exact h2
theorem IsRow.uniq {am : List (Int × Int)} (h : Am am) {row row' : List Int} (r : IsRow am row) (r' : IsRow am row') : row = row' :=
  pos_uniq (r.falls h).1 (r'.falls h).1 fun n => by rw [r.sum h, r'.sum h]
theorem sumN_flat : ∀ (row : List Int) (n : Nat), row.length ≤ n → sumN row n = sumN row row.length
  | [], n, _ => by rw [sumN_nil, sumN_nil]
  | x :: row, 0, h => by simp at h
  | x :: row, n + 1, h => by
    show x + sumN row n = x + sumN row row.length
    rw [sumN_flat row n (by simpa using h)]
theorem sumN_mono {row : List Int} (h : ∀ x ∈ row, 0 ≤ x) : ∀ n, sumN row n ≤ sumN row (n + 1) := by
  intro n
  rw [sumN_app]
  by_cases hn : n < row.length
  · have : 0 ≤ row.getD n 0 := by
      rw [List.getD_eq_getElem?_getD, List.getElem?_eq_getElem hn]
      exact h _ (List.getElem_mem hn)
    omega
  · have : row.getD n 0 = 0 := by rw [List.getD_eq_getElem?_getD, List.getElem?_eq_none (by omega)]; rfl
    omega
theorem sumN_le {row : List Int} (h : ∀ x ∈ row, 0 ≤ x) {m n : Nat} (hmn : m ≤ n) : sumN row m ≤ sumN row n := by
  induction n with
  | zero => have : m = 0 := by omega
            subst this; exact Int.le_refl _
  | succ n ih =>
    by_cases e : m = n + 1
    · subst e; exact Int.le_refl _
    · have := ih (by omega); have := sumN_mono h n; omega
theorem FF_le {am : List (Int × Int)} (h : Am am) {m n : Nat} (hmn : m ≤ n) : FF am m ≤ FF am n := by
  induction n with
  | zero => have : m = 0 := by omega
            subst this; exact Int.le_refl _
  | succ n ih =>
    by_cases e : m = n + 1
    · subst e; exact Int.le_refl _
    · have := ih (by omega); have := FF_mono h n; omega
end P20

set_option Elab.async false
set_option linter.all false
set_option maxRecDepth 100000
set_option maxHeartbeats 4000000
namespace Mi
open PySem L2
/-- a comprehension over data made of plain things, that draws nothing -/
theorem ok_lcm {α : Type} {g : MG} {mt : MT} {me : ME} {ρ : Env} {u : PuS} {xs : List α} {f : α → D} (r : α → Env) (t : α → Bool) (e : α → D) {P : List D → PuS → Prop} (h1 : ∀ x ∈ xs, g (f x) ρ = some (r x)) (h2 : ∀ x ∈ xs, Ok (mt (r x)) u fun b u' => b = t x ∧ u' = u)
    (h3 : ∀ x ∈ xs, t x = true → Ok (me (r x)) u fun b u' => b = e x ∧ u' = u) (h : P ((xs.filter t).map e) u) : Ok (lcD g mt me ρ (xs.map f)) u P := by
  have : lcD g mt me ρ (xs.map f) u = some ((xs.filter t).map e, u) := by
    clear h
    induction xs with
    | nil => rfl
    | cons x xs ih =>
      have ih := ih (fun y hy => h1 y (List.mem_cons_of_mem _ hy)) (fun y hy => h2 y (List.mem_cons_of_mem _ hy)) (fun y hy => h3 y (List.mem_cons_of_mem _ hy))
      refine eq_of_ok ?_
      rw [List.map_cons]
      unfold lcD
      rw [ok_bind, ok_lft]
      refine ⟨_, h1 x List.mem_cons_self, ?_⟩
      rw [ok_bind, ok_of (eq_of_ok (h2 x List.mem_cons_self))]
      cases ht : t x with
      | false =>
        rw [if_neg (by decide), ok_of ih]
        simp [ht]
      | true =>
        rw [if_pos rfl, ok_bind, ok_of (eq_of_ok (h3 x List.mem_cons_self ht)), ok_bind, ok_of ih, ok_pure]
        simp [ht]
  exact (ok_of this).mpr h
/-- .. of all items -/
theorem ok_lca {α : Type} {g : MG} {me : ME} {ρ : Env} {u : PuS} {xs : List α} {f : α → D} (r : α → Env) (e : α → D) {P : List D → PuS → Prop} (h1 : ∀ x ∈ xs, g (f x) ρ = some (r x))
    (h3 : ∀ x ∈ xs, Ok (me (r x)) u fun b u' => b = e x ∧ u' = u) (h : P (xs.map e) u) : Ok (lcD g mYes me ρ (xs.map f)) u P :=
  ok_lcm r (fun _ => true) e h1 (fun x hx => by simp) (fun x hx _ => h3 x hx) (by rw [List.filter_eq_self.mpr fun _ _ => rfl]; exact h)
/-- .. of all items of a range -/
theorem ok_lcra {g : MG} {me : ME} {ρ : Env} {u : PuS} {lo : Int} {n : Nat} (r : Nat → Env) (e : Nat → D) {P : List D → PuS → Prop} (h1 : ∀ i, i < n → g (.int (lo + (i : Nat))) ρ = some (r i))
    (h3 : ∀ i, i < n → Ok (me (r i)) u fun b u' => b = e i ∧ u' = u) (h : P ((List.range n).map e) u) : Ok (lcD g mYes me ρ (rngD lo n)) u P :=
  ok_lcr r (fun _ => true) e h1 (fun i hi => by simp) (fun i hi _ => h3 i hi) (by rw [List.filter_eq_self.mpr fun _ _ => rfl]; exact h)
theorem flatDs_strs (ns : List Str) : flatDs (ns.map D.str) = some (ns.map V.str) := by
  induction ns with
  | nil => rfl
  | cons n ns ih =>
    show (match flatD (.str n), flatDs (ns.map D.str) with
      | some a, some as => some (a :: as)
      | _, _ => none) = _
    rw [ih]; rfl
theorem inV_strs (x : Str) (ns : List Str) : inV (.str x) (ns.map V.str) = decide (x ∈ ns) := by
  induction ns with
  | nil => rfl
  | cons n ns ih =>
    show (eqV (.str n) (.str x) || inV (.str x) (ns.map V.str)) = _
    rw [ih]
    have : eqV (.str n) (.str x) = decide (x = n) := by
      show (n == x) = _
      by_cases h : x = n
      · subst h; simp
      · have : ¬ n = x := fun z => h z.symm
        simp [h, this]
    rw [this]
    by_cases h : x = n <;> simp [h]
@[simp] theorem s_inStrs {x : Str} {ns : List Str} : inD (.str x) (.lst (ns.map D.str)) = some (.bl (decide (x ∈ ns))) := by
  show (inB (.str x) (.lst (ns.map D.str))).map D.bl = _
  have : inB (.str x) (.lst (ns.map D.str)) = (flatDs (ns.map D.str)).map fun ws => inV (.str x) ws := rfl
  rw [this, flatDs_strs]
  show some (D.bl (inV (.str x) (ns.map V.str))) = _
  rw [inV_strs]
@[simp] theorem s_inStrsT {x : Str} {ns : List Str} : inD (.str x) (.tup (ns.map D.str)) = some (.bl (decide (x ∈ ns))) := by
  show (inB (.str x) (.tup (ns.map D.str))).map D.bl = _
  have : inB (.str x) (.tup (ns.map D.str)) = (flatDs (ns.map D.str)).map fun ws => inV (.str x) ws := rfl
  rw [this, flatDs_strs]
  show some (D.bl (inV (.str x) (ns.map V.str))) = _
  rw [inV_strs]
theorem s_sumI {ns : List Int} : sumD [.lst (ns.map D.int)] = some (.int ns.sum) := by
  show (intsD (ns.map D.int)).map (fun ns => D.int ns.sum) = _
  rw [intsD_map]; rfl
theorem s_sumT {ns : List Int} : sumD [.tup (ns.map D.int)] = some (.int ns.sum) := by
  show (intsD (ns.map D.int)).map (fun ns => D.int ns.sum) = _
  rw [intsD_map]; rfl
end Mi
namespace Sh
open PySem L2 Mi P20
def prQd (q : Int × Int) : D := .tup [.int q.1, .int q.2]
def cardD (q : Int × Int) : D := .obj "Card" ["held", "daily"] [.int q.1, .int q.2]
def pairD (x : Str × (Int × Int)) : D := .tup [.str x.1, cardD x.2]
def walD (ps : List (Str × (Int × Int))) : D := .obj "Wallet" ["pairs"] [.tup (ps.map pairD)]
theorem worth_ok {b l : Int} {k : Nat} (hk : k ≤ 1000) {u : PuS} {P : D → PuS → Prop} (h : P (.int (wor b l k)) u) : Ok (mf_worth [.int b, .int l, .int k]) u P := by
  unfold mf_worth mb_worth
  simp
  refine ⟨.inl (.inl (by omega)), ?_⟩
  have : (if (k : Int) * l < b then (k : Int) * l else b) = wor b l k := by unfold wor; split <;> omega
  rw [this]
  exact h
theorem part_ok {b l : Int} {k : Nat} (hk : k < 1000) {u : PuS} {P : D → PuS → Prop} (h : P (.int (wor b l (k + 1) - wor b l k)) u) : Ok (mf_part [.int b, .int l, .int k]) u P := by
  unfold mf_part mb_part
  simp
  refine worth_ok (k := k + 1) (by omega) ?_
  refine worth_ok (by omega) ?_
  simpa using h
theorem card_init {b l : Int} (hl : 1 ≤ l) (hb : 0 ≤ b) (h24 : b ≤ 24 * l) {u : PuS} {P : List Str × List D → PuS → Prop} (h : P (["held", "daily"], [.int b, .int l]) u) : Ok (mf_Card___init__ [.int b, .int l]) u P := by
  unfold mf_Card___init__ mb_Card___init__
  have h1 : 0 ≤ l := by omega
  have h2 : ¬ l = 0 := by omega
  have h3 : ¬ 24 * l < b := by omega
  simp [startI, hb, h1, h2, h3]
  exact ⟨[], [], ⟨rfl, rfl⟩, by simp, by decide, ⟨by simp, by decide⟩, by decide, h⟩
def IsNm (x : Str) : Prop := ∀ u, mf_is_name [.str x] u = some (.bl true, u)
structure Nms (ps : List (Str × (Int × Int))) : Prop where
  len : ps.length ≤ 12
  nd : (ps.map Prod.fst).Nodup
  nm : ∀ p ∈ ps, IsNm p.1
theorem wrong_pair_ok {ps : List (Str × (Int × Int))} (hn : Nms ps) {u : PuS} {P : D → PuS → Prop} (h : P .non u) : Ok (mf_wrong_pair [.tup (ps.map pairD)]) u P := by
  unfold mf_wrong_pair mb_wrong_pair
  simp
  refine ok_list (enumD (ps.map pairD)) (fun k ρ u' => u' = u ∧ ∃ a b c d, ρ = [.sh (.tup (ps.map pairD)), .ow (((ps.take k).map Prod.fst).map D.str), a, b, c, d]) ?_ ?_ _ _ ⟨rfl, _, _, _, _, rfl⟩
  · rintro k d ρ u' e ⟨rfl, a, b, c, d, rfl⟩
    obtain ⟨x, ex, rfl⟩ := enumD_at e
    rw [List.getElem?_map] at ex
    cases e2 : ps[k]? with
    | none => rw [e2] at ex; cases ex
    | some p =>
      rw [e2] at ex
      cases ex
      have hk : k < ps.length := (List.getElem?_eq_some_iff.mp e2).1
      have hl := hn.len
      unfold lb_wrong_pair_1
      have h1 : ¬ (k : Int) = 12 := by omega
      have e3 : isiD [pairD p, .ty "tuple"] = some (.bl true) := rfl
      have e4 : isiD [cardD p.2, .cls "Card"] = some (.bl true) := rfl
      have e5 : ¬ p.1 ∈ (ps.take k).map Prod.fst := by
        intro hm
        have hnd := hn.nd
        have e6 : ps.map Prod.fst = (ps.take k).map Prod.fst ++ p.1 :: (ps.drop (k + 1)).map Prod.fst := by
          have : p = ps[k] := (List.getElem?_eq_some_iff.mp e2).2.symm
          rw [this, ← List.map_cons (f := Prod.fst), ← List.drop_eq_getElem_cons hk, ← List.map_append, List.take_append_drop]
        rw [e6] at hnd
        exact (List.nodup_append.mp hnd).2.2 _ hm _ List.mem_cons_self rfl
      have e7 : (ps.take (k + 1)).map Prod.fst = (ps.take k).map Prod.fst ++ [p.1] := by
        rw [List.take_succ, e2]; simp
      have hlen : ((ps.take k).map Prod.fst).length ≤ 12 := by simp; omega
      rw [e7]
      generalize (ps.take k).map Prod.fst = nk at e5 hlen ⊢
      simp [e3, h1, -List.map_map]
      have e8 : lenD [pairD p] = some (.int 2) := rfl
      simp [e8, -List.map_map]
      refine ⟨_, rfl, ?_⟩
      simp [-List.map_map]
      rw [ok_of (hn.nm p (List.mem_of_getElem? e2) u')]
      simp [e4, e5]
      omega
  · rintro ρ u' ⟨rfl, a, b, c, d, rfl⟩
    simpa using h
theorem wal_init {ps : List (Str × (Int × Int))} (hn : Nms ps) {u : PuS} {P : List Str × List D → PuS → Prop} (h : P (["pairs"], [.tup (ps.map pairD)]) u) : Ok (mf_Wallet___init__ [.tup (ps.map pairD)]) u P := by
  unfold mf_Wallet___init__ mb_Wallet___init__
  have e : isiD [.tup (ps.map pairD), .ty "tuple"] = some (.bl true) := rfl
  simp [startI, e]
  refine wrong_pair_ok hn ?_
  have e2 : isntD .non .non = some (.bl false) := rfl
  simp [e2]
  exact ⟨[], [], ⟨rfl, rfl⟩, by simp, by decide, h⟩
@[simp] theorem check_wallet_ok {ps : List (Str × (Int × Int))} {u : PuS} {P : D → PuS → Prop} : Ok (mf_check_wallet [walD ps]) u P ↔ P .non u := by
  unfold mf_check_wallet mb_check_wallet
  have e : isiD [walD ps, .cls "Wallet"] = some (.bl true) := rfl
  simp [e]
theorem row_of_ok {am : List (Int × Int)} (ha : Am am) (hl : am.length ≤ 1000) {d : D} (hd : itD d = some (am.map prQd)) {u : PuS} {P : D → PuS → Prop} (h : ∀ row, IsRow am row → P (.tup (row.map D.int)) u) : Ok (mf_row_of [d]) u P := by
  unfold mf_row_of mb_row_of
  simp
  refine ok_while (fun n ρ u' => u' = u ∧ ∃ k : Nat, n = 24 - k ∧ k ≤ 24 ∧ (∀ j, j < k → Mor am j) ∧ ∃ a b, ρ = [.sh d, .ow (((List.range k).map fun j => FF am (j + 1) - FF am j).map D.int), .sh (.int k), a, b]) ?_ 24 100000 _ _ (by decide) ⟨rfl, 0, rfl, by omega, fun j hj => by omega, _, _, rfl⟩
  rintro n ρ u' ⟨rfl, k, rfl, hk, hm, a, b, rfl⟩
  simp [hd, -List.map_map]
  refine ⟨by omega, ?_⟩
  refine ok_lcm (fun q => [.sh d, .ow (((List.range k).map fun j => FF am (j + 1) - FF am j).map D.int), .sh (.int k), .sh (.int q.1), .sh (.int q.2)]) (fun q => decide ((k : Int) * q.2 < q.1)) (fun q => .int q.1) ?_ ?_ ?_ ?_
  · intro q hq; rfl
  · intro q hq
    unfold ct_row_of_1
    simp
    exact .inl (.inl (by omega))
  · intro q hq _; simp
  have e1 : (am.filter fun q => decide ((k : Int) * q.2 < q.1)).map (fun q => D.int q.1) = ((am.filter fun q => decide ((k : Int) * q.2 < q.1)).map Prod.fst).map D.int := by rw [List.map_map]; rfl
  rw [e1]
  simp only [s_neL0]
  by_cases hmo : Mor am k
  · have hne : ¬ (am.filter fun q => decide ((k : Int) * q.2 < q.1)).map Prod.fst = [] := by
      intro z
      obtain ⟨q, hq, hm⟩ := hmo
      have : q ∈ am.filter fun q => decide ((k : Int) * q.2 < q.1) := List.mem_filter.mpr ⟨hq, decide_eq_true hm⟩
      rw [List.map_eq_nil_iff.mp z] at this
      cases this
    simp only [hne, decide_false, Bool.not_false, Option.some.injEq, exists_eq_left', onB_bl, br_t]
    have hk24 : k < 24 := by
      rcases Nat.lt_or_ge k 24 with z | z
      · exact z
      · have : k = 24 := by omega
        subst this
        exact absurd hmo ha.stop
    refine ⟨24 - (k + 1), by omega, ?_⟩
    simp [hd, -List.map_map]
    refine ⟨by omega, ?_⟩
    refine ok_lca (fun q => [.sh d, .ow (((List.range k).map fun j => FF am (j + 1) - FF am j).map D.int), .sh (.int k), .sh (.int q.1), .sh (.int q.2)]) (fun q => .int (wor q.1 q.2 (k + 1) - wor q.1 q.2 k)) ?_ ?_ ?_
    · intro q hq; rfl
    · intro q hq
      unfold ce_row_of_2
      simp
      exact part_ok (by omega) ⟨rfl, rfl⟩
    have e2 : (am.map fun q => D.int (wor q.1 q.2 (k + 1) - wor q.1 q.2 k)) = (am.map fun q => wor q.1 q.2 (k + 1) - wor q.1 q.2 k).map D.int := by rw [List.map_map]; rfl
    rw [e2]
    refine ⟨_, s_sumI, ?_⟩
    have e3 : (am.map fun q => wor q.1 q.2 (k + 1) - wor q.1 q.2 k).sum = FF am (k + 1) - FF am k := by
      clear e1 e2 hne hmo hm hd h ha hl
      induction am with
      | nil => rfl
      | cons q am ih => rw [FF_cons, FF_cons, List.map_cons, List.sum_cons, ih]; omega
    rw [e3]
    simp [-List.map_map]
    refine ⟨by omega, k + 1, by omega, by omega, fun j hj => ?_, ?_⟩
    · by_cases e : j = k
      · subst e; exact hmo
      · exact hm j (by omega)
    · rw [List.range_succ, List.map_append, List.map_append]
      simp
  · have hne : (am.filter fun q => decide ((k : Int) * q.2 < q.1)).map Prod.fst = [] := by
      rw [List.map_eq_nil_iff, List.filter_eq_nil_iff]
      intro q hq z
      exact hmo ⟨q, hq, of_decide_eq_true z⟩
    simp only [hne]
    simp [-List.map_map]
    exact h _ ⟨k, hk, hm, hmo, rfl⟩
theorem wform_ok {ps : List (Str × (Int × Int))} (ha : Am (ps.map Prod.snd)) (hl : ps.length ≤ 1000) {u : PuS} {P : D → PuS → Prop} (h : ∀ row, IsRow (ps.map Prod.snd) row → P (formD row) u) : Ok (mf_Wallet_form [walD ps]) u P := by
  unfold mf_Wallet_form mb_Wallet_form walD
  simp
  refine ⟨by omega, ?_⟩
  refine ok_lca (fun p => [.sh (walD ps), .sh (.str p.1), .sh (cardD p.2)]) (fun p => prQd p.2) ?_ ?_ ?_
  · intro p hp; rfl
  · intro p hp
    unfold ce_Wallet_form_1 cardD prQd
    simp
  refine row_of_ok (am := ps.map Prod.snd) ha (by simpa using hl) (by rw [List.map_map]; rfl) fun row hr => ?_
  exact init_ok ⟨hr.falls ha, hr.len⟩ (h row hr)
/-- so many bills with this sum, as even as possible -/
def evn (t : Int) (n : Nat) : List Int := (List.range n).map fun i : Nat => if (i : Int) < t % n then t / n + 1 else t / n
theorem dmC_log {a b : Int} (h : 0 < b) (h2 : b.natAbs.log2 < 8000) : dmC a b = true := by
  unfold dmC
  have e : Builtin.divisionGoesByPylong a b = false := by
    unfold Builtin.divisionGoesByPylong
    simp only []
    have hb : ¬ ((if (b == 0) = true then 0 else b.natAbs.log2 / 30 + 1) > 300) := by
      split
      · omega
      · omega
    simp only [hb, decide_false, Bool.false_and]
  rw [e, decide_eq_true h]; rfl
theorem even_ok {t : Int} {n : Nat} (hn : 0 < n ∧ n ≤ 1000) {u : PuS} {P : D → PuS → Prop} (h : P (.tup ((evn t n).map D.int)) u) : Ok (mf_even [.int t, .int n]) u P := by
  unfold mf_even mb_even
  have e1 : dmC t n = true := dmC_small (by omega)
  simp [e1]
  refine ⟨by omega, by rw [rngD_len]; omega, ?_⟩
  refine ok_lcra (fun i => [.sh (.int t), .sh (.int n), .sh (.int (t / n)), .sh (.int (t % n)), .sh (.int (0 + (i : Nat)))]) (fun i => .int (if (i : Int) < t % n then t / n + 1 else t / n)) ?_ ?_ ?_
  · intro i hi; rfl
  · intro i hi
    unfold ce_even_1
    simp
    refine brd (fun z => ?_) (fun z => ?_)
    · intro; omega
    · intro; omega
  have : (List.range n).map (fun i : Nat => D.int (if (i : Int) < t % n then t / n + 1 else t / n)) = (evn t n).map D.int := by unfold evn; rw [List.map_map]; rfl
  rw [this]
  simpa using h
theorem sumsFrom_at : ∀ (row : List Int) (t : Int) (k : Nat), k < row.length → (sumsFrom t row)[k]? = some (t + sumN row (k + 1))
  | [], t, k, h => by simp at h
  | x :: row, t, 0, h => by simp [sumsFrom, sumN]
  | x :: row, t, k + 1, h => by
    show (sumsFrom (t + x) row)[k]? = some (t + (x + sumN row (k + 1)))
    rw [sumsFrom_at row (t + x) k (by simpa using h)]
    congr 1
    omega
theorem sums_at (row : List Int) (k : Nat) (h : k ≤ row.length) : (0 :: sumsFrom 0 row)[k]? = some (sumN row k) := by
  cases k with
  | zero => rfl
  | succ k =>
    show (sumsFrom 0 row)[k]? = _
    rw [sumsFrom_at row 0 k (by omega)]
    simp
/-- the first day on which the other row has more -/
def Parts (one other : List Int) (r : Option Nat) : Prop := match r with
  | some d => (1 ≤ d ∧ d ≤ other.length) ∧ sumN one d < sumN other d ∧ ∀ j, 1 ≤ j → j < d → sumN other j ≤ sumN one j
  | none => ∀ j, 1 ≤ j → j ≤ other.length → sumN other j ≤ sumN one j
/-- a row or None -/
def optD : Option (List Int) → D := opD fun xs => .tup (xs.map D.int)
@[simp] theorem isN_opt {r : Option (List Int)} : isD (optD r) .non = some (.bl r.isNone) := by cases r <;> rfl
@[simp] theorem isntN_opt {r : Option (List Int)} : isntD (optD r) .non = some (.bl (!r.isNone)) := by cases r <;> rfl
@[simp] theorem eq_opt {a b : Option (List Int)} : eqMD (optD a) (optD b) = some (.bl (decide (a = b))) := EqT.row.eq (by decide) a b
@[simp] theorem ne_opt {a b : Option (List Int)} : neMD (optD a) (optD b) = some (.bl (!decide (a = b))) := EqT.row.ne (by decide) a b
theorem parted_ok {one other : List Int} (h1 : one.length ≤ 24) (h2 : other.length ≤ 24) {u : PuS} {P : D → PuS → Prop} (h : ∀ r, Parts one other r → P (optD (r.map fun d => evn (sumN one d + 1) d)) u) : Ok (mf_parted [.tup (one.map D.int), .tup (other.map D.int)]) u P := by
  unfold mf_parted mb_parted
  simp
  refine sums_of_ok h1 ?_
  refine sums_of_ok h2 ?_
  simp
  refine ⟨by rw [sumsFrom_len]; omega, ?_⟩
  rw [sumsFrom_len]
  refine ok_range 1 other.length (fun k ρ u' => u' = u ∧ (∀ j, 1 ≤ j → j ≤ k → sumN other j ≤ sumN one j) ∧ ∃ a b, ρ = [.sh (.tup (one.map D.int)), .sh (.tup (other.map D.int)), .sh (.lst (.int 0 :: (sumsFrom 0 one).map D.int)), .sh (.lst (.int 0 :: (sumsFrom 0 other).map D.int)), a, b]) ?_ ?_ _ _ ⟨rfl, fun j h1 h2 => by omega, _, _, rfl⟩
  · rintro k ρ u' hk ⟨rfl, hj, a, b, rfl⟩
    unfold lb_parted_1
    have e1 : atI (.int 0 :: (sumsFrom 0 other).map D.int) (1 + (k : Int)) = some (.int (sumN other (k + 1))) := by
      rw [show (1 + (k : Int)) = ((k + 1 : Nat) : Int) by omega]
      exact getI (ns := 0 :: sumsFrom 0 other) (sums_at other (k + 1) (by omega))
    have e2 : atI (.int 0 :: (sumsFrom 0 one).map D.int) (if ((one.length : Int) + 1 - 1) < 1 + (k : Int) then ((one.length : Int) + 1 - 1) else 1 + (k : Int)) = some (.int (sumN one (k + 1))) := by
      split
      · rw [show ((one.length : Int) + 1 - 1) = (one.length : Int) by omega, sumN_flat one (k + 1) (by omega)]
        exact getI (ns := 0 :: sumsFrom 0 one) (sums_at one one.length (Nat.le_refl _))
      · rw [show (1 + (k : Int)) = ((k + 1 : Nat) : Int) by omega]
        exact getI (ns := 0 :: sumsFrom 0 one) (sums_at one (k + 1) (by omega))
    simp at e2
    simp [e1, e2, sumsFrom_len]
    refine brd (fun z => ?_) (fun z => ?_)
    · have := h (some (k + 1)) ⟨⟨by omega, by omega⟩, z, fun j h1 h2 => hj j h1 (by omega)⟩
      rw [show (1 + (k : Int)) = ((k + 1 : Nat) : Int) by omega]
      refine even_ok (by omega) this
    · intro j h1 h2
      by_cases e : j = k + 1
      · subst e; omega
      · exact hj j h1 (by omega)
  · rintro ρ u' ⟨rfl, hj, a, b, rfl⟩
    simp
    exact h none hj
end Sh

set_option Elab.async false
set_option linter.all false
set_option maxRecDepth 100000
set_option maxHeartbeats 4000000
namespace S2
open PySem L2 Mi P20 Sh
def Pu (u : PuS) : Prop := ∃ s x : Int, u = .real [s, x] ∧ 0 ≤ s ∧ s < 2147483648
theorem log_big {n : Int} (h : 0 < n ∧ n < 1000000000000000000000000000000000000000000000000000000000000) : n.natAbs.log2 < 200 := by
  refine (Nat.log2_lt (by omega)).mpr ?_
  have : (2 : Nat) ^ 200 = 1606938044258990275541962092341162602522202993782792835301376 := by decide +kernel
  rw [this]
  omega
theorem draw_ok {n : Int} (hn : 0 < n ∧ n < 1000000000000000000000000000000000000000000000000000000000000) {u : PuS} (hu : Pu u) {P : D → PuS → Prop} (h : ∀ r u', 0 ≤ r → r < n → Pu u' → P (.int r) u') : Ok (mf__law_draw [.pur, .int n]) u P := by
  obtain ⟨s, x, rfl, h1, h2⟩ := hu
  unfold mf__law_draw mb__law_draw
  have hd : dmC x n = true := dmC_log hn.1 (by have := log_big hn; omega)
  simp [atI, ixN, hn.1, hd]
  have hh : ∀ k : Int, 0 ≤ k % n ∧ k % n < n := fun k => ⟨Int.emod_nonneg _ (by omega), Int.emod_lt_of_pos _ hn.1⟩
  refine brd (fun hx => ?_) (fun hx => ?_)
  · exact h _ _ (hh _).1 (hh _).2 ⟨_, _, rfl, h1, h2⟩
  · refine ⟨.inl (.inl (by omega)), h _ _ (hh _).1 (hh _).2 ⟨_, _, rfl, ?_, ?_⟩⟩
    all_goals omega
theorem room_ok {am : List (Int × Int)} (hl : am.length ≤ 1000) {k : Nat} (hk : k ≤ 1000) {u : PuS} {P : D → PuS → Prop} (h : P (.int (FF am k)) u) : Ok (mf__law_room [.lst (am.map prQd), .int k]) u P := by
  unfold mf__law_room mb__law_room
  simp
  refine ⟨by omega, ?_⟩
  refine ok_lca (fun q => [.sh (.lst (am.map prQd)), .sh (.int k), .sh (.int q.1), .sh (.int q.2)]) (fun q => .int (wor q.1 q.2 k)) ?_ ?_ ?_
  · intro q hq; rfl
  · intro q hq
    unfold ce__law_room_1
    simp
    refine ⟨.inl (.inl (by omega)), ?_⟩
    unfold wor; split <;> omega
  have e : (am.map fun q => D.int (wor q.1 q.2 k)) = (am.map fun q => wor q.1 q.2 k).map D.int := by rw [List.map_map]; rfl
  rw [e]
  exact ⟨_, s_sumI, h⟩
@[reducible] def nms : List Str := ["bob", "a", "cc", "zed99999", "ann", "d4", "f", "gus", "h", "ian", "j7j", "k"]
theorem nms_nm : ∀ x ∈ nms, IsNm x := by
  intro x hx u
  simp only [nms, List.mem_cons, List.not_mem_nil, or_false] at hx
  rcases hx with rfl | rfl | rfl | rfl | rfl | rfl | rfl | rfl | rfl | rfl | rfl | rfl <;> rfl
/-- the wallet of these pairs -/
def wal (am : List (Int × Int)) : List (Str × (Int × Int)) := nms.zip am
theorem wal_snd {am : List (Int × Int)} (h : am.length ≤ 12) : (wal am).map Prod.snd = am := by
  unfold wal
  rw [List.map_snd_zip]
  simpa using h
theorem wal_len {am : List (Int × Int)} (h : am.length ≤ 12) : (wal am).length = am.length := by
  unfold wal
  simp
  omega
theorem wal_nms {am : List (Int × Int)} (h : am.length ≤ 12) : Nms (wal am) := by
  refine ⟨by rw [wal_len h]; exact h, ?_, fun p hp => ?_⟩
  · have : (wal am).map Prod.fst = nms.take am.length := by
      apply List.ext_getElem?
      intro i
      unfold wal
      by_cases hi : i < am.length
      · rw [List.getElem?_take_of_lt hi, List.getElem?_map, List.getElem?_eq_getElem (by simp; omega)]
        simp
      · rw [List.getElem?_eq_none (by simp; omega), List.getElem?_eq_none (by simp; omega)]
    rw [this]
    exact (by decide : nms.Nodup).sublist (List.take_sublist _ _)
  · unfold wal at hp
    exact nms_nm _ (List.of_mem_zip hp).1
theorem shutet_ok {am : List (Int × Int)} (h : Am am) (hl : am.length ≤ 12) {u : PuS} {P : D → PuS → Prop} (hp : P (walD (wal am)) u) : Ok (mf__law_shutet [.lst (am.map prQd)]) u P := by
  unfold mf__law_shutet mb__law_shutet
  simp
  refine ⟨by omega, by rw [rngD_len]; omega, ?_⟩
  refine ok_lcra (fun i => [.sh (.lst (am.map prQd)), .sh (.lst (nms.map D.str)), .sh (.int (0 + (i : Nat)))]) (fun i => pairD (nms.getD i "", am.getD i (0, 0))) ?_ ?_ ?_
  · intro i hi; rfl
  · intro i hi
    unfold ce__law_shutet_1
    have e1 : atI (nms.map D.str) (i : Int) = some (.str (nms.getD i "")) := at_nat (by
      rw [List.getElem?_map, List.getD_eq_getElem?_getD, List.getElem?_eq_getElem (by simp; omega)]; rfl)
    have e2 : atI (am.map prQd) (i : Int) = some (prQd (am.getD i (0, 0))) := at_nat (by
      rw [List.getElem?_map, List.getD_eq_getElem?_getD, List.getElem?_eq_getElem hi]; rfl)
    have hm : am.getD i (0, 0) ∈ am := by rw [List.getD_eq_getElem?_getD, List.getElem?_eq_getElem hi]; exact List.getElem_mem hi
    generalize am.getD i (0, 0) = q at e2 hm ⊢
    generalize nms.getD i "" = x at e1 ⊢
    obtain ⟨h1, h2, h3⟩ := h q hm
    have e3 : ixD (prQd q) (.int 0) = some (.int q.1) := rfl
    have e4 : ixD (prQd q) (.int 1) = some (.int q.2) := rfl
    simp only [nms, List.map_cons, List.map_nil] at e1
    simp [e1, e2, e3, e4]
    exact card_init h1 h2 h3 ⟨rfl, rfl⟩
  have e5 : (List.range am.length).map (fun i => pairD (nms.getD i "", am.getD i (0, 0))) = (wal am).map pairD := by
    apply List.ext_getElem?
    intro i
    by_cases hi : i < am.length
    · rw [List.getElem?_map, List.getElem?_range hi, List.getElem?_map, List.getElem?_eq_getElem (l := wal am) (by rw [wal_len hl]; exact hi)]
      unfold wal
      simp
      rw [List.getElem?_eq_getElem (by simp; omega), List.getElem?_eq_getElem hi]
      rfl
    · rw [List.getElem?_eq_none (by simp; omega), List.getElem?_eq_none (by simp [wal_len hl]; omega)]
  rw [e5]
  exact wal_init (wal_nms hl) hp
@[simp] theorem unlike_ok {a b : Bool} {u : PuS} {P : D → PuS → Prop} : Ok (mf__law_unlike [.bl a, .bl b]) u P ↔ P (.bl (a != b)) u := by
  cases a <;> cases b <;> exact ok_of rfl
theorem purse_ok {ns : List Int} {k : Nat} (hk : k < 100) {u : PuS} {P : List D → PuS → Prop} (h : ∀ s x : Int, 0 ≤ s → s < 2147483648 → P ([s, x].map D.int) u) : Ok (mfL__law_purse [.scr ns, .int k]) u P := by
  unfold mfL__law_purse mbL__law_purse
  have e1 : cutD (ns.map D.int) none (some 4) = (ns.take 4).map D.int := by rw [show (4 : Int) = ((4 : Nat) : Int) from rfl, cut_to, List.map_take]
  obtain ⟨zs, e2, hz⟩ : ∃ zs : List Int, cutD (ns.map D.int) (some (k : Int)) (some ((k : Int) + 1)) = zs.map D.int ∧ zs.length ≤ 1 := by
    refine ⟨(ns.drop k).take 1, ?_, by simp; omega⟩
    unfold cutD
    rw [show ((k : Int) + 1) = ((k + 1 : Nat) : Int) by omega, HT.sIx_nat, HT.sIx_nat, List.length_map]
    rcases Nat.lt_or_ge k ns.length with h | h
    · rw [Nat.min_eq_left (by omega), Nat.min_eq_left (by omega), show k + 1 - k = 1 by omega, List.map_take, List.map_drop]
    · rw [Nat.min_eq_right (by omega), Nat.min_eq_right (by omega), List.drop_eq_nil_of_le (by simp), List.drop_eq_nil_of_le h]
      simp
  have e3 : addD (.lst ((ns.take 4).map D.int)) (.lst (zs.map D.int)) = some (.lst ((ns.take 4 ++ zs).map D.int)) := by
    rw [s_addL (by simp; omega), List.map_append]
  simp only [ok_fnL, s_start, List.map_cons, List.map_nil, List.length_cons, List.length_nil, ok_seq, ok_set, ok_bin, ok_C, ok_var, s_vSh, ok_for, ok_Iany, ok_sl, ok_On, ok_Os]
  simp
  rw [e1, e2]
  refine ⟨_, e3, _, rfl, ?_⟩
  refine ok_list ((ns.take 4 ++ zs).map D.int) (fun _ ρ u' => u' = u ∧ ∃ (s : Int) (t w : Sd), ρ = [.sh (.scr ns), .sh (.int k), .sh (.int s), t, w] ∧ 0 ≤ s ∧ s < 2147483648) ?_ ?_ _ _ ⟨rfl, _, _, _, rfl, by omega, by omega⟩
  · rintro j d ρ u' e ⟨rfl, s, t, w, rfl, h1, h2⟩
    rw [List.getElem?_map] at e
    cases e2 : (ns.take 4 ++ zs)[j]? with
    | none => rw [e2] at e; cases e
    | some x =>
      rw [e2] at e
      cases e
      simp
      omega
  · rintro ρ u' ⟨rfl, s, t, w, rfl, h1, h2⟩
    have e4 : ∀ n : Int, absD [.int n] = some (.int (if n < 0 then -n else n)) := fun n => rfl
    have fin : ∀ n : Int, Ok (mRetL (mLstO (mCons (mVar 2) (mCons (mIf (mB (mBin geD (mCB absD (mCons (mVar 4) (mNil))) (mBin powD (mC (.int 10)) (mC (.int 18))))) (mCB absD (mCons (mVar 4) (mNil))) (mC (.int 0))) (mNil)))) [.sh (.scr ns), .sh (.int k), .sh (.int s), t, .sh (.int n)]) u' fun f u1 => match f with
      | .rl d => P d u1
      | _ => False := fun n => by
      simp [e4]
      refine brd (fun _ => ?_) (fun _ => ?_)
      · exact h s _ h1 h2
      · exact h s 0 h1 h2
    simp
    refine brd (fun hl => ?_) (fun hl => ?_)
    · have e5 : atI ns (k : Int) = some ns[k] := at_nat (List.getElem?_eq_getElem hl)
      simp [e5]
      simpa using fin ns[k]
    · simpa using fin 0
theorem law_fin {mf : List D → M D} (h : ∀ ns u, Ok (mf [.scr ns]) u fun d _ => d = .bl true) (ns : List Int) (o : HO) (_ : ns.length ≤ 63) : ∃ u', mf [.scr ns] (.idle o) = some (.bl true, u') := by
  obtain ⟨d, u', e, rfl⟩ := h ns (.idle o)
  exact ⟨u', e⟩
end S2

set_option Elab.async false
set_option linter.all false
set_option maxRecDepth 100000
set_option maxHeartbeats 4000000
/-! K2m: what courses ask, plain. -/
namespace P20
/-- an event: a bill, or a card that comes -/
abbrev Ev := Sum Int (Int × Int)
def isB : Ev → Bool
  | .inl _ => true
  | .inr _ => false
def nB (evs : List Ev) : Nat := (evs.filter isB).length
def nC (evs : List Ev) : Nat := (evs.filter fun e => !isB e).length
theorem nB_inl (x : Int) (r : List Ev) : nB (.inl x :: r) = nB r + 1 := rfl
theorem nB_inr (q : Int × Int) (r : List Ev) : nB (.inr q :: r) = nB r := rfl
/-- sets of days with their worth -/
inductive Sel : Int → List Ev → List Int → Int → Prop
  | nil (i : Int) : Sel i [] [] 0
  | card {i b l v : Int} {rest : List Ev} {s : List Int} (h : Sel (i + 1) rest s v) : Sel i (.inr (b, l) :: rest) s (v - wor b l s.length)
  | skip {i x v : Int} {rest : List Ev} {s : List Int} (h : Sel (i + 1) rest s v) : Sel i (.inl x :: rest) s v
  | take {i x v : Int} {rest : List Ev} {s : List Int} (h : Sel (i + 1) rest s v) : Sel i (.inl x :: rest) (i :: s) (x + v)
/-- one step of the table, at an event with this index -/
def askStep (i : Int) (e : Ev) (best : List (Int × List Int)) : List (Int × List Int) := match e with
  | .inr (b, l) => best.map fun q => (q.1 - wor b l q.2.length, q.2)
  | .inl x =>
    let longer := best.map fun q => (q.1 + x, i :: q.2)
    [best.headD (0, [])] ++ ((List.range (best.length - 1)).map fun k => if (longer.getD k (0, [])).1 ≤ (best.getD (k + 1) (0, [])).1 then best.getD (k + 1) (0, []) else longer.getD k (0, [])) ++ [longer.getLastD (0, [])]
def asked (i : Int) : List Ev → List (Int × List Int)
  | [] => [(0, [])]
  | e :: rest => askStep i e (asked (i + 1) rest)
/-- a table as it should be -/
structure Tab (i : Int) (evs : List Ev) (t : List (Int × List Int)) : Prop where
  len : t.length = nB evs + 1
  at_ : ∀ (k : Nat) (a : Int) (ds : List Int), t[k]? = some (a, ds) → ds.length = k ∧ Sel i evs ds a ∧ ∀ s v, Sel i evs s v → s.length = k → v ≤ a
theorem Sel.len {i : Int} {evs : List Ev} {s : List Int} {v : Int} (h : Sel i evs s v) : s.length ≤ nB evs := by
  induction h with
  | nil => exact Nat.le_refl _
  | card h ih => rw [nB_inr]; exact ih
  | skip h ih => rw [nB_inl]; omega
  | take h ih => rw [nB_inl, List.length_cons]; omega
theorem asked_tab : ∀ (evs : List Ev) (i : Int), Tab i evs (asked i evs)
  | [], i => ⟨rfl, fun k a ds e => by
      cases k with
      | zero =>
        simp [asked] at e
        obtain ⟨rfl, rfl⟩ := e
        exact ⟨rfl, .nil i, fun s v h _ => by cases h; exact Int.le_refl _⟩
      | succ k => simp [asked] at e⟩
  | .inr (b, l) :: rest, i => by
    have ih := asked_tab rest (i + 1)
    refine ⟨?_, fun k a ds e => ?_⟩
    · show ((asked (i + 1) rest).map _).length = _
      rw [List.length_map, ih.len, nB_inr]
    · have e' : ((asked (i + 1) rest).map fun q => (q.1 - wor b l q.2.length, q.2))[k]? = some (a, ds) := e
      rw [List.getElem?_map] at e'
      cases e1 : (asked (i + 1) rest)[k]? with
      | none => rw [e1] at e'; cases e'
      | some q =>
        obtain ⟨a', ds'⟩ := q
        rw [e1] at e'
        cases e'
        obtain ⟨h1, h2, h3⟩ := ih.at_ k a' _ e1
        refine ⟨h1, .card h2, fun s v h hs => ?_⟩
        cases h with
        | card h =>
          have := h3 _ _ h hs
          rw [hs, h1]
          omega
  | .inl x :: rest, i => by
    have ih := asked_tab rest (i + 1)
    have hn : nB (.inl x :: rest) = nB rest + 1 := rfl
    have hlen : (asked (i + 1) rest).length = nB rest + 1 := ih.len
    generalize hb : asked (i + 1) rest = best at ih hlen
    have hres : asked i (.inl x :: rest) = askStep i (.inl x) best := by rw [← hb]; rfl
    rw [hres]
    obtain ⟨q0, br, rfl⟩ : ∃ q br, best = q :: br := by
      cases best with
      | nil => simp at hlen
      | cons q br => exact ⟨q, br, rfl⟩
    have hget : ∀ k, k < nB rest + 1 → (q0 :: br)[k]? = some ((q0 :: br).getD k (0, [])) := fun k hk => by
      rw [List.getD_eq_getElem?_getD, List.getElem?_eq_getElem (by omega)]; rfl
    have hgl : ∀ k, k < nB rest + 1 → ((q0 :: br).map fun q => (q.1 + x, i :: q.2)).getD k (0, []) = (((q0 :: br).getD k (0, [])).1 + x, i :: ((q0 :: br).getD k (0, [])).2) := fun k hk => by
      rw [List.getD_eq_getElem?_getD, List.getElem?_map, hget k hk]; rfl
    have hst : ∀ k, k ≤ nB rest + 1 → (askStep i (.inl x) (q0 :: br))[k]? = some (if k = 0 then q0 else if h : k < nB rest + 1 then (if ((q0 :: br).getD (k - 1) (0, [])).1 + x ≤ ((q0 :: br).getD k (0, [])).1 then (q0 :: br).getD k (0, []) else (((q0 :: br).getD (k - 1) (0, [])).1 + x, i :: ((q0 :: br).getD (k - 1) (0, [])).2)) else (((q0 :: br).getD (nB rest) (0, [])).1 + x, i :: ((q0 :: br).getD (nB rest) (0, [])).2)) := fun k hk => by
      unfold askStep
      simp only []
      cases k with
      | zero => simp
      | succ k =>
        rw [if_neg (by omega)]
        show ((([(q0 :: br).headD (0, [])] ++ _) ++ [_])[k + 1]?) = _
        by_cases hk2 : k + 1 < nB rest + 1
        · have hlen' : br.length = nB rest := by rw [List.length_cons] at hlen; omega
          rw [dif_pos hk2, List.getElem?_append_left (by simp; omega)]
          show ((List.range ((q0 :: br).length - 1)).map _)[k]? = _
          rw [List.getElem?_map, List.getElem?_range (by rw [hlen]; omega)]
          simp only [Option.map_some, hgl k (by omega)]
          rfl
        · rw [dif_neg hk2]
          have hke : k = nB rest := by omega
          have hlen' : br.length = nB rest := by rw [List.length_cons] at hlen; omega
          rw [List.getElem?_append_right (by simp; omega)]
          have e0 : k + 1 - ([(q0 :: br).headD (0, [])] ++ ((List.range ((q0 :: br).length - 1)).map fun k => if (((q0 :: br).map fun q => (q.1 + x, i :: q.2)).getD k (0, [])).1 ≤ ((q0 :: br).getD (k + 1) (0, [])).1 then (q0 :: br).getD (k + 1) (0, []) else ((q0 :: br).map fun q => (q.1 + x, i :: q.2)).getD k (0, []))).length = 0 := by simp; omega
          rw [e0]
          simp only [List.getElem?_cons_zero]
          congr 1
          rw [List.getLastD_eq_getLast?, List.getLast?_eq_getElem?]
          have e1 : ((q0 :: br).map fun q => (q.1 + x, i :: q.2)).length - 1 = nB rest := by rw [List.length_map, hlen]; omega
          rw [e1, List.getElem?_map, hget (nB rest) (by omega)]
          rfl
    refine ⟨?_, fun k a ds e => ?_⟩
    · rw [hn]
      unfold askStep
      simp
      simp at hlen
      omega
    · have hk : k ≤ nB rest + 1 := by
        have := (List.getElem?_eq_some_iff.mp e).1
        have h2 : (askStep i (.inl x) (q0 :: br)).length = nB rest + 2 := by
          unfold askStep
          simp
          simp at hlen
          omega
        omega
      rw [hst k hk] at e
      have e := Option.some.inj e
      have tk : ∀ j, j < nB rest + 1 → ∀ q, q = (q0 :: br).getD j (0, []) → q.2.length = j ∧ Sel (i + 1) rest q.2 q.1 ∧ ∀ s v, Sel (i + 1) rest s v → s.length = j → v ≤ q.1 := fun j hj q hq => ih.at_ j q.1 q.2 (by rw [hget j hj, hq])
      have cmp : ∀ (s : List Int) (v : Int), Sel i (.inl x :: rest) s v → (Sel (i + 1) rest s v) ∨ ∃ s' v', s = i :: s' ∧ v = x + v' ∧ Sel (i + 1) rest s' v' := fun s v h => by
        cases h with
        | skip h => exact .inl h
        | take h => exact .inr ⟨_, _, rfl, rfl, h⟩
      by_cases k0 : k = 0
      · subst k0
        rw [if_pos rfl] at e
        obtain ⟨h1, h2, h3⟩ := tk 0 (by omega) q0 rfl
        subst e
        refine ⟨h1, .skip h2, fun s v h hs => ?_⟩
        rcases cmp s v h with h | ⟨s', v', es, ev, h'⟩
        · exact h3 s v h hs
        · rw [es] at hs; simp at hs
      · rw [if_neg k0] at e
        obtain ⟨p1, p2, p3⟩ := tk (k - 1) (by omega) _ rfl
        by_cases hk2 : k < nB rest + 1
        · rw [dif_pos hk2] at e
          obtain ⟨h1, h2, h3⟩ := tk k hk2 _ rfl
          split at e
          · rename_i hc
            rw [e] at h1 h2 h3 hc
            refine ⟨h1, .skip h2, fun s v h hs => ?_⟩
            rcases cmp s v h with h | ⟨s', v', es, ev, h'⟩
            · exact h3 s v h hs
            · have := p3 s' v' h' (by rw [es, List.length_cons] at hs; omega)
              simp only [] at hc
              omega
          · rename_i hc
            obtain ⟨ea, ed⟩ := Prod.mk.inj e
            subst ea ed
            refine ⟨by rw [List.length_cons, p1]; omega, ?_, fun s v h hs => ?_⟩
            · rw [Int.add_comm]; exact .take p2
            · rcases cmp s v h with h | ⟨s', v', es, ev, h'⟩
              · have := h3 s v h hs; omega
              · have := p3 s' v' h' (by rw [es, List.length_cons] at hs; omega); omega
        · rw [dif_neg hk2] at e
          have hke : k - 1 = nB rest := by omega
          rw [← hke] at e
          obtain ⟨ea, ed⟩ := Prod.mk.inj e
          subst ea ed
          refine ⟨by rw [List.length_cons, p1]; omega, ?_, fun s v h hs => ?_⟩
          · rw [Int.add_comm]; exact .take p2
          · rcases cmp s v h with h | ⟨s', v', es, ev, h'⟩
            · have := h.len; omega
            · have := p3 s' v' h' (by rw [es, List.length_cons] at hs; omega); omega
/-- what a course asks of 1, 2, .. days -/
def asks (evs : List Ev) : List Int := ((asked 0 evs).map Prod.fst).drop 1
theorem asked_len (evs : List Ev) (i : Int) : (asked i evs).length = nB evs + 1 := (asked_tab evs i).len
/-! ### sets of days, one by one -/
def spotsI : Int → List Ev → List Int
  | _, [] => []
  | i, .inl _ :: r => i :: spotsI (i + 1) r
  | i, .inr _ :: r => spotsI (i + 1) r
theorem spotsI_ge : ∀ (evs : List Ev) (i d : Int), d ∈ spotsI i evs → i ≤ d
  | [], i, d, h => by cases h
  | .inl x :: r, i, d, h => by
    rcases List.mem_cons.mp h with rfl | h
    · exact Int.le_refl _
    · have := spotsI_ge r (i + 1) d h; omega
  | .inr q :: r, i, d, h => by have := spotsI_ge r (i + 1) d h; omega
def bAt (evs : List Ev) (d : Int) : Int := match evs[d.toNat]? with
  | some (.inl x) => x
  | _ => 0
def cutSum : Int → List Ev → List Int → Int
  | _, [], _ => 0
  | i, .inr q :: r, s => wor q.1 q.2 (s.filter fun d => decide (i < d)).length + cutSum (i + 1) r s
  | i, .inl _ :: r, s => cutSum (i + 1) r s
def lv (i : Int) (evs : List Ev) (s : List Int) : Int := (s.map fun d => bAt evs (d - i)).sum - cutSum i evs s
theorem bAt_cons {e : Ev} {r : List Ev} {i d : Int} (h : i + 1 ≤ d) : bAt (e :: r) (d - i) = bAt r (d - (i + 1)) := by
  unfold bAt
  have : (d - i).toNat = (d - (i + 1)).toNat + 1 := by omega
  rw [this]
  rfl
theorem cutSum_drop : ∀ (evs : List Ev) (i j : Int) (s : List Int), j < i → cutSum i evs (j :: s) = cutSum i evs s
  | [], i, j, s, h => rfl
  | .inr q :: r, i, j, s, h => by
    show wor q.1 q.2 ((j :: s).filter fun d => decide (i < d)).length + cutSum (i + 1) r (j :: s) = _
    rw [cutSum_drop r (i + 1) j s (by omega), List.filter_cons_of_neg (by simp; omega)]
    rfl
  | .inl x :: r, i, j, s, h => cutSum_drop r (i + 1) j s (by omega)
theorem sel_of_sub : ∀ (evs : List Ev) (i : Int) (s : List Int), s.Sublist (spotsI i evs) → Sel i evs s (lv i evs s)
  | [], i, s, h => by
    have : s = [] := List.eq_nil_of_sublist_nil h
    subst this
    exact .nil i
  | .inr (b, l) :: r, i, s, h => by
    have hs : s.Sublist (spotsI (i + 1) r) := h
    have ge : ∀ d ∈ s, i + 1 ≤ d := fun d hd => spotsI_ge r (i + 1) d (hs.subset hd)
    have ih := sel_of_sub r (i + 1) s hs
    have e : lv i (.inr (b, l) :: r) s = lv (i + 1) r s - wor b l s.length := by
      unfold lv
      have e1 : (s.map fun d => bAt (.inr (b, l) :: r) (d - i)) = s.map fun d => bAt r (d - (i + 1)) := List.map_congr_left fun d hd => bAt_cons (ge d hd)
      have e2 : s.filter (fun d => decide (i < d)) = s := List.filter_eq_self.mpr fun d hd => decide_eq_true (by have := ge d hd; omega)
      show _ - (wor b l (s.filter fun d => decide (i < d)).length + cutSum (i + 1) r s) = _
      rw [e1, e2]
      omega
    rw [e]
    exact .card ih
  | .inl x :: r, i, s, h => by
    have hs : s.Sublist (i :: spotsI (i + 1) r) := h
    have key : ∀ s' : List Int, s'.Sublist (spotsI (i + 1) r) → lv i (.inl x :: r) s' = lv (i + 1) r s' := fun s' hs' => by
      have ge : ∀ d ∈ s', i + 1 ≤ d := fun d hd => spotsI_ge r (i + 1) d (hs'.subset hd)
      unfold lv
      have e1 : (s'.map fun d => bAt (.inl x :: r) (d - i)) = s'.map fun d => bAt r (d - (i + 1)) := List.map_congr_left fun d hd => bAt_cons (ge d hd)
      rw [e1]
      rfl
    rcases List.sublist_cons_iff.mp hs with hs' | ⟨s', rfl, hs'⟩
    · rw [key s hs']
      exact .skip (sel_of_sub r (i + 1) s hs')
    · have ge : ∀ d ∈ s', i + 1 ≤ d := fun d hd => spotsI_ge r (i + 1) d (hs'.subset hd)
      have e : lv i (.inl x :: r) (i :: s') = x + lv (i + 1) r s' := by
        rw [← key s' hs']
        unfold lv
        rw [List.map_cons, List.sum_cons]
        have e2 : bAt (.inl x :: r) (i - i) = x := by rw [Int.sub_self]; rfl
        have e3 : cutSum i (.inl x :: r) (i :: s') = cutSum i (.inl x :: r) s' := cutSum_drop r (i + 1) i s' (by omega)
        rw [e2, e3]
        omega
      rw [e]
      exact .take (sel_of_sub r (i + 1) s' hs')
theorem Sel.sub {i : Int} {evs : List Ev} {s : List Int} {v : Int} (h : Sel i evs s v) : s.Sublist (spotsI i evs) := by
  induction h with
  | nil => exact List.Sublist.refl _
  | card h ih => exact ih
  | skip h ih => exact ih.cons _
  | take h ih => exact ih.cons_cons _
theorem Sel.uniq {i : Int} {evs : List Ev} {s : List Int} {v v' : Int} (h : Sel i evs s v) (h' : Sel i evs s v') : v = v' := by
  induction h generalizing v' with
  | nil => cases h'; rfl
  | card h ih =>
    cases h' with
    | card h2 => rw [ih h2]
  | @skip i x v rest s h ih =>
    cases h' with
    | skip h2 => exact ih h2
    | take h2 =>
      have := spotsI_ge _ _ _ (h.sub.subset List.mem_cons_self)
      omega
  | @take i x v rest s h ih =>
    cases h' with
    | take h2 => rw [ih h2]
    | skip h2 =>
      have := spotsI_ge _ _ _ (h2.sub.subset List.mem_cons_self)
      omega
theorem Sel.val {i : Int} {evs : List Ev} {s : List Int} {v : Int} (h : Sel i evs s v) : v = lv i evs s := h.uniq (sel_of_sub evs i s h.sub)
end P20

set_option Elab.async false
set_option linter.all false
set_option maxRecDepth 100000
set_option maxHeartbeats 4000000
namespace Sh
open PySem L2 Mi P20
def evOk : Ev → Prop
  | .inl x => 0 ≤ x
  | .inr q => 1 ≤ q.2 ∧ 0 ≤ q.1 ∧ q.1 ≤ 24 * q.2
structure EvsOk (evs : List Ev) : Prop where
  each : ∀ e ∈ evs, evOk e
  bills : nB evs ≤ 12
  cards : nC evs ≤ 6
theorem nBC : ∀ evs : List Ev, nB evs + nC evs = evs.length
  | [] => rfl
  | .inl x :: r => by have := nBC r; rw [nB_inl]; show nB r + 1 + nC r = r.length + 1; omega
  | .inr q :: r => by have := nBC r; rw [nB_inr]; show nB r + (nC r + 1) = r.length + 1; omega
theorem EvsOk.len {evs : List Ev} (h : EvsOk evs) : evs.length ≤ 18 := by have := nBC evs; have := h.bills; have := h.cards; omega
@[simp] theorem bal_ok {q : Int × Int} {u : PuS} {P : D → PuS → Prop} : Ok (mf_Card_balance [.obj "Card" ["held", "daily"] [.int q.1, .int q.2]]) u P ↔ P (.int q.1) u := by
  unfold mf_Card_balance mb_Card_balance
  simp
@[simp] theorem lim_ok {q : Int × Int} {u : PuS} {P : D → PuS → Prop} : Ok (mf_Card_limit [.obj "Card" ["held", "daily"] [.int q.1, .int q.2]]) u P ↔ P (.int q.2) u := by
  unfold mf_Card_limit mb_Card_limit
  simp
@[simp] theorem cards_ok {ps : List (Str × (Int × Int))} (hl : ps.length ≤ 1000) {u : PuS} {P : D → PuS → Prop} (hp : P (.tup (ps.map fun p => cardD p.2)) u) : Ok (mf_Wallet_cards [.obj "Wallet" ["pairs"] [.tup (ps.map pairD)]]) u P := by
  unfold mf_Wallet_cards mb_Wallet_cards
  simp
  refine ⟨by omega, ?_⟩
  refine ok_lca (fun p => [.sh (walD ps), .sh (.str p.1), .sh (cardD p.2)]) (fun p => cardD p.2) ?_ ?_ ?_
  · intro p hp; rfl
  · intro p hp; simp
  exact hp
theorem amounts_ok {ps : List (Str × (Int × Int))} (hl : ps.length ≤ 1000) {u : PuS} {P : D → PuS → Prop} (hp : P (.tup ((ps.map Prod.snd).map prQd)) u) : Ok (mf_amounts_of [walD ps]) u P := by
  unfold mf_amounts_of mb_amounts_of
  simp
  refine ⟨_, _, rfl, ?_⟩
  refine cards_ok hl ?_
  simp
  refine ⟨by omega, ?_⟩
  refine ok_lca (xs := ps) (f := fun p => cardD p.2) (fun p => [.sh (walD ps), .sh (cardD p.2)]) (fun p => prQd p.2) ?_ ?_ ?_
  · intro p hp; rfl
  · intro p hp
    unfold ce_amounts_of_1
    simp
    refine ⟨_, _, rfl, ?_⟩
    rw [bal_ok]
    refine ⟨_, _, rfl, ?_⟩
    rw [lim_ok]
    exact ⟨rfl, rfl⟩
  rw [List.map_map] at hp
  exact hp
end Sh

set_option Elab.async false
set_option linter.all false
set_option maxRecDepth 100000
set_option maxHeartbeats 4000000
namespace S2
open PySem L2 Mi P20 Sh
/-- an event in a law's own row -/
def evR : Ev → D
  | .inl x => .int x
  | .inr q => prQd q
/-- found so far: a number or None -/
def opI : Option Int → D := opD D.int
end S2

set_option Elab.async false
set_option linter.all false
set_option maxRecDepth 100000
set_option maxHeartbeats 4000000
/-! K3m: rows of bills with cards ahead and behind, plain. -/
namespace P20
open Mi L2
/-! ### the greatest ones -/
theorem take_le {x : Int} {r : List Int} (h : ∀ y ∈ r, y ≤ x) : ∀ n, n ≤ r.length → (r.take n).sum ≤ ((x :: r).take n).sum
  | 0, _ => by simp
  | n + 1, hn => by
    have hn' : n < r.length := by omega
    have := h r[n] (List.getElem_mem hn')
    have e : (r.take (n + 1)).sum = (r.take n).sum + r[n] := by
      rw [List.take_succ, List.getElem?_eq_getElem hn', List.sum_append]
      simp
    rw [e, List.take_succ_cons, List.sum_cons]
    omega
theorem sub_le : ∀ {r t : List Int}, r.Pairwise (· ≥ ·) → t.Sublist r → t.sum ≤ (r.take t.length).sum
  | [], t, _, h => by
    have := List.eq_nil_of_sublist_nil h
    subst this
    simp
  | x :: r, t, hr, h => by
    obtain ⟨h1, h2⟩ := List.pairwise_cons.mp hr
    rcases List.sublist_cons_iff.mp h with h' | ⟨t', rfl, h'⟩
    · have := sub_le h2 h'
      have := take_le (x := x) (r := r) (fun y hy => h1 y hy) t.length h'.length_le
      omega
    · have := sub_le h2 h'
      rw [List.sum_cons, List.length_cons, List.take_succ_cons, List.sum_cons]
      omega
end P20

set_option Elab.async false
set_option linter.all false
set_option maxRecDepth 100000
set_option maxHeartbeats 4000000
/-! K4m: the least row among falling rows, plain. -/
namespace P20
open Mi L2
theorem falls_snoc {row : List Int} {k : Int} (h : Falls row) (hk : 0 < k) (hl : ∀ y, row.getLast? = some y → k ≤ y) : Falls (row ++ [k]) := by
  refine ⟨fun x hx => ?_, fun i x y e1 e2 => ?_⟩
  · rcases List.mem_append.mp hx with hx | hx
    · exact h.1 x hx
    · rw [List.mem_singleton.mp hx]; exact hk
  · have hi := (List.getElem?_eq_some_iff.mp e2).1
    rw [List.length_append, List.length_singleton] at hi
    rw [List.getElem?_append_left (by omega)] at e1
    by_cases h2 : i + 1 < row.length
    · rw [List.getElem?_append_left h2] at e2
      exact h.2 i x y e1 e2
    · have h3 : i + 1 = row.length := by omega
      rw [h3, List.getElem?_append_right (Nat.le_refl _), Nat.sub_self] at e2
      cases e2
      refine hl x ?_
      rw [List.getLast?_eq_getElem?, show row.length - 1 = i by omega]
      exact e1
theorem sumN_one {row : List Int} {x : Int} (h : Falls (x :: row)) : sumN row 1 ≤ x := by
  cases row with
  | nil => rw [sumN_nil]; have := h.1 x List.mem_cons_self; omega
  | cons y r =>
    have := h.2 0 x y rfl rfl
    show y + sumN r 0 ≤ x
    have : sumN r 0 = 0 := by cases r <;> rfl
    omega
theorem sumN_ccv : ∀ {row : List Int}, Falls row → ∀ n, sumN row (n + 2) - sumN row (n + 1) ≤ sumN row (n + 1) - sumN row n
  | [], _, n => by simp [sumN_nil]
  | x :: row, h, 0 => by
    have h1 := sumN_one h
    have h2 : sumN (x :: row) 2 = x + sumN row 1 := rfl
    have h3 : sumN (x :: row) 1 = x + sumN row 0 := rfl
    have h4 : sumN row 0 = 0 := by cases row <;> rfl
    have h5 : sumN (x :: row) 0 = 0 := rfl
    show sumN (x :: row) 2 - sumN (x :: row) 1 ≤ sumN (x :: row) 1 - sumN (x :: row) 0
    omega
  | x :: row, h, n + 1 => by
    have ih := sumN_ccv h.tail n
    have h1 : sumN (x :: row) (n + 1 + 2) = x + sumN row (n + 2) := rfl
    have h2 : sumN (x :: row) (n + 1 + 1) = x + sumN row (n + 1) := rfl
    have h3 : sumN (x :: row) (n + 1) = x + sumN row n := rfl
    omega
theorem ccv_many {row : List Int} (h : Falls row) (k : Nat) : ∀ i : Nat, sumN row (k + 1 + i) ≤ sumN row (k + 1) + (i : Int) * (sumN row (k + 1) - sumN row k) ∧ sumN row (k + 1 + i + 1) - sumN row (k + 1 + i) ≤ sumN row (k + 1) - sumN row k
  | 0 => ⟨by simp, sumN_ccv h k⟩
  | i + 1 => by
    obtain ⟨h1, h2⟩ := ccv_many h k i
    have h3 := sumN_ccv h (k + 1 + i)
    refine ⟨?_, by
      show sumN row (k + 1 + i + 2) - sumN row (k + 1 + i + 1) ≤ _
      omega⟩
    rw [show ((i + 1 : Nat) : Int) = (i : Int) + 1 by omega, Int.add_mul, Int.one_mul]
    show sumN row (k + 1 + i + 1) ≤ _
    omega
/-- the least row has the least sums -/
theorem Least.least {t : Int} {ss row other : List Int} (h : Least t ss row) (ho : Falls other) (hc : ∀ (n : Nat) (s : Int), ss[n]? = some s → s ≤ t + sumN other (n + 1)) : ∀ n, sumN row n ≤ sumN other n
  | 0 => by
    have h1 : sumN row 0 = 0 := by cases row <;> rfl
    have h2 : sumN other 0 = 0 := by cases other <;> rfl
    omega
  | k + 1 => by
    have ih := h.least ho hc k
    have hm := sumN_mono (row := other) (fun x hx => by have := ho.1 x hx; omega) k
    by_cases hk : k < row.length
    · have ek : row[k]? = some row[k] := List.getElem?_eq_getElem hk
      obtain ⟨i, s, e1, h1⟩ := h.tight k _ ek
      have h2 := hc _ _ e1
      have h3 := (ccv_many ho k i).1
      have es : sumN row (k + 1) = sumN row k + row[k] := by rw [sumN_app, List.getD_eq_getElem?_getD, ek]; rfl
      rcases Int.lt_or_le (sumN other (k + 1)) (sumN row (k + 1)) with z | z
      · have hd : sumN other (k + 1) - sumN other k ≤ row[k] - 1 := by omega
        have h4 : (i : Int) * (sumN other (k + 1) - sumN other k) ≤ (i : Int) * (row[k] - 1) := Int.mul_le_mul_of_nonneg_left hd (by omega)
        rw [Int.add_mul, Int.one_mul] at h1
        rw [show k + i + 1 = k + 1 + i by omega] at h2
        omega
      · exact z
    · have h1 := sumN_flat row (k + 1) (by omega)
      have h2 := sumN_flat row k (by omega)
      omega
/-! the rows still to be gone through -/
def wt (l : List (List Int × Int × Int)) : Nat := (l.map fun q => 2 ^ q.2.1.toNat).sum
theorem wt_append (a b : List (List Int × Int × Int)) : wt (a ++ b) = wt a + wt b := by simp [wt]
theorem wt_len : ∀ l : List (List Int × Int × Int), l.length ≤ wt l
  | [] => Nat.le_refl _
  | q :: l => by
    have := wt_len l
    have h : 0 < 2 ^ q.2.1.toNat := Nat.two_pow_pos _
    show l.length + 1 ≤ 2 ^ q.2.1.toNat + wt l
    omega
theorem wt_kids (row : List Int) : ∀ (m : Nat) (r : Int), (m : Int) ≤ r → wt ((List.range m).map fun i : Nat => (row ++ [(1 : Int) + i], r - ((1 : Int) + i), (1 : Int) + i)) + 2 ^ (r.toNat - m) = 2 ^ r.toNat
  | 0, r, _ => by simp [wt]
  | m + 1, r, h => by
    have ih := wt_kids row m r (by omega)
    rw [List.range_succ, List.map_append, wt_append]
    have e1 : wt (List.map (fun i : Nat => (row ++ [(1 : Int) + i], r - ((1 : Int) + i), (1 : Int) + i)) [m]) = 2 ^ (r.toNat - (m + 1)) := by
      simp [wt]
      congr 1
      omega
    rw [e1]
    have e2 : 2 ^ (r.toNat - m) = 2 ^ (r.toNat - (m + 1)) * 2 := by
      rw [← Nat.pow_succ]
      congr 1
      omega
    omega
end P20


set_option Elab.async false
set_option linter.all false
set_option maxRecDepth 100000
set_option maxHeartbeats 4000000
/-! W3m: sparing payments, plain. -/
namespace P20
open Mi L2
/-- the parts of the cards at a level -/
def pts (am : List (Int × Int)) (k : Nat) : List Int := am.map fun q => wor q.1 q.2 (k + 1) - wor q.1 q.2 k
theorem pts_len (am : List (Int × Int)) (k : Nat) : (pts am k).length = am.length := by simp [pts]
theorem pts_sum (am : List (Int × Int)) (k : Nat) : (pts am k).sum = FF am (k + 1) - FF am k := by
  induction am with
  | nil => rfl
  | cons q am ih =>
    rw [FF_cons, FF_cons]
    show (wor q.1 q.2 (k + 1) - wor q.1 q.2 k) + (pts am k).sum = _
    omega
theorem pts_fall {am : List (Int × Int)} (h : Am am) {j k : Nat} (hjk : j ≤ k) : (pts am k).sum ≤ (pts am j).sum := by
  induction hjk with
  | refl => exact Int.le_refl _
  | step _ ih =>
    rename_i m _
    refine Int.le_trans ?_ ih
    rw [pts_sum, pts_sum]
    have := FF_conc h m
    omega
theorem pts_zero {am : List (Int × Int)} (h : Am am) {k : Nat} (hk : 24 ≤ k) : (pts am k).sum = 0 := by
  induction am with
  | nil => rfl
  | cons q am ih =>
    obtain ⟨h1, h2, h3⟩ := h q List.mem_cons_self
    have e1 : (24 : Int) * q.2 ≤ (k : Int) * q.2 := mono_mul (by omega) (by omega)
    have e2 := succ_mul' k q.2
    have e3 := ih h.tail
    show (wor q.1 q.2 (k + 1) - wor q.1 q.2 k) + (pts am k).sum = 0
    unfold wor
    omega
/-- the greatest level with parts for this bill -/
def IsLev (am : List (Int × Int)) (x : Int) (L : Nat) : Prop := (pts am (L + 1)).sum < x ∧ ∀ j, j < L → x ≤ (pts am (j + 1)).sum
theorem lev_ex {am : List (Int × Int)} (h : Am am) {x : Int} (hx : 0 < x) : ∃ L, L ≤ 24 ∧ IsLev am x L := by
  have key : ∀ n : Nat, (∃ L, L ≤ n ∧ IsLev am x L) ∨ ∀ j, j ≤ n → x ≤ (pts am (j + 1)).sum := by
    intro n
    induction n with
    | zero =>
      by_cases h0 : (pts am (0 + 1)).sum < x
      · exact .inl ⟨0, Nat.le_refl _, h0, fun j hj => by omega⟩
      · exact .inr fun j hj => by
          have : j = 0 := by omega
          subst this
          omega
    | succ n ih =>
      rcases ih with ⟨L, h1, h2⟩ | h1
      · exact .inl ⟨L, by omega, h2⟩
      · by_cases h0 : (pts am (n + 1 + 1)).sum < x
        · exact .inl ⟨n + 1, Nat.le_refl _, h0, fun j hj => h1 j (by omega)⟩
        · exact .inr fun j hj => by
            by_cases hj2 : j = n + 1
            · subst hj2; omega
            · exact h1 j (by omega)
  rcases key 24 with h1 | h1
  · exact h1
  · have := h1 24 (Nat.le_refl _)
    rw [pts_zero h (by decide)] at this
    omega
theorem IsLev.uniq {am : List (Int × Int)} {x : Int} {L L' : Nat} (h : IsLev am x L) (h' : IsLev am x L') : L = L' := by
  rcases Nat.lt_trichotomy L L' with z | z | z
  · have := h'.2 L z; have := h.1; omega
  · exact z
  · have := h.2 L' z; have := h'.1; omega
/-- the level -/
noncomputable def lev (am : List (Int × Int)) (x : Int) : Nat := by classical exact if h : ∃ L, IsLev am x L then Classical.choose h else 0
theorem lev_is {am : List (Int × Int)} (h : Am am) {x : Int} (hx : 0 < x) : IsLev am x (lev am x) ∧ lev am x ≤ 24 := by
  obtain ⟨L, h1, h2⟩ := lev_ex h hx
  have : lev am x = L := by
    unfold lev
    rw [dif_pos ⟨L, h2⟩]
    exact (Classical.choose_spec (⟨L, h2⟩ : ∃ L, IsLev am x L)).uniq h2
  rw [this]
  exact ⟨h2, h1⟩
theorem IsLev.top {am : List (Int × Int)} {x : Int} {L : Nat} (h : IsLev am x L) (hx : x ≤ FF am 1) (ha : Am am) : x ≤ (pts am L).sum := by
  cases L with
  | zero => rw [pts_sum, FF_zero ha]; show x ≤ FF am (0 + 1) - 0; simpa using hx
  | succ L => exact h.2 L (Nat.lt_succ_self _)
noncomputable def lows (am : List (Int × Int)) (x : Int) : List Int := if x = 0 then am.map (fun _ => 0) else pts am (lev am x + 1)
noncomputable def highs (am : List (Int × Int)) (x : Int) : List Int := if x = 0 then am.map (fun _ => 0) else pts am (lev am x)
/-- a sum is spread between bounds -/
def sprd : Int → List (Int × Int) → List Int
  | _, [] => []
  | r, q :: l => (q.1 + min r (q.2 - q.1)) :: sprd (r - min r (q.2 - q.1)) l
noncomputable def pay (am : List (Int × Int)) (x : Int) : List Int := sprd (x - (lows am x).sum) ((lows am x).zip (highs am x))
def lbh (am : List (Int × Int)) (ys : List Int) : List (Int × Int) := (am.zip ys).map fun q => (q.1.1 - q.2, q.1.2)
/-- a row between bounds -/
def Betw : List Int → List Int → List Int → Prop
  | [], [], [] => True
  | a :: as, y :: ys, b :: bs => a ≤ y ∧ y ≤ b ∧ Betw as ys bs
  | _, _, _ => False
theorem sprd_is : ∀ {as bs : List Int} {r : Int}, as.length = bs.length → (∀ q ∈ as.zip bs, q.1 ≤ q.2) → 0 ≤ r → as.sum + r ≤ bs.sum → Betw as (sprd r (as.zip bs)) bs ∧ (sprd r (as.zip bs)).sum = as.sum + r
  | [], [], r, _, _, h0, h1 => ⟨trivial, by simp [sprd] at h1 ⊢; omega⟩
  | [], _ :: _, r, hl, _, _, _ => by cases hl
  | _ :: _, [], r, hl, _, _, _ => by cases hl
  | a :: as, b :: bs, r, hl, hq, h0, h1 => by
    have hab : a ≤ b := hq (a, b) List.mem_cons_self
    have hq' : ∀ q ∈ as.zip bs, q.1 ≤ q.2 := fun q h => hq q (List.mem_cons_of_mem _ h)
    have hle : ∀ (as bs : List Int), as.length = bs.length → (∀ q ∈ as.zip bs, q.1 ≤ q.2) → as.sum ≤ bs.sum := by
      intro as
      induction as with
      | nil => intro bs h _; cases bs with
        | nil => simp
        | cons => cases h
      | cons a as ih => intro bs h hq; cases bs with
        | nil => cases h
        | cons b bs =>
          have := ih bs (by simpa using h) fun q h => hq q (List.mem_cons_of_mem _ h)
          have := hq (a, b) List.mem_cons_self
          simp at this ⊢
          omega
    have hs := hle as bs (by simpa using hl) hq'
    rw [List.sum_cons, List.sum_cons] at h1
    obtain ⟨i1, i2⟩ := sprd_is (as := as) (bs := bs) (r := r - min r (b - a)) (by simpa using hl) hq' (by omega) (by omega)
    refine ⟨⟨?_, ?_, i1⟩, ?_⟩
    · show a ≤ a + min r (b - a); omega
    · show a + min r (b - a) ≤ b; omega
    · show (a + min r (b - a)) + (sprd (r - min r (b - a)) (as.zip bs)).sum = _
      rw [i2, List.sum_cons]
      omega
theorem Betw.len : ∀ {as ys bs : List Int}, Betw as ys bs → ys.length = as.length ∧ bs.length = as.length
  | [], [], [], _ => ⟨rfl, rfl⟩
  | _ :: _, _ :: _, _ :: _, h => by
    have := Betw.len h.2.2
    simp [this]
  | [], _ :: _, _, h => by simp [Betw] at h
  | [], [], _ :: _, h => by simp [Betw] at h
  | _ :: _, [], _, h => by simp [Betw] at h
  | _ :: _, _ :: _, [], h => by simp [Betw] at h
theorem wor_paid {b l y : Int} {L : Nat} (hl : 1 ≤ l) (hb : 0 ≤ b) (h1 : wor b l (L + 2) - wor b l (L + 1) ≤ y) (h2 : y ≤ wor b l (L + 1) - wor b l L) : (∀ k, k ≤ L → wor (b - y) l k = wor b l k) ∧ ∀ k, L + 1 ≤ k → wor (b - y) l k = wor b l (k + 1) - y := by
  have e1 := succ_mul' L l
  have e2 := succ_mul' (L + 1) l
  have e5 : ((L + 2 : Nat) : Int) * l = ((L + 1 : Nat) : Int) * l + l := e2
  have e6 : (0 : Int) ≤ (L : Int) * l := Int.mul_nonneg (by omega) (by omega)
  unfold wor at *
  constructor
  · intro k hk
    have e3 : (k : Int) * l ≤ (L : Int) * l := mono_mul (by omega) (by omega)
    omega
  · intro k hk
    have e3 : ((L + 1 : Nat) : Int) * l ≤ (k : Int) * l := mono_mul (by omega) (by omega)
    have e4 := succ_mul' k l
    omega
theorem FF_paid : ∀ {am : List (Int × Int)} {ys : List Int} {L : Nat}, Am am → Betw (pts am (L + 1)) ys (pts am L) → (∀ k, k ≤ L → FF (lbh am ys) k = FF am k) ∧ (∀ k, L + 1 ≤ k → FF (lbh am ys) k = FF am (k + 1) - ys.sum) ∧ Am (lbh am ys)
  | [], [], L, _, _ => ⟨fun _ _ => rfl, fun _ _ => rfl, Am.nil⟩
  | [], _ :: _, L, _, h => by simp [pts, Betw] at h
  | q :: am, [], L, _, h => by simp [pts, Betw] at h
  | q :: am, y :: ys, L, ha, h => by
    obtain ⟨h1, h2, h3⟩ := h
    obtain ⟨a1, a2, a3⟩ := ha q List.mem_cons_self
    obtain ⟨i1, i2, i3⟩ := FF_paid ha.tail h3
    have h1 : wor q.1 q.2 (L + 1 + 1) - wor q.1 q.2 (L + 1) ≤ y := h1
    have h2 : y ≤ wor q.1 q.2 (L + 1) - wor q.1 q.2 L := h2
    obtain ⟨w1, w2⟩ := wor_paid a1 a2 h1 h2
    have e : lbh (q :: am) (y :: ys) = (q.1 - y, q.2) :: lbh am ys := rfl
    rw [e]
    refine ⟨fun k hk => ?_, fun k hk => ?_, Am.cons ⟨a1, ?_, ?_⟩ i3⟩
    · rw [FF_cons, FF_cons, i1 k hk]
      show wor (q.1 - y) q.2 k + _ = _
      rw [w1 k hk]
    · rw [FF_cons, FF_cons, i2 k hk, List.sum_cons]
      show wor (q.1 - y) q.2 k + _ = _
      rw [w2 k hk]
      omega
    · have hm := wor_nonneg a2 (by omega : 0 ≤ q.2) L
      have hb : wor q.1 q.2 (L + 1) ≤ q.1 := by unfold wor; omega
      show 0 ≤ q.1 - y
      omega
    · have hm := wor_mono (b := q.1) (show 0 ≤ q.2 by omega) (L + 1)
      show q.1 - y ≤ 24 * q.2
      have : (0 : Int) ≤ y := by
        have : wor q.1 q.2 (L + 1) ≤ wor q.1 q.2 (L + 1 + 1) := hm
        omega
      omega
theorem betw_zip : ∀ {as bs : List Int}, as.length = bs.length → (∀ (i : Nat) (a b : Int), as[i]? = some a → bs[i]? = some b → a ≤ b) → ∀ q ∈ as.zip bs, q.1 ≤ q.2
  | as, bs, hl, h, q, hq => by
    obtain ⟨i, hi, e⟩ := List.mem_iff_getElem.mp hq
    have h1 : i < as.length := by simp at hi; omega
    have h2 : i < bs.length := by simp at hi; omega
    rw [List.getElem_zip] at e
    rw [← e]
    exact h i _ _ (List.getElem?_eq_getElem h1) (List.getElem?_eq_getElem h2)
theorem pts_le {am : List (Int × Int)} (h : Am am) (L : Nat) : ∀ q ∈ (pts am (L + 1)).zip (pts am L), q.1 ≤ q.2 := by
  refine betw_zip (by rw [pts_len, pts_len]) fun i a b e1 e2 => ?_
  unfold pts at e1 e2
  rw [List.getElem?_map] at e1 e2
  cases e : am[i]? with
  | none => rw [e] at e1; cases e1
  | some q =>
    rw [e] at e1 e2
    cases e1
    cases e2
    exact wor_conc (by have := (h q (List.mem_of_getElem? e)).1; omega) L
/-- what a sparing payment is -/
structure Paid (am : List (Int × Int)) (x : Int) (ys : List Int) : Prop where
  btw : Betw (lows am x) ys (highs am x)
  sum : ys.sum = x
  am_ : Am (lbh am ys)
  ff : ∀ k, FF (lbh am ys) k = min (FF am k) (FF am (k + 1) - x)
theorem lbh_zero : ∀ am : List (Int × Int), lbh am (am.map fun _ => 0) = am
  | [] => rfl
  | q :: am => by
    have := lbh_zero am
    show (q.1 - 0, q.2) :: lbh am (am.map fun _ => 0) = _
    rw [this]
    simp
theorem betw_zero : ∀ am : List (Int × Int), Betw (am.map fun _ => 0) (am.map fun _ => 0) (am.map fun _ => 0)
  | [] => trivial
  | q :: am => ⟨Int.le_refl _, Int.le_refl _, betw_zero am⟩
theorem sprd_zero : ∀ am : List (Int × Int), sprd 0 ((am.map fun _ => (0 : Int)).zip (am.map fun _ => (0 : Int))) = am.map fun _ => 0
  | [] => rfl
  | q :: am => by
    have := sprd_zero am
    show (0 + min 0 (0 - 0)) :: sprd (0 - min 0 (0 - 0)) ((am.map fun _ => (0 : Int)).zip (am.map fun _ => (0 : Int))) = _
    simp at this ⊢
    exact this
theorem sum_zero (am : List (Int × Int)) : (am.map fun _ => (0 : Int)).sum = 0 := by
  induction am with
  | nil => rfl
  | cons q am ih => rw [List.map_cons, List.sum_cons, ih]; rfl
theorem pay_is {am : List (Int × Int)} (ha : Am am) {x : Int} (h0 : 0 ≤ x) (h1 : x ≤ FF am 1) : Paid am x (pay am x) := by
  by_cases hx : x = 0
  · subst hx
    have e1 : lows am 0 = am.map (fun _ => 0) := if_pos rfl
    have e2 : highs am 0 = am.map (fun _ => 0) := if_pos rfl
    have e3 : pay am 0 = am.map (fun _ => 0) := by
      unfold pay
      rw [e1, e2, sum_zero]
      exact sprd_zero am
    rw [e3]
    refine ⟨by rw [e1, e2]; exact betw_zero am, sum_zero am, by rw [lbh_zero]; exact ha, fun k => ?_⟩
    rw [lbh_zero]
    have := FF_mono ha k
    omega
  · have e1 : lows am x = pts am (lev am x + 1) := if_neg hx
    have e2 : highs am x = pts am (lev am x) := if_neg hx
    obtain ⟨hL, hL24⟩ := lev_is ha (x := x) (by omega)
    have ht := hL.top h1 ha
    have hlt := hL.1
    obtain ⟨b1, b2⟩ := sprd_is (as := pts am (lev am x + 1)) (bs := pts am (lev am x)) (r := x - (pts am (lev am x + 1)).sum) (by rw [pts_len, pts_len]) (pts_le ha _) (by omega) (by omega)
    have e3 : pay am x = sprd (x - (pts am (lev am x + 1)).sum) ((pts am (lev am x + 1)).zip (pts am (lev am x))) := by unfold pay; rw [e1, e2]
    rw [e3]
    have hs : (sprd (x - (pts am (lev am x + 1)).sum) ((pts am (lev am x + 1)).zip (pts am (lev am x)))).sum = x := by rw [b2]; omega
    obtain ⟨f1, f2, f3⟩ := FF_paid ha b1
    refine ⟨by rw [e1, e2]; exact b1, hs, f3, fun k => ?_⟩
    by_cases hk : k ≤ lev am x
    · rw [f1 k hk]
      have h3 := pts_fall ha hk
      have h5 := pts_sum am k
      omega
    · rw [f2 k (by omega), hs]
      have h3 := pts_fall ha (show lev am x + 1 ≤ k by omega)
      have h5 := pts_sum am k
      omega
/-- sets of days that the cards can pay -/
def CanP (i : Int) (am : List (Int × Int)) (evs : List Ev) : Prop := ∀ s v, Sel i evs s v → v ≤ FF am s.length
theorem sel_nil : ∀ {evs : List Ev} (i : Int), (∀ q, Sum.inr q ∈ evs → 0 ≤ q.1) → Sel i evs [] 0
  | [], i, _ => .nil i
  | .inl x :: evs, i, h => .skip (sel_nil (i + 1) fun q hq => h q (List.mem_cons_of_mem _ hq))
  | .inr (b, l) :: evs, i, h => by
    have h1 := Sel.card (b := b) (l := l) (sel_nil (evs := evs) (i + 1) fun q hq => h q (List.mem_cons_of_mem _ hq))
    have h2 : wor b l 0 = 0 := wor_zero (l := l) (h (b, l) List.mem_cons_self)
    have e : (0 : Int) - wor b l ([] : List Int).length = 0 := by
      show (0 : Int) - wor b l 0 = 0
      omega
    rw [e] at h1
    exact h1
/-- the plan: one row of payments for each bill -/
noncomputable def ppl : List (Int × Int) → List Ev → Option (List (List Int))
  | _, [] => some []
  | am, .inr q :: r => ppl (am ++ [q]) r
  | am, .inl x :: r => if FF am 1 < x then none else (ppl (lbh am (pay am x)) r).map fun l => pay am x :: l
def Evs0 (evs : List Ev) : Prop := (∀ q, Sum.inr q ∈ evs → 1 ≤ q.2 ∧ 0 ≤ q.1 ∧ q.1 ≤ 24 * q.2) ∧ ∀ x, Sum.inl x ∈ evs → (0 : Int) ≤ x
theorem Evs0.tail {e : Ev} {evs : List Ev} (h : Evs0 (e :: evs)) : Evs0 evs := ⟨fun q hq => h.1 q (List.mem_cons_of_mem _ hq), fun x hx => h.2 x (List.mem_cons_of_mem _ hx)⟩
theorem ppl_iff : ∀ {evs : List Ev} {am : List (Int × Int)} (i : Int), Am am → Evs0 evs → ((ppl am evs).isSome = true ↔ CanP i am evs)
  | [], am, i, ha, _ => by
    constructor
    · intro _ s v h
      cases h
      exact FF_nonneg ha _
    · intro _; rfl
  | .inr (b, l) :: r, am, i, ha, he => by
    have hq := he.1 (b, l) List.mem_cons_self
    have ih := ppl_iff (evs := r) (am := am ++ [(b, l)]) (i + 1) (ha.append (Am.cons hq Am.nil)) he.tail
    show (ppl (am ++ [(b, l)]) r).isSome = true ↔ _
    rw [ih]
    have e1 : ∀ k, FF (am ++ [(b, l)]) k = FF am k + wor b l k := fun k => by rw [FF_append, FF_cons, FF_nil]; simp
    constructor
    · intro h s v hs
      cases hs with
      | card hs =>
        have := h _ _ hs
        rw [e1] at this
        omega
    · intro h s v hs
      have := h _ _ (Sel.card (b := b) (l := l) hs)
      rw [e1]
      omega
  | .inl x :: r, am, i, ha, he => by
    have hx := he.2 x List.mem_cons_self
    have e0 : ppl am (.inl x :: r) = if FF am 1 < x then none else (ppl (lbh am (pay am x)) r).map fun l => pay am x :: l := rfl
    rw [e0]
    by_cases h1 : FF am 1 < x
    · rw [if_pos h1]
      constructor
      · intro h; cases h
      · intro h
        have := h _ _ (Sel.take (x := x) (sel_nil (evs := r) (i + 1) fun q hq => (he.tail.1 q hq).2.1))
        have e : FF am ([i] : List Int).length = FF am 1 := rfl
        rw [e] at this
        omega
    · rw [if_neg h1, Option.isSome_map]
      have hp := pay_is ha hx (by omega)
      have ih := ppl_iff (evs := r) (am := lbh am (pay am x)) (i + 1) hp.am_ he.tail
      rw [ih]
      constructor
      · intro h s v hs
        cases hs with
        | skip hs =>
          have := h _ _ hs
          rw [hp.ff] at this
          omega
        | take hs =>
          have := h _ _ hs
          rw [hp.ff] at this
          rw [List.length_cons]
          omega
      · intro h s v hs
        have a1 := h _ _ (Sel.skip (x := x) hs)
        have a2 := h _ _ (Sel.take (x := x) hs)
        rw [List.length_cons] at a2
        rw [hp.ff]
        omega
end P20

set_option Elab.async false
set_option linter.all false
set_option maxRecDepth 100000
set_option maxHeartbeats 4000000
namespace Sh
open PySem L2 Mi P20
def amT (am : List (Int × Int)) : D := .tup (am.map prQd)
def rwT (r : List Int) : D := .tup (r.map D.int)
theorem parts_ok {am : List (Int × Int)} (hl : am.length ≤ 1000) {k : Nat} (hk : k < 1000) {u : PuS} {P : D → PuS → Prop} (h : P (rwT (pts am k)) u) : Ok (mf_parts [amT am, .int k]) u P := by
  unfold mf_parts mb_parts amT
  simp
  refine ⟨by omega, ?_⟩
  refine ok_lca (fun q => [.sh (.tup (am.map prQd)), .sh (.int k), .sh (.int q.1), .sh (.int q.2)]) (fun q => .int (wor q.1 q.2 (k + 1) - wor q.1 q.2 k)) ?_ ?_ ?_
  · intro q hq; rfl
  · intro q hq
    unfold ce_parts_1
    simp
    refine part_ok (by omega) ?_
    simp
  unfold rwT pts at h
  rw [List.map_map] at h
  exact h
theorem rep0 (n : Nat) (hn : n ≤ 1000) : mulD (.lst [.int 0]) (.int (n : Int)) = some (.lst ((List.replicate n (0 : Int)).map D.int)) := by
  have : mulD (.lst [.int 0]) (.int (n : Int)) = some (.lst (List.replicate (n : Int).toNat [D.int 0]).flatten) := if_pos ⟨by omega, by omega, by simp; omega⟩
  rw [this]
  congr 2
  simp
theorem zeros (am : List (Int × Int)) : (am.map fun _ => (0 : Int)) = List.replicate am.length 0 := by
  induction am with
  | nil => rfl
  | cons q am ih => rw [List.map_cons, ih]; rfl
theorem bounds_ok {am : List (Int × Int)} (ha : Am am) (hl : am.length ≤ 1000) {x : Int} (hx : 0 ≤ x) {u : PuS} {P : D → PuS → Prop} (h : P (.tup [rwT (lows am x), rwT (highs am x)]) u) : Ok (mf_bounds [amT am, .int x]) u P := by
  unfold mf_bounds mb_bounds
  rw [ok_fn]
  refine seq_go fun K R hK hR => ?_
  have hln : lenD [amT am] = some (.int am.length) := by unfold amT; simp
  by_cases h0 : x = 0
  · subst h0
    simp [hln, rep0 am.length hl]
    refine hR _ _ ?_
    unfold lows highs at h
    rw [if_pos rfl, zeros] at h
    simpa [rwT] using h
  simp [h0]
  refine hK _ _ ?_
  clear hK hR K R
  obtain ⟨hL, h24⟩ := lev_is ha (x := x) (by omega)
  have e1 : lows am x = pts am (lev am x + 1) := if_neg h0
  have e2 : highs am x = pts am (lev am x) := if_neg h0
  rw [e1, e2] at h
  generalize lev am x = L at hL h24 h
  refine seq_go fun K R hK hR => ?_
  simp
  refine hK _ _ ?_
  clear hK hR K R
  refine seq_go fun K R hK hR => ?_
  simp
  refine ok_while (fun n ρ u' => u' = u ∧ ∃ k : Nat, n + k = L ∧ ρ = [.sh (amT am), .sh (.int x), .sh (.int k)]) ?_ L 100000 _ _ (by omega) ⟨rfl, 0, by omega, rfl⟩
  · rintro n ρ u' ⟨rfl, k, hk, rfl⟩
    simp only [ok_B, ok_bin, ok_var, ok_C, ok_CB, ok_call, ok_cons, ok_nil, s_vSh, List.getElem?_cons_succ, List.getElem?_cons_zero, Option.some.injEq, exists_eq_left', s_add, List.length_cons, List.length_nil, Nat.reduceAdd, true_and]
    have ek : ((k : Int) + 1) = ((k + 1 : Nat) : Int) := by omega
    rw [ek]
    refine parts_ok hl (by omega) ?_
    unfold rwT
    refine ⟨_, s_sumT, ?_⟩
    simp only [s_ge, Option.some.injEq, exists_eq_left', onB_bl]
    refine brd (fun z => ?_) (fun z => ?_)
    · have hlt : k < L := by
        rcases Nat.lt_or_ge k L with q | q
        · exact q
        · have : k = L := by omega
          subst this
          have := hL.1
          omega
      refine ⟨n - 1, by omega, ?_⟩
      unfold lb_bounds_1
      simp
      exact ⟨k + 1, by omega, by simp⟩
    · have hkL : k = L := by
        rcases Nat.lt_or_ge k L with q | q
        · have := hL.2 k q
          omega
        · omega
      subst hkL
      refine hK _ _ ?_
      simp
      rw [ek]
      refine parts_ok hl (by omega) ?_
      refine parts_ok hl (by omega) ?_
      exact h
theorem zip_at2 {am : List (Int × Int)} {ys : List Int} : zipD (am.map prQd) (ys.map D.int) = (am.zip ys).map fun q => .tup [prQd q.1, .int q.2] := by
  unfold zipD
  rw [List.zip_map, List.map_map]
  rfl
theorem left_behind_ok {am : List (Int × Int)} {ys : List Int} (hl : am.length ≤ 1000) {u : PuS} {P : D → PuS → Prop} (h : P (amT (lbh am ys)) u) : Ok (mf_left_behind [amT am, rwT ys]) u P := by
  unfold mf_left_behind mb_left_behind amT rwT
  have ez : zipA2 [.tup (am.map prQd), .tup (ys.map D.int)] = some ((am.zip ys).map fun q => .tup [prQd q.1, .int q.2]) := by
    show some (zipD (am.map prQd) (ys.map D.int)) = _
    rw [zip_at2]
  simp [ez]
  refine ⟨by omega, ?_⟩
  refine ok_lca (fun q => [.sh (.tup (am.map prQd)), .sh (.tup (ys.map D.int)), .sh (.int q.2), .sh (.int q.1.1), .sh (.int q.1.2)]) (fun q => prQd (q.1.1 - q.2, q.1.2)) ?_ ?_ ?_
  · intro q hq; rfl
  · intro q hq
    unfold ce_left_behind_1
    simp [prQd]
  unfold amT lbh at h
  rw [List.map_map] at h
  exact h
theorem lows_len (am : List (Int × Int)) (x : Int) : (lows am x).length = am.length := by
  unfold lows
  split
  · simp
  · rw [pts_len]
theorem lbh_len {am : List (Int × Int)} {ys : List Int} (h : ys.length = am.length) : (lbh am ys).length = am.length := by
  unfold lbh
  rw [List.length_map, List.length_zip, h, Nat.min_self]
theorem evs0_of {evs : List Ev} (h : ∀ e ∈ evs, evOk e) : Evs0 evs := ⟨fun q hq => h _ hq, fun x hx => h _ hx⟩
end Sh

set_option Elab.async false
set_option linter.all false
set_option maxRecDepth 100000
set_option maxHeartbeats 4000000
/-! D8m: one course is no harder than another. -/
namespace P20
/-- so many bills of a course, with this value -/
inductive Pk : List Ev → Nat → Int → Prop
  | nil : Pk [] 0 0
  | card {b l v : Int} {rest : List Ev} {k : Nat} (h : Pk rest k v) : Pk (.inr (b, l) :: rest) k (v - wor b l k)
  | skip {x v : Int} {rest : List Ev} {k : Nat} (h : Pk rest k v) : Pk (.inl x :: rest) k v
  | take {x v : Int} {rest : List Ev} {k : Nat} (h : Pk rest k v) : Pk (.inl x :: rest) (k + 1) (x + v)
theorem Pk.of {i : Int} {evs : List Ev} {s : List Int} {v : Int} (h : Sel i evs s v) : Pk evs s.length v := by
  induction h with
  | nil => exact .nil
  | card h ih => exact .card ih
  | skip h ih => exact .skip ih
  | take h ih => exact .take ih
theorem Pk.sel {evs : List Ev} {k : Nat} {v : Int} (h : Pk evs k v) : ∀ i : Int, ∃ s, Sel i evs s v ∧ s.length = k := by
  induction h with
  | nil => intro i; exact ⟨[], .nil i, rfl⟩
  | card h ih =>
    intro i
    obtain ⟨s, h1, h2⟩ := ih (i + 1)
    subst h2
    exact ⟨s, .card h1, rfl⟩
  | skip h ih => intro i; obtain ⟨s, h1, h2⟩ := ih (i + 1); exact ⟨s, .skip h1, h2⟩
  | take h ih => intro i; obtain ⟨s, h1, h2⟩ := ih (i + 1); exact ⟨i :: s, .take h1, by simp [h2]⟩
def Dom (e e' : List Ev) : Prop := ∀ k v, Pk e k v → ∃ k' v', Pk e' k' v' ∧ k' ≤ k ∧ v ≤ v'
theorem Pk.zero {evs : List Ev} (hc : ∀ q, Sum.inr q ∈ evs → (0 : Int) ≤ q.1) {k : Nat} {v : Int} (h : Pk evs k v) : k = 0 → v = 0 := by
  induction h with
  | nil => intro _; rfl
  | @card b l v rest k h ih =>
    intro e
    have h0 : (0 : Int) ≤ b := hc (b, l) List.mem_cons_self
    have := ih (fun q hq => hc q (List.mem_cons_of_mem _ hq)) e
    subst e
    rw [wor_zero h0]
    omega
  | skip h ih => intro e; exact ih (fun q hq => hc q (List.mem_cons_of_mem _ hq)) e
  | take h ih => intro e; cases e
theorem Falls.of_least {t : Int} {ss row : List Int} (h : Least t ss row) : Falls row := ⟨h.pos, h.falls⟩
theorem asks_at {evs : List Ev} {n : Nat} {s : Int} (h : (asks evs)[n]? = some s) : Pk evs (n + 1) s := by
  unfold asks at h
  rw [List.getElem?_drop, List.getElem?_map] at h
  cases e : (asked 0 evs)[1 + n]? with
  | none => rw [e] at h; cases h
  | some q =>
    rw [e] at h
    cases h
    obtain ⟨h1, h2, _⟩ := (asked_tab evs 0).at_ _ _ _ e
    have := Pk.of h2
    rw [h1, Nat.add_comm] at this
    exact this
theorem asks_le {evs : List Ev} {k : Nat} {v : Int} (h : Pk evs (k + 1) v) : ∃ s, (asks evs)[k]? = some s ∧ v ≤ s := by
  obtain ⟨s', h1, h2⟩ := h.sel 0
  have hl := h1.len
  have hk : k + 1 < (asked 0 evs).length := by rw [asked_len]; omega
  have e : (asked 0 evs)[k + 1]? = some (asked 0 evs)[k + 1] := List.getElem?_eq_getElem hk
  obtain ⟨_, _, h3⟩ := (asked_tab evs 0).at_ _ _ _ e
  refine ⟨_, ?_, h3 s' v h1 h2⟩
  unfold asks
  rw [List.getElem?_drop, List.getElem?_map, Nat.add_comm, e]
  rfl
theorem Dom.form {e e' : List Ev} {row row' : List Int} (hc : ∀ q, Sum.inr q ∈ e' → (0 : Int) ≤ q.1) (h : Dom e e') (r : Least 0 (asks e) row) (r' : Least 0 (asks e') row') : ∀ n, sumN row n ≤ sumN row' n := by
  have hn : ∀ x ∈ row', (0 : Int) ≤ x := fun x hx => Int.le_of_lt (r'.pos x hx)
  refine r.least (Falls.of_least r') fun n s hs => ?_
  obtain ⟨k', v', h1, h2, h3⟩ := h _ _ (asks_at hs)
  have h4 : v' ≤ sumN row' k' := by
    cases k' with
    | zero => rw [h1.zero hc rfl]; simp [sumN]
    | succ k =>
      obtain ⟨s', e1, e2⟩ := asks_le h1
      have := r'.cover k s' e1
      omega
  have h5 := sumN_le hn h2
  omega
theorem Dom.refl (e : List Ev) : Dom e e := fun k v h => ⟨k, v, h, Nat.le_refl _, Int.le_refl _⟩
theorem Dom.trans {a b c : List Ev} (h : Dom a b) (h2 : Dom b c) : Dom a c := fun k v hk => by
  obtain ⟨k', v', h1, h3, h4⟩ := h _ _ hk
  obtain ⟨k2, v2, h5, h6, h7⟩ := h2 _ _ h1
  exact ⟨k2, v2, h5, by omega, by omega⟩
/-! ### bills alone -/
def bl_ (bs : List Int) : List Ev := bs.map Sum.inl
/-- bills ahead of others -/
theorem pk_bills : ∀ {bs : List Int} {rest : List Ev} {k : Nat} {v : Int}, Pk (bl_ bs ++ rest) k v ↔ ∃ (t : List Int) (k' : Nat) (v' : Int), t.Sublist bs ∧ Pk rest k' v' ∧ k = t.length + k' ∧ v = t.sum + v'
  | [], rest, k, v => by
    constructor
    · intro h; exact ⟨[], k, v, .slnil, h, by simp, by simp⟩
    · rintro ⟨t, k', v', h1, h2, rfl, rfl⟩
      cases List.sublist_nil.mp h1
      simpa [bl_] using h2
  | b :: bs, rest, k, v => by
    have e : bl_ (b :: bs) ++ rest = Sum.inl b :: (bl_ bs ++ rest) := rfl
    rw [e]
    constructor
    · intro h
      cases h with
      | skip h =>
        obtain ⟨t, k', v', h1, h2, h3, h4⟩ := pk_bills.mp h
        exact ⟨t, k', v', .cons _ h1, h2, h3, h4⟩
      | take h =>
        obtain ⟨t, k', v', h1, h2, h3, h4⟩ := pk_bills.mp h
        exact ⟨b :: t, k', v', .cons₂ _ h1, h2, by simp; omega, by simp; omega⟩
    · rintro ⟨t, k', v', h1, h2, rfl, rfl⟩
      rcases List.sublist_cons_iff.mp h1 with h' | ⟨t', rfl, h'⟩
      · exact .skip (pk_bills.mpr ⟨t, k', v', h', h2, rfl, rfl⟩)
      · have := Pk.take (x := b) (pk_bills.mpr ⟨t', k', v', h', h2, rfl, rfl⟩)
        have e1 : (b :: t').length + k' = t'.length + k' + 1 := by simp; omega
        have e2 : (b :: t').sum + v' = b + (t'.sum + v') := by simp; omega
        rw [e1, e2]
        exact this
theorem pk_bl {bs : List Int} {k : Nat} {v : Int} : Pk (bl_ bs) k v ↔ ∃ t : List Int, t.Sublist bs ∧ k = t.length ∧ v = t.sum := by
  have := pk_bills (bs := bs) (rest := []) (k := k) (v := v)
  rw [List.append_nil] at this
  rw [this]
  constructor
  · rintro ⟨t, k', v', h1, h2, h3, h4⟩
    cases h2
    exact ⟨t, h1, by omega, by omega⟩
  · rintro ⟨t, h1, h3, h4⟩
    exact ⟨t, 0, 0, h1, .nil, by omega, by omega⟩
def DomB (a b : List Int) : Prop := ∀ t : List Int, t.Sublist a → ∃ t' : List Int, t'.Sublist b ∧ t'.length ≤ t.length ∧ t.sum ≤ t'.sum
theorem DomB.trans {a b c : List Int} (h : DomB a b) (h2 : DomB b c) : DomB a c := fun t ht => by
  obtain ⟨t', h1, h3, h4⟩ := h _ ht
  obtain ⟨t2, h5, h6, h7⟩ := h2 _ h1
  exact ⟨t2, h5, by omega, by omega⟩
theorem DomB.sub {a b : List Int} (h : a.Sublist b) : DomB a b := fun t ht => ⟨t, ht.trans h, Nat.le_refl _, Int.le_refl _⟩
theorem DomB.perm {a b : List Int} (h : a.Perm b) : DomB a b := by
  induction h with
  | nil => exact fun t ht => ⟨t, ht, Nat.le_refl _, Int.le_refl _⟩
  | cons x h ih =>
    intro t ht
    rcases List.sublist_cons_iff.mp ht with h' | ⟨t', rfl, h'⟩
    · obtain ⟨t2, h1, h2, h3⟩ := ih t h'
      exact ⟨t2, .cons _ h1, h2, h3⟩
    · obtain ⟨t2, h1, h2, h3⟩ := ih t' h'
      exact ⟨x :: t2, .cons₂ _ h1, by simp; omega, by simp; omega⟩
  | swap x y l =>
    intro t ht
    rcases List.sublist_cons_iff.mp ht with h' | ⟨t', rfl, h'⟩
    · rcases List.sublist_cons_iff.mp h' with h2 | ⟨t2, rfl, h2⟩
      · exact ⟨t, .cons _ (.cons _ h2), Nat.le_refl _, Int.le_refl _⟩
      · exact ⟨x :: t2, .cons₂ _ (.cons _ h2), Nat.le_refl _, Int.le_refl _⟩
    · rcases List.sublist_cons_iff.mp h' with h2 | ⟨t2, rfl, h2⟩
      · exact ⟨y :: t', .cons _ (.cons₂ _ h2), Nat.le_refl _, Int.le_refl _⟩
      · exact ⟨x :: y :: t2, .cons₂ _ (.cons₂ _ h2), by simp, by simp; omega⟩
  | trans h1 h2 i1 i2 => exact i1.trans i2
/-- a bill 0 put in -/
theorem DomB.zero (a b : List Int) : DomB (a ++ 0 :: b) (a ++ b) := by
  refine (DomB.perm List.perm_middle).trans fun t ht => ?_
  rcases List.sublist_cons_iff.mp ht with h' | ⟨t', rfl, h'⟩
  · exact ⟨t, h', Nat.le_refl _, Int.le_refl _⟩
  · exact ⟨t', h', by simp, by simp⟩
/-- a bill parted in two -/
theorem DomB.part (a b : List Int) {x p : Int} (h0 : 0 ≤ p) (h1 : p ≤ x) : DomB (a ++ p :: b ++ [x - p]) (a ++ x :: b) := by
  have e : (a ++ p :: b ++ [x - p]).Perm (p :: (x - p) :: (a ++ b)) := by
    refine List.perm_append_comm.trans ?_
    refine (List.Perm.cons _ List.perm_middle).trans ?_
    exact .swap _ _ _
  refine (DomB.perm e).trans (DomB.trans ?_ (DomB.perm (List.perm_middle (l₁ := a) (l₂ := b) (a := x)).symm))
  intro t ht
  rcases List.sublist_cons_iff.mp ht with h' | ⟨t', rfl, h'⟩
  · rcases List.sublist_cons_iff.mp h' with h2 | ⟨t2, rfl, h2⟩
    · exact ⟨t, .cons _ h2, Nat.le_refl _, Int.le_refl _⟩
    · exact ⟨x :: t2, .cons₂ _ h2, by simp, by simp; omega⟩
  · rcases List.sublist_cons_iff.mp h' with h2 | ⟨t2, rfl, h2⟩
    · exact ⟨x :: t', .cons₂ _ h2, by simp, by simp; omega⟩
    · exact ⟨x :: t2, .cons₂ _ h2, by simp, by simp; omega⟩
theorem sub_sum {t a : List Int} (h : t.Sublist a) (h0 : ∀ x ∈ a, (0 : Int) ≤ x) : t.sum ≤ a.sum := by
  induction h with
  | slnil => exact Int.le_refl _
  | cons x h ih =>
    have := ih fun y hy => h0 y (List.mem_cons_of_mem _ hy)
    have := h0 x List.mem_cons_self
    simp; omega
  | cons_cons x h ih =>
    have := ih fun y hy => h0 y (List.mem_cons_of_mem _ hy)
    simp; omega
/-- the first ones made one -/
theorem DomB.join (a b : List Int) (h0 : ∀ x ∈ a, (0 : Int) ≤ x) : DomB (a ++ b) ([a.sum] ++ b) := fun t ht => by
  obtain ⟨t1, t2, rfl, h1, h2⟩ := List.sublist_append_iff.mp ht
  cases t1 with
  | nil => exact ⟨t2, .cons _ h2, by simp, by simp⟩
  | cons y t1 =>
    have := sub_sum h1 h0
    refine ⟨a.sum :: t2, .cons₂ _ h2, by simp, ?_⟩
    rw [List.sum_append, List.sum_cons (a := a.sum)]
    omega
/-! ### one card amid the bills -/
end P20

set_option Elab.async false
set_option linter.all false
set_option maxRecDepth 100000
set_option maxHeartbeats 4000000
/-! B8l: courses of bills alone (k88, k89). -/
namespace S2
open PySem L2 Mi P20 Sh
theorem bl_R (bs : List Int) : (bl_ bs).map evR = bs.map D.int := by unfold bl_; rw [List.map_map]; rfl
structure Bi (bs : List Int) : Prop where
  pos : ∀ x ∈ bs, (0 : Int) ≤ x
  len : bs.length ≤ 12
theorem Bi.ev {bs : List Int} (h : Bi bs) : ∀ e ∈ bl_ bs, evOk e := fun e he => by
  obtain ⟨x, hx, rfl⟩ := List.mem_map.mp he
  exact h.pos x hx
theorem nB_bl (bs : List Int) : nB (bl_ bs) = bs.length := by
  induction bs with
  | nil => rfl
  | cons x bs ih => show nB (.inl x :: bl_ bs) = _; rw [nB_inl, ih]; rfl
theorem nC_bl (bs : List Int) : nC (bl_ bs) = 0 := by
  induction bs with
  | nil => rfl
  | cons x bs ih => simpa [bl_, nC, isB] using ih
theorem Bi.evs {bs : List Int} (h : Bi bs) : EvsOk (bl_ bs) := ⟨h.ev, by rw [nB_bl]; exact h.len, by rw [nC_bl]; omega⟩
theorem Bi.perm {a b : List Int} (h : Bi a) (p : a.Perm b) : Bi b := ⟨fun x hx => h.pos x (p.mem_iff.mpr hx), by rw [← p.length_eq]; exact h.len⟩
noncomputable def pp (am : List (Int × Int)) (bs : List Int) : Bool := (ppl am (bl_ bs)).isSome
end S2


set_option Elab.async false
set_option linter.all false
set_option maxRecDepth 100000
set_option maxHeartbeats 4000000
/-! E6m: even rows. -/
namespace P20
theorem canp_pk {am : List (Int × Int)} {e : List Ev} {i : Int} : CanP i am e ↔ ∀ k v, Pk e k v → v ≤ FF am k := by
  constructor
  · intro h k v hk
    obtain ⟨s, h1, rfl⟩ := hk.sel i
    exact h _ _ h1
  · intro h s v hs
    exact h _ _ (Pk.of hs)
theorem canp_pw {am : List (Int × Int)} {fs : List Int} (h : fs.Pairwise (· ≥ ·)) {i : Int} : CanP i am (bl_ fs) ↔ ∀ k, k ≤ fs.length → (fs.take k).sum ≤ FF am k := by
  rw [canp_pk]
  constructor
  · intro hh k hk
    refine hh k _ (pk_bl.mpr ⟨fs.take k, List.take_sublist _ _, ?_, rfl⟩)
    rw [List.length_take]
    omega
  · intro hh k v hk
    obtain ⟨t, h1, rfl, rfl⟩ := pk_bl.mp hk
    exact Int.le_trans (sub_le h h1) (hh _ h1.length_le)
theorem conc_le {am : List (Int × Int)} (h : Am am) {i j : Nat} (hij : i ≤ j) : FF am (j + 1) - FF am j ≤ FF am (i + 1) - FF am i := by
  induction j with
  | zero => cases Nat.le_zero.mp hij; exact Int.le_refl _
  | succ j ih =>
    by_cases e : i = j + 1
    · subst e; exact Int.le_refl _
    · have := ih (by omega)
      have h2 : FF am (j + 1 + 1) - FF am (j + 1) ≤ FF am (j + 1) - FF am j := FF_conc h j
      omega
theorem FF_lowto {am : List (Int × Int)} (h : Am am) {c : Int} : ∀ j : Nat, (∀ i, i < j → c ≤ FF am (i + 1) - FF am i) → (j : Int) * c ≤ FF am j
  | 0, _ => by rw [FF_zero h]; simp
  | j + 1, hh => by
    have h1 := FF_lowto h j fun i hi => hh i (by omega)
    have h2 := hh j (by omega)
    rw [Int.natCast_add, Int.natCast_one, Int.add_mul, Int.one_mul]
    omega
theorem FF_upto {am : List (Int × Int)} {c : Int} {j : Nat} : ∀ m : Nat, (∀ i, j ≤ i → FF am (i + 1) - FF am i ≤ c) → FF am (j + m) ≤ FF am j + (m : Int) * c
  | 0, _ => by simp
  | m + 1, hh => by
    have h1 := FF_upto m hh
    have h2 := hh (j + m) (by omega)
    rw [Int.natCast_add, Int.natCast_one, Int.add_mul, Int.one_mul]
    have e : j + (m + 1) = j + m + 1 := by omega
    rw [e]
    omega
/-- a wallet that pays a sum in d days pays it evenly -/
theorem even_le {am : List (Int × Int)} (h : Am am) {d : Nat} (hd : 0 < d) {q r : Int} (hr : 0 ≤ r) (hT : (d : Int) * q + r ≤ FF am d) {j : Nat} (hj : j ≤ d) : (j : Int) * q + min (j : Int) r ≤ FF am j := by
  cases j with
  | zero => rw [FF_zero h]; simp; omega
  | succ j =>
    by_cases z : q + 1 ≤ FF am (j + 1) - FF am j
    · have h1 := FF_lowto h (c := q + 1) (j + 1) fun i hi => Int.le_trans z (conc_le h (by omega))
      rw [Int.mul_add, Int.mul_one] at h1
      have : min ((j + 1 : Nat) : Int) r ≤ ((j + 1 : Nat) : Int) := Int.min_le_left _ _
      omega
    · have h1 := FF_upto (am := am) (c := q) (j := j + 1) (d - (j + 1)) fun i hi => Int.le_trans (conc_le h (show j ≤ i by omega)) (by omega)
      rw [show j + 1 + (d - (j + 1)) = d by omega] at h1
      have e : (d : Int) * q = ((j + 1 : Nat) : Int) * q + ((d - (j + 1) : Nat) : Int) * q := by
        rw [← Int.add_mul]
        congr 1
        omega
      have : min ((j + 1 : Nat) : Int) r ≤ r := Int.min_le_right _ _
      omega
end P20

set_option Elab.async false
set_option linter.all false
set_option maxRecDepth 100000
set_option maxHeartbeats 4000000
/-! K5m: what is left behind a payment, and the best that can be left, plain. -/
namespace P20
open Mi L2
/-- payments as they may be -/
def Box : List (Int × Int) → List Int → Prop
  | [], [] => True
  | q :: am, y :: ys => (0 ≤ y ∧ y ≤ min q.1 q.2) ∧ Box am ys
  | _, _ => False
theorem box_sum : ∀ {am : List (Int × Int)} {ys : List Int}, Box am ys → 0 ≤ ys.sum ∧ ys.sum ≤ FF am 1
  | [], [], _ => ⟨Int.le_refl _, Int.le_refl _⟩
  | q :: am, y :: ys, h => by
    have := box_sum h.2
    have h1 := h.1
    rw [FF_cons, List.sum_cons]
    have : wor q.1 q.2 1 = min q.1 q.2 := by unfold wor; simp
    omega
  | [], _ :: _, h => by simp [Box] at h
  | _ :: _, [], h => by simp [Box] at h
theorem box_len : ∀ {am : List (Int × Int)} {ys : List Int}, Box am ys → ys.length = am.length
  | [], [], _ => rfl
  | q :: am, y :: ys, h => by rw [List.length_cons, List.length_cons, box_len h.2]
  | [], _ :: _, h => by simp [Box] at h
  | _ :: _, [], h => by simp [Box] at h
theorem box_am : ∀ {am : List (Int × Int)} {ys : List Int}, Am am → Box am ys → Am (lbh am ys)
  | [], [], _, _ => Am.nil
  | q :: am, y :: ys, ha, h => by
    obtain ⟨a1, a2, a3⟩ := ha q List.mem_cons_self
    have h1 := h.1
    exact Am.cons (q := (q.1 - y, q.2)) ⟨a1, by show 0 ≤ q.1 - y; omega, by show q.1 - y ≤ 24 * q.2; omega⟩ (box_am ha.tail h.2)
  | [], _ :: _, _, h => by simp [Box] at h
  | _ :: _, [], _, h => by simp [Box] at h
/-- the most that can be left -/
def best (am : List (Int × Int)) (x : Int) (k : Nat) : Int := min (FF am k) (FF am (k + 1) - x)
theorem wor_up {b l y : Int} (hl : 1 ≤ l) (hy : 0 ≤ y) (hyl : y ≤ min b l) (k : Nat) : wor (b - y) l k ≤ wor b l k ∧ wor (b - y) l k ≤ wor b l (k + 1) - y := by
  have e1 := succ_mul' k l
  unfold wor
  omega
theorem FF_up : ∀ {am : List (Int × Int)} {ys : List Int}, Am am → Box am ys → ∀ k, FF (lbh am ys) k ≤ FF am k ∧ FF (lbh am ys) k ≤ FF am (k + 1) - ys.sum
  | [], [], _, _, k => ⟨Int.le_refl _, Int.le_refl _⟩
  | q :: am, y :: ys, ha, h, k => by
    obtain ⟨a1, a2, a3⟩ := ha q List.mem_cons_self
    have ih := FF_up ha.tail h.2 k
    have hw := wor_up a1 h.1.1 h.1.2 k
    have e : lbh (q :: am) (y :: ys) = (q.1 - y, q.2) :: lbh am ys := rfl
    rw [e, FF_cons, FF_cons, FF_cons, List.sum_cons]
    show wor (q.1 - y) q.2 k + FF (lbh am ys) k ≤ _ ∧ wor (q.1 - y) q.2 k + FF (lbh am ys) k ≤ _
    omega
  | [], _ :: _, _, h, _ => by simp [Box] at h
  | _ :: _, [], _, h, _ => by simp [Box] at h
theorem wor_low {b l y : Int} (hl : 1 ≤ l) (hb : 0 ≤ b) (hy : 0 ≤ y) (hyl : y ≤ min b l) (L : Nat) : (wor (b - y) l L = wor b l L → y ≤ wor b l (L + 1) - wor b l L) ∧ (wor (b - y) l (L + 1) = wor b l (L + 2) - y → wor b l (L + 2) - wor b l (L + 1) ≤ y) := by
  have e1 := succ_mul' L l
  have e2 : ((L + 2 : Nat) : Int) * l = ((L + 1 : Nat) : Int) * l + l := succ_mul' (L + 1) l
  have e6 : (0 : Int) ≤ (L : Int) * l := Int.mul_nonneg (by omega) (by omega)
  unfold wor
  omega
/-- what keeps the most at two levels is between the parts -/
theorem betw_of : ∀ {am : List (Int × Int)} {ys : List Int} {L : Nat}, Am am → Box am ys → FF am L ≤ FF (lbh am ys) L → FF am (L + 2) - ys.sum ≤ FF (lbh am ys) (L + 1) → Betw (pts am (L + 1)) ys (pts am L)
  | [], [], L, _, _, _, _ => trivial
  | q :: am, y :: ys, L, ha, h, h1, h2 => by
    obtain ⟨a1, a2, a3⟩ := ha q List.mem_cons_self
    have u1 := FF_up ha.tail h.2 L
    have u2 := FF_up ha.tail h.2 (L + 1)
    have w1 := wor_up a1 h.1.1 h.1.2 L
    have w2 := wor_up a1 h.1.1 h.1.2 (L + 1)
    have e : lbh (q :: am) (y :: ys) = (q.1 - y, q.2) :: lbh am ys := rfl
    rw [e, FF_cons, FF_cons] at h1
    rw [e, FF_cons, FF_cons, List.sum_cons] at h2
    have h1 : wor q.1 q.2 L + FF am L ≤ wor (q.1 - y) q.2 L + FF (lbh am ys) L := h1
    have h2 : wor q.1 q.2 (L + 2) + FF am (L + 2) - (y + ys.sum) ≤ wor (q.1 - y) q.2 (L + 1) + FF (lbh am ys) (L + 1) := h2
    have w2' : wor (q.1 - y) q.2 (L + 1) ≤ wor q.1 q.2 (L + 2) - y := w2.2
    have u2' : FF (lbh am ys) (L + 1) ≤ FF am (L + 2) - ys.sum := u2.2
    have wl := wor_low a1 a2 h.1.1 h.1.2 L
    exact ⟨wl.2 (by omega), wl.1 (by omega), betw_of ha.tail h.2 (by omega) (by omega)⟩
  | [], _ :: _, _, _, h, _, _ => by simp [Box] at h
  | _ :: _, [], _, _, h, _, _ => by simp [Box] at h
theorem box_zero : ∀ {am : List (Int × Int)} {ys : List Int}, Box am ys → ys.sum = 0 → ys = am.map fun _ => 0
  | [], [], _, _ => rfl
  | q :: am, y :: ys, h, h0 => by
    have := box_sum h.2
    have h1 := h.1
    rw [List.sum_cons] at h0
    have e : y = 0 := by omega
    rw [e, List.map_cons, ← box_zero h.2 (by omega)]
  | [], _ :: _, h, _ => by simp [Box] at h
  | _ :: _, [], h, _ => by simp [Box] at h
/-- a payment is between the bounds just if it leaves the best -/
theorem sparing_iff {am : List (Int × Int)} {ys : List Int} (ha : Am am) (hb : Box am ys) : Betw (lows am ys.sum) ys (highs am ys.sum) ↔ ∀ k, best am ys.sum k ≤ FF (lbh am ys) k := by
  obtain ⟨x0, x1⟩ := box_sum hb
  by_cases hx : ys.sum = 0
  · have e1 : lows am ys.sum = am.map (fun _ => 0) := if_pos hx
    have e2 : highs am ys.sum = am.map (fun _ => 0) := if_pos hx
    rw [e1, e2]
    have hz := box_zero hb hx
    constructor
    · intro _ k
      unfold best
      rw [hz, lbh_zero]
      omega
    · intro _
      rw [hz]
      exact betw_zero am
  · have e1 : lows am ys.sum = pts am (lev am ys.sum + 1) := if_neg hx
    have e2 : highs am ys.sum = pts am (lev am ys.sum) := if_neg hx
    obtain ⟨hL, hL24⟩ := lev_is ha (x := ys.sum) (by omega)
    have ht := hL.top x1 ha
    have hlt := hL.1
    rw [e1, e2]
    generalize lev am ys.sum = L at hL hL24 ht hlt
    have p1 := pts_sum am L
    have p2 := pts_sum am (L + 1)
    constructor
    · intro h k
      obtain ⟨f1, f2, _⟩ := FF_paid ha h
      unfold best
      by_cases hk : k ≤ L
      · rw [f1 k hk]; omega
      · rw [f2 k (by omega)]; omega
    · intro h
      have g1 := h L
      have g2 := h (L + 1)
      unfold best at g1 g2
      refine betw_of ha hb (by omega) ?_
      have p2' : (pts am (L + 1)).sum = FF am (L + 2) - FF am (L + 1) := p2
      have g2' : min (FF am (L + 1)) (FF am (L + 2) - ys.sum) ≤ FF (lbh am ys) (L + 1) := g2
      omega
end P20

set_option Elab.async false
set_option linter.all false
set_option maxRecDepth 100000
set_option maxHeartbeats 4000000
/-! K6m: the row left behind a sparing payment, plain. -/
namespace P20
open Mi L2
theorem sumN_zero (row : List Int) : sumN row 0 = 0 := by cases row <;> rfl
theorem sumN_append : ∀ (a b : List Int) (k : Nat), sumN (a ++ b) k = sumN a k + sumN b (k - a.length)
  | [], b, k => by simp [sumN_nil]
  | x :: a, b, 0 => by
    rw [sumN_zero, sumN_zero, Nat.zero_sub, sumN_zero]
    rfl
  | x :: a, b, k + 1 => by
    have ih := sumN_append a b k
    show x + sumN (a ++ b) k = x + sumN a k + sumN b (k + 1 - (a.length + 1))
    rw [ih, show k + 1 - (a.length + 1) = k - a.length by omega]
    omega
theorem sumN_takeN : ∀ (row : List Int) (L k : Nat), sumN (row.take L) k = sumN row (min k L)
  | [], L, k => by simp [sumN_nil]
  | x :: row, 0, k => by simp [sumN_nil, sumN_zero]
  | x :: row, L + 1, 0 => by simp [sumN_zero]
  | x :: row, L + 1, k + 1 => by
    have ih := sumN_takeN row L k
    show x + sumN (row.take L) k = _
    rw [ih, show min (k + 1) (L + 1) = min k L + 1 by omega]
    rfl
theorem sumN_dropN : ∀ (row : List Int) (m k : Nat), sumN (row.drop m) k = sumN row (m + k) - sumN row m
  | row, 0, k => by simp [sumN_zero]
  | [], m + 1, k => by simp [sumN_nil]
  | x :: row, m + 1, k => by
    have ih := sumN_dropN row m k
    show sumN (row.drop m) k = _
    rw [ih, show m + 1 + k = (m + k) + 1 by omega]
    show _ = x + sumN row (m + k) - (x + sumN row m)
    omega
/-- what is left of a row -/
def takenL (row : List Int) (x : Int) : List Int :=
  if x = 0 then row else
    let L := (row.filter fun y => decide (x ≤ y)).length - 1
    let rest := row.getD L 0 + row.getD (L + 1) 0 - x
    row.take L ++ (if 0 < rest then [rest] else []) ++ row.drop (L + 2)
theorem range_filter (d m : Nat) (h : m ≤ d) : (List.range d).filter (fun k => decide (k < m)) = List.range m := by
  induction d with
  | zero =>
    have : m = 0 := by omega
    subst this
    rfl
  | succ d ih =>
    rw [List.range_succ, List.filter_append]
    by_cases hm : m = d + 1
    · subst hm
      rw [List.filter_eq_self.mpr fun k hk => decide_eq_true (by have := List.mem_range.mp hk; omega), List.filter_cons_of_pos (by simp), List.filter_nil, ← List.range_succ]
    · rw [ih (by omega), List.filter_cons_of_neg (by simp; omega), List.filter_nil, List.append_nil]
theorem row_filter {am : List (Int × Int)} (ha : Am am) {row : List Int} (hr : IsRow am row) {x : Int} (hx : 0 < x) (h1 : x ≤ FF am 1) : (row.filter fun y => decide (x ≤ y)).length = lev am x + 1 ∧ lev am x < row.length := by
  obtain ⟨hL, h24⟩ := lev_is ha hx
  have ht := hL.top h1 ha
  have hlt := hL.1
  have hsum := hr.sum ha
  obtain ⟨d, hd, hm, hnm, rfl⟩ := hr
  have hlen : ((List.range d).map fun k => FF am (k + 1) - FF am k).length = d := by simp
  have hLd : lev am x < d := by
    rcases Nat.lt_or_ge (lev am x) d with z | z
    · exact z
    · have e1 := hsum (lev am x)
      have e2 := hsum (lev am x + 1)
      rw [sumN_flat _ _ (by rw [hlen]; omega)] at e1 e2
      have e3 := pts_sum am (lev am x)
      omega
  refine ⟨?_, by rw [hlen]; exact hLd⟩
  rw [List.filter_map, List.length_map]
  have key : ∀ k, ((fun y => decide (x ≤ y)) ∘ fun k => FF am (k + 1) - FF am k) k = decide (k < lev am x + 1) := fun k => by
    show decide (x ≤ FF am (k + 1) - FF am k) = _
    have e3 := pts_sum am k
    by_cases hk : k < lev am x + 1
    · have := pts_fall ha (show k ≤ lev am x by omega)
      rw [decide_eq_true hk, decide_eq_true (by omega)]
    · have := pts_fall ha (show lev am x + 1 ≤ k by omega)
      rw [decide_eq_false hk, decide_eq_false (by omega)]
  rw [List.filter_congr fun k _ => key k, range_filter d (lev am x + 1) (by omega), List.length_range]
theorem taken_best {am : List (Int × Int)} (ha : Am am) {row : List Int} (hr : IsRow am row) {x : Int} (h0 : 0 ≤ x) (h1 : x ≤ FF am 1) : (∀ k, sumN (takenL row x) k = best am x k) ∧ (takenL row x).length ≤ 24 := by
  have hlen := hr.len
  have hsum := hr.sum ha
  unfold takenL
  by_cases hx : x = 0
  · subst hx
    rw [if_pos rfl]
    refine ⟨fun k => ?_, hlen⟩
    rw [hsum]
    unfold best
    have := FF_mono ha k
    omega
  · rw [if_neg hx]
    obtain ⟨f1, f2⟩ := row_filter ha hr (show 0 < x by omega) h1
    obtain ⟨hL, h24⟩ := lev_is ha (x := x) (by omega)
    have ht := hL.top h1 ha
    have hlt := hL.1
    dsimp only
    rw [f1, Nat.add_sub_cancel]
    generalize lev am x = L at *
    have s1 := sumN_app L row
    have s2 := sumN_app (L + 1) row
    rw [hsum, hsum] at s1 s2
    have p1 := pts_sum am L
    have p2 := pts_sum am (L + 1)
    have p2' : (pts am (L + 1)).sum = FF am (L + 2) - FF am (L + 1) := p2
    have s2' : FF am (L + 2) = FF am (L + 1) + row.getD (L + 1) 0 := s2
    have hm := FF_mono ha (L + 1)
    have hm' : FF am (L + 1) ≤ FF am (L + 2) := hm
    have htl : (row.take L).length = L := by rw [List.length_take]; omega
    refine ⟨fun k => ?_, ?_⟩
    · rw [List.append_assoc, sumN_append, sumN_takeN, hsum, htl]
      unfold best
      by_cases hk : k ≤ L
      · have := pts_fall ha hk
        have p3 := pts_sum am k
        rw [show min k L = k by omega, show k - L = 0 by omega, sumN_zero]
        omega
      · have := pts_fall ha (show L + 1 ≤ k by omega)
        have p3 := pts_sum am k
        rw [show min k L = L by omega, sumN_append, sumN_dropN, hsum, hsum]
        split
        · rename_i hrest
          have e1 : sumN [row.getD L 0 + row.getD (L + 1) 0 - x] (k - L) = row.getD L 0 + row.getD (L + 1) 0 - x := by
            rw [show k - L = (k - L - 1) + 1 by omega]
            show (row.getD L 0 + row.getD (L + 1) 0 - x) + sumN [] (k - L - 1) = _
            rw [sumN_nil, Int.add_zero]
          rw [e1]
          simp only [List.length_cons, List.length_nil]
          rw [show L + 2 + (k - L - (0 + 1)) = k + 1 by omega]
          omega
        · rename_i hrest
          rw [sumN_nil]
          simp only [List.length_nil, Nat.sub_zero]
          have hz : FF am (L + 2) = FF am (L + 1) := by omega
          have hflat : ∀ j, FF am (L + 1 + j) = FF am (L + 1) := fun j => by
            induction j with
            | zero => rfl
            | succ j ih =>
              have q1 := pts_fall ha (show L + 1 ≤ L + 1 + j by omega)
              have q2 := pts_sum am (L + 1 + j)
              have q3 := FF_mono ha (L + 1 + j)
              show FF am (L + 1 + j + 1) = _
              omega
          have g1 := hflat (1 + (k - L))
          have g2 := hflat (k - L)
          rw [show L + 1 + (1 + (k - L)) = L + 2 + (k - L) by omega] at g1
          rw [show L + 1 + (k - L) = k + 1 by omega] at g2
          omega
    · rw [List.length_append, List.length_append, htl, List.length_drop]
      split <;> simp <;> omega
end P20

set_option Elab.async false
set_option linter.all false
set_option maxRecDepth 100000
set_option maxHeartbeats 4000000
/-! K7m: few cards with a given row, plain. -/
namespace P20
open Mi L2
/-- what falls are worth: the first at day d -/
def WW (d : Nat) : List Int → Nat → Int
  | [], _ => 0
  | a :: r, k => a * ((min k d : Nat) : Int) + WW (d + 1) r k
/-- few cards -/
def few : Nat → List Int → List (Int × Int)
  | d, a :: b :: r =>
    if a = 0 then few (d + 1) (b :: r)
    else if b = 0 then ((d : Int) * (a + b) + b, a + b) :: few (d + 1) (b :: r)
    else ((d : Int) * (a + b) + b, a + b) :: few (d + 2) r
  | _, _ => []
termination_by _ l => l.length
end P20


set_option Elab.async false
set_option linter.all false
set_option maxRecDepth 100000
set_option maxHeartbeats 4000000
/-! K8m: all ways of paying, gone through, plain. -/
namespace P20
open Mi L2
/-- some payments pay the events -/
def PayX : List (Int × Int) → List Ev → Prop
  | _, [] => True
  | am, .inr q :: r => PayX (am ++ [q]) r
  | am, .inl x :: r => ∃ ys, Box am ys ∧ ys.sum = x ∧ PayX (lbh am ys) r
theorem box_of_betw : ∀ {as ys bs : List Int} {am : List (Int × Int)}, Betw as ys bs → as.length = am.length → (∀ (i : Nat) (a : Int), as[i]? = some a → 0 ≤ a) → (∀ (i : Nat) (b : Int) (q : Int × Int), bs[i]? = some b → am[i]? = some q → b ≤ min q.1 q.2) → Box am ys
  | [], [], [], [], _, _, _, _ => trivial
  | [], [], [], _ :: _, _, hl, _, _ => by simp at hl
  | a :: as, y :: ys, b :: bs, [], _, hl, _, _ => by simp at hl
  | a :: as, y :: ys, b :: bs, q :: am, h, hl, h0, h1 => by
    refine ⟨⟨?_, ?_⟩, box_of_betw h.2.2 (by simpa using hl) (fun i a e => h0 (i + 1) a (by simpa using e)) fun i b q e e' => h1 (i + 1) b q (by simpa using e) (by simpa using e')⟩
    · have := h0 0 a rfl
      have := h.1
      omega
    · have := h1 0 b q rfl rfl
      have := h.2.1
      omega
  | [], _ :: _, _, _, h, _, _, _ => by simp [Betw] at h
  | [], [], _ :: _, _, h, _, _, _ => by simp [Betw] at h
  | _ :: _, [], _, _, h, _, _, _ => by simp [Betw] at h
  | _ :: _, _ :: _, [], _, h, _, _, _ => by simp [Betw] at h
theorem wor_inc {b l : Int} (hb : 0 ≤ b) (hl : 1 ≤ l) (k : Nat) : 0 ≤ wor b l (k + 1) - wor b l k ∧ wor b l (k + 1) - wor b l k ≤ min b l := by
  have e := succ_mul' k l
  have e6 : (0 : Int) ≤ (k : Int) * l := Int.mul_nonneg (by omega) (by omega)
  unfold wor
  omega
theorem pay_box {am : List (Int × Int)} (ha : Am am) {x : Int} (h0 : 0 ≤ x) (h1 : x ≤ FF am 1) : Box am (pay am x) := by
  have hp := pay_is ha h0 h1
  have hl : (lows am x).length = am.length := by unfold lows; split <;> simp [pts_len]
  refine box_of_betw hp.btw hl (fun i a e => ?_) fun i b q e e' => ?_
  · unfold lows at e
    split at e
    · rw [List.getElem?_map] at e
      cases e0 : am[i]? with
      | none => rw [e0] at e; cases e
      | some q => rw [e0] at e; cases e; exact Int.le_refl _
    · unfold pts at e
      rw [List.getElem?_map] at e
      cases e0 : am[i]? with
      | none => rw [e0] at e; cases e
      | some q =>
        rw [e0] at e
        cases e
        obtain ⟨a1, a2, a3⟩ := ha q (List.mem_of_getElem? e0)
        exact (wor_inc a2 a1 _).1
  · obtain ⟨a1, a2, a3⟩ := ha q (List.mem_of_getElem? e')
    unfold highs at e
    split at e
    · rw [List.getElem?_map, e'] at e
      cases e
      show (0 : Int) ≤ _
      omega
    · unfold pts at e
      rw [List.getElem?_map, e'] at e
      cases e
      exact (wor_inc a2 a1 _).2
theorem payx_iff : ∀ {evs : List Ev} {am : List (Int × Int)} (i : Int), Am am → Evs0 evs → (PayX am evs ↔ CanP i am evs)
  | [], am, i, ha, _ => by
    constructor
    · intro _ s v h
      cases h
      exact FF_nonneg ha _
    · intro _; trivial
  | .inr (b, l) :: r, am, i, ha, he => by
    have hq := he.1 (b, l) List.mem_cons_self
    have ih := payx_iff (evs := r) (am := am ++ [(b, l)]) (i + 1) (ha.append (Am.cons hq Am.nil)) he.tail
    show PayX (am ++ [(b, l)]) r ↔ _
    rw [ih]
    have e1 : ∀ k, FF (am ++ [(b, l)]) k = FF am k + wor b l k := fun k => by rw [FF_append, FF_cons, FF_nil]; simp
    constructor
    · intro h s v hs
      cases hs with
      | card hs =>
        have := h _ _ hs
        rw [e1] at this
        omega
    · intro h s v hs
      have := h _ _ (Sel.card (b := b) (l := l) hs)
      rw [e1]
      omega
  | .inl x :: r, am, i, ha, he => by
    have hx := he.2 x List.mem_cons_self
    show (∃ ys, Box am ys ∧ ys.sum = x ∧ PayX (lbh am ys) r) ↔ _
    constructor
    · rintro ⟨ys, hb, hs, hp⟩ s v hv
      have h := (payx_iff (evs := r) (i + 1) (box_am ha hb) he.tail).mp hp
      have f := FF_up ha hb
      cases hv with
      | skip hv =>
        have := h _ _ hv
        have := (f _).1 |> Int.le_trans this
        exact this
      | take hv =>
        have h1 := h _ _ hv
        have h2 := (f _).2 |> Int.le_trans h1
        rw [List.length_cons]
        omega
    · intro h
      have h1 : x ≤ FF am 1 := by
        have := h _ _ (Sel.take (x := x) (sel_nil (evs := r) (i + 1) fun q hq => (he.tail.1 q hq).2.1))
        have e : FF am ([i] : List Int).length = FF am 1 := rfl
        rw [e] at this
        omega
      have hp := pay_is ha hx h1
      refine ⟨pay am x, pay_box ha hx h1, hp.sum, (payx_iff (evs := r) (i + 1) hp.am_ he.tail).mpr fun s v hs => ?_⟩
      have a1 := h _ _ (Sel.skip (x := x) hs)
      have a2 := h _ _ (Sel.take (x := x) hs)
      rw [List.length_cons] at a2
      rw [hp.ff]
      omega
/-! ### the ways to pay one bill -/
def wstep (q : Int × Int) (fs : List (List Int × Int)) : List (List Int × Int) := fs.flatMap fun f => (List.range (min (min q.1 q.2) f.2 + 1).toNat).map fun i : Nat => (f.1 ++ [(i : Int)], f.2 - (i : Int))
def wall (fs : List (List Int × Int)) (am : List (Int × Int)) : List (List Int × Int) := am.foldl (fun fs q => wstep q fs) fs
def ways (am : List (Int × Int)) (x : Int) : List (List Int) := ((wall [([], x)] am).filter fun f => decide (f.2 = 0)).map Prod.fst
theorem mem_wall : ∀ (am : List (Int × Int)) (fs : List (List Int × Int)) (ys : List Int) (r : Int), (∀ f ∈ fs, 0 ≤ f.2) → (∀ q ∈ am, 0 ≤ q.1 ∧ 0 ≤ q.2) → ((ys, r) ∈ wall fs am ↔ ∃ f ∈ fs, ∃ zs, Box am zs ∧ ys = f.1 ++ zs ∧ r = f.2 - zs.sum ∧ 0 ≤ r)
  | [], fs, ys, r, h0, _ => by
    show (ys, r) ∈ fs ↔ _
    constructor
    · intro h
      exact ⟨(ys, r), h, [], trivial, by simp, by simp, h0 _ h⟩
    · rintro ⟨⟨f1, f2⟩, hf, zs, hb, rfl, rfl, _⟩
      have : zs = [] := by
        have := box_len hb
        exact List.length_eq_zero_iff.mp this
      subst this
      simpa using hf
  | q :: am, fs, ys, r, h0, ha => by
    have hq := ha q List.mem_cons_self
    have h1 : ∀ f ∈ wstep q fs, 0 ≤ f.2 := fun f hf => by
      obtain ⟨g, hg, hf⟩ := List.mem_flatMap.mp hf
      obtain ⟨i, hi, rfl⟩ := List.mem_map.mp hf
      have hi := List.mem_range.mp hi
      have := h0 g hg
      show 0 ≤ g.2 - (i : Int)
      omega
    show (ys, r) ∈ wall (wstep q fs) am ↔ _
    rw [mem_wall am (wstep q fs) ys r h1 fun x hx => ha x (List.mem_cons_of_mem _ hx)]
    constructor
    · rintro ⟨f, hf, zs, hb, rfl, rfl, hr⟩
      obtain ⟨g, hg, hf⟩ := List.mem_flatMap.mp hf
      obtain ⟨i, hi, rfl⟩ := List.mem_map.mp hf
      have hi := List.mem_range.mp hi
      have := h0 g hg
      refine ⟨g, hg, (i : Int) :: zs, ⟨⟨by omega, by omega⟩, hb⟩, by simp, by simp; omega, hr⟩
    · rintro ⟨g, hg, zs, hb, rfl, rfl, hr⟩
      cases zs with
      | nil => simp [Box] at hb
      | cons y zs =>
        have hy := hb.1
        have hs : ∀ {am : List (Int × Int)} {zs : List Int}, Box am zs → 0 ≤ zs.sum := fun {am zs} h => (box_sum h).1
        have hs0 := hs hb.2
        rw [List.sum_cons] at hr
        refine ⟨(g.1 ++ [y], g.2 - y), List.mem_flatMap.mpr ⟨g, hg, List.mem_map.mpr ⟨y.toNat, List.mem_range.mpr (by omega), ?_⟩⟩, zs, hb.2, by simp, by simp; omega, by rw [List.sum_cons]; exact hr⟩
        have : ((y.toNat : Nat) : Int) = y := by omega
        rw [this]
theorem mem_ways {am : List (Int × Int)} (ha : ∀ q ∈ am, 0 ≤ q.1 ∧ 0 ≤ q.2) {x : Int} (hx : 0 ≤ x) {ys : List Int} : ys ∈ ways am x ↔ Box am ys ∧ ys.sum = x := by
  unfold ways
  constructor
  · intro h
    obtain ⟨⟨y, r⟩, hf, rfl⟩ := List.mem_map.mp h
    obtain ⟨hf, hr⟩ := List.mem_filter.mp hf
    have hr : r = 0 := by simpa using hr
    subst hr
    obtain ⟨f, hf, zs, hb, e1, e2, _⟩ := (mem_wall am _ _ _ (fun f hf => by
      obtain rfl : f = ([], x) := by simpa using hf
      exact hx) ha).mp hf
    obtain rfl : f = ([], x) := by simpa using hf
    simp at e1 e2
    subst e1
    exact ⟨hb, by show y.sum = x; omega⟩
  · rintro ⟨hb, hs⟩
    refine List.mem_map.mpr ⟨(ys, 0), List.mem_filter.mpr ⟨?_, by simp⟩, rfl⟩
    refine (mem_wall am _ _ _ (fun f hf => by
      obtain rfl : f = ([], x) := by simpa using hf
      exact hx) ha).mpr ⟨([], x), by simp, ys, hb, by simp, ?_, Int.le_refl _⟩
    show (0 : Int) = x - ys.sum
    omega
theorem wstep_len {q : Int × Int} {m : Nat} (hq : q.2 ≤ m) (fs : List (List Int × Int)) : (wstep q fs).length ≤ fs.length * (m + 1) := by
  unfold wstep
  induction fs with
  | nil => simp
  | cons f fs ih =>
    rw [List.flatMap_cons, List.length_append, List.length_map, List.length_range, List.length_cons, Nat.add_mul]
    have : (min (min q.1 q.2) f.2 + 1).toNat ≤ m + 1 := by omega
    omega
theorem wall_len {m : Nat} : ∀ (am : List (Int × Int)) (fs : List (List Int × Int)), (∀ q ∈ am, q.2 ≤ m) → (wall fs am).length ≤ fs.length * (m + 1) ^ am.length
  | [], fs, _ => by simp [wall]
  | q :: am, fs, h => by
    have h1 := wall_len am (wstep q fs) fun x hx => h x (List.mem_cons_of_mem _ hx)
    have h2 := wstep_len (h q List.mem_cons_self) fs
    show (wall (wstep q fs) am).length ≤ _
    refine Nat.le_trans h1 ?_
    rw [List.length_cons, Nat.pow_succ, Nat.mul_comm ((m + 1) ^ am.length), ← Nat.mul_assoc]
    exact Nat.mul_le_mul_right _ h2
/-! ### states below given cards -/
/-- the same limits, balances no greater -/
def Below : List (Int × Int) → List (Int × Int) → Prop
  | [], [] => True
  | q :: am, s :: ss => (0 ≤ s.1 ∧ s.1 ≤ q.1 ∧ s.2 = q.2) ∧ Below am ss
  | _, _ => False
def belows : List (Int × Int) → List (List (Int × Int))
  | [] => [[]]
  | q :: am => (belows am).flatMap fun t => (List.range (q.1 + 1).toNat).map fun i : Nat => ((i : Int), q.2) :: t
theorem mem_belows : ∀ {am ss : List (Int × Int)}, Below am ss → ss ∈ belows am
  | [], [], _ => by simp [belows]
  | q :: am, s :: ss, h => by
    refine List.mem_flatMap.mpr ⟨ss, mem_belows h.2, List.mem_map.mpr ⟨s.1.toNat, List.mem_range.mpr (by have := h.1; omega), ?_⟩⟩
    obtain ⟨a, b⟩ := s
    have := h.1
    simp at this
    have e : ((a.toNat : Nat) : Int) = a := by omega
    show (((a.toNat : Nat) : Int), q.2) :: ss = _
    rw [e, this.2.2]
  | [], _ :: _, h => by simp [Below] at h
  | _ :: _, [], h => by simp [Below] at h
theorem belows_len {m : Nat} : ∀ (am : List (Int × Int)), (∀ q ∈ am, q.1 ≤ m) → (belows am).length ≤ (m + 1) ^ am.length
  | [], _ => by simp [belows]
  | q :: am, h => by
    have ih := belows_len am fun x hx => h x (List.mem_cons_of_mem _ hx)
    have hq := h q List.mem_cons_self
    have : ∀ l : List (List (Int × Int)), (l.flatMap fun t => (List.range (q.1 + 1).toNat).map fun i : Nat => ((i : Int), q.2) :: t).length ≤ l.length * (m + 1) := fun l => by
      induction l with
      | nil => simp
      | cons t l ih =>
        rw [List.flatMap_cons, List.length_append, List.length_map, List.length_range, List.length_cons, Nat.add_mul]
        have : (q.1 + 1).toNat ≤ m + 1 := by omega
        omega
    show ((belows am).flatMap _).length ≤ _
    rw [List.length_cons, Nat.pow_succ]
    exact Nat.le_trans (this _) (Nat.mul_le_mul_right _ ih)
theorem nodup_sub_len {α : Type} [DecidableEq α] : ∀ {l m : List α}, l.Nodup → (∀ x ∈ l, x ∈ m) → l.length ≤ m.length
  | [], m, _, _ => Nat.zero_le _
  | x :: l, m, hn, hs => by
    have hx := hs x List.mem_cons_self
    have hn2 := List.nodup_cons.mp hn
    have := nodup_sub_len (l := l) (m := m.erase x) hn2.2 fun y hy => (List.mem_erase_of_ne (fun z => by subst z; exact hn2.1 hy)).mpr (hs y (List.mem_cons_of_mem _ hy))
    have hl := List.length_erase_of_mem hx
    have hp : 0 < m.length := List.length_pos_of_mem hx
    rw [List.length_cons]
    omega
theorem below_count {am : List (Int × Int)} {m : Nat} (h : ∀ q ∈ am, q.1 ≤ m) {l : List (List (Int × Int))} (hn : l.Nodup) (hb : ∀ s ∈ l, Below am s) : l.length ≤ (m + 1) ^ am.length :=
  Nat.le_trans (nodup_sub_len hn fun s hs => mem_belows (hb s hs)) (belows_len am h)
theorem Below.refl : ∀ {am : List (Int × Int)}, (∀ q ∈ am, 0 ≤ q.1) → Below am am
  | [], _ => trivial
  | q :: am, h => ⟨⟨h q List.mem_cons_self, Int.le_refl _, rfl⟩, Below.refl fun x hx => h x (List.mem_cons_of_mem _ hx)⟩
theorem Below.snoc : ∀ {am ss : List (Int × Int)} {q : Int × Int}, Below am ss → 0 ≤ q.1 → Below (am ++ [q]) (ss ++ [q])
  | [], [], q, _, h0 => ⟨⟨h0, Int.le_refl _, rfl⟩, trivial⟩
  | p :: am, s :: ss, q, h, h0 => ⟨h.1, h.2.snoc h0⟩
  | [], _ :: _, _, h, _ => by simp [Below] at h
  | _ :: _, [], _, h, _ => by simp [Below] at h
theorem Below.box : ∀ {am ss : List (Int × Int)} {ys : List Int}, Below am ss → Box ss ys → Below am (lbh ss ys)
  | [], [], [], _, _ => trivial
  | p :: am, s :: ss, y :: ys, h, hb => by
    have e : lbh (s :: ss) (y :: ys) = (s.1 - y, s.2) :: lbh ss ys := rfl
    rw [e]
    have h1 := h.1
    have h2 := hb.1
    exact ⟨⟨by show 0 ≤ s.1 - y; omega, by show s.1 - y ≤ p.1; omega, h1.2.2⟩, h.2.box hb.2⟩
  | [], [], _ :: _, _, hb => by simp [Box] at hb
  | _ :: _, _ :: _, [], _, hb => by simp [Box] at hb
  | [], _ :: _, _, h, _ => by simp [Below] at h
  | _ :: _, [], _, h, _ => by simp [Below] at h
theorem Below.len : ∀ {am ss : List (Int × Int)}, Below am ss → ss.length = am.length
  | [], [], _ => rfl
  | p :: am, s :: ss, h => by rw [List.length_cons, List.length_cons, h.2.len]
  | [], _ :: _, h => by simp [Below] at h
  | _ :: _, [], h => by simp [Below] at h
theorem Below.lim : ∀ {am ss : List (Int × Int)} {m : Int}, Below am ss → (∀ q ∈ am, q.2 ≤ m) → ∀ q ∈ ss, q.2 ≤ m
  | [], [], m, _, _ => fun q h => by cases h
  | p :: am, s :: ss, m, h, hm => fun q hq => by
    rcases List.mem_cons.mp hq with rfl | hq
    · have := hm p List.mem_cons_self
      have := h.1.2.2
      omega
    · exact h.2.lim (fun x hx => hm x (List.mem_cons_of_mem _ hx)) q hq
  | [], _ :: _, _, h, _ => by simp [Below] at h
  | _ :: _, [], _, h, _ => by simp [Below] at h
theorem Below.am : ∀ {am ss : List (Int × Int)}, Below am ss → Am am → Am ss
  | [], [], _, _ => Am.nil
  | p :: am, s :: ss, h, ha => by
    have h1 := h.1
    have h2 := ha p List.mem_cons_self
    exact Am.cons ⟨by omega, by omega, by rw [h1.2.2]; omega⟩ (h.2.am ha.tail)
  | [], _ :: _, h, _ => by simp [Below] at h
  | _ :: _, [], h, _ => by simp [Below] at h
end P20


set_option Elab.async false
set_option linter.all false
set_option maxRecDepth 100000
set_option maxHeartbeats 4000000
/-! E7l: which small rows two lists of cards part in. -/
namespace S2
open PySem L2 Mi P20 Sh
theorem evn_pw (t : Int) (n : Nat) : (evn t n).Pairwise (· ≥ ·) := by
  unfold evn
  rw [List.pairwise_map]
  refine List.Pairwise.imp ?_ (List.pairwise_lt_range (n := n))
  intro i j hij
  split <;> split <;> omega
theorem evn_sum (t : Int) {n : Nat} (hn : 0 < n) : ∀ k, k ≤ n → ((evn t n).take k).sum = (k : Int) * (t / n) + min (k : Int) (t % n)
  | 0, _ => by
    have := Int.emod_nonneg t (show (n : Int) ≠ 0 by omega)
    simp
    omega
  | k + 1, hk => by
    have h1 := evn_sum t hn k (by omega)
    have hkl : k < (evn t n).length := by unfold evn; simp; omega
    rw [List.take_succ_eq_append_getElem hkl, List.sum_append, h1]
    have e0 : (evn t n)[k]? = some (if (k : Int) < t % n then t / n + 1 else t / n) := by
      unfold evn
      rw [List.getElem?_map, List.getElem?_range (by omega)]
      rfl
    have e : (evn t n)[k] = if (k : Int) < t % n then t / n + 1 else t / n := Option.some.inj ((List.getElem?_eq_getElem hkl).symm.trans e0)
    rw [e, Int.natCast_add, Int.natCast_one, Int.add_mul, Int.one_mul]
    simp only [List.sum_cons, List.sum_nil]
    split <;> omega
theorem evn_len (t : Int) (n : Nat) : (evn t n).length = n := by simp [evn]
theorem evn_all (t : Int) {n : Nat} (hn : 0 < n) : (evn t n).sum = t := by
  have := evn_sum t hn n (Nat.le_refl _)
  rw [List.take_of_length_le (by rw [evn_len]; exact Nat.le_refl _)] at this
  rw [this]
  have h1 := Int.emod_lt_of_pos t (show (0 : Int) < n by omega)
  have h2 := Int.emod_add_mul_ediv t n
  omega
theorem evn_canp {am : List (Int × Int)} (h : Am am) {t : Int} {n : Nat} (hn : 0 < n) (ht : t ≤ FF am n) : CanP 0 am (bl_ (evn t n)) := by
  rw [canp_pw (evn_pw t n)]
  intro k hk
  rw [evn_len] at hk
  rw [evn_sum t hn k hk]
  refine even_le h hn (Int.emod_nonneg t (by omega)) ?_ hk
  have h2 := Int.emod_add_mul_ediv t n
  omega
theorem parts_none {am bm : List (Int × Int)} (ha : Am am) (hb : Am bm) {ra rb : List Int} (h1 : IsRow am ra) (h2 : IsRow bm rb) {r : Option Nat} (p : Parts ra rb r) : r = none ↔ ∀ k, FF bm k ≤ FF am k := by
  cases r with
  | none =>
    refine ⟨fun _ k => ?_, fun _ => rfl⟩
    rw [← h1.sum ha, ← h2.sum hb]
    have hn : ∀ x ∈ ra, (0 : Int) ≤ x := fun x hx => Int.le_of_lt ((h1.falls ha).1 x hx)
    by_cases h0 : k = 0
    · subst h0; simp [sumN]
    by_cases hk : k ≤ rb.length
    · exact p k (by omega) hk
    · rw [sumN_flat rb k (by omega)]
      by_cases hz : rb.length = 0
      · rw [hz]
        have := sumN_le hn (Nat.zero_le k)
        simpa [sumN] using this
      · have := p rb.length (by omega) (Nat.le_refl _)
        have := sumN_le hn (show rb.length ≤ k by omega)
        omega
  | some d =>
    refine ⟨(fun z => by cases z), fun h => ?_⟩
    have := p.2.1
    have := h d
    rw [h1.sum ha, h2.sum hb] at *
    omega

theorem wor_le_b (b l : Int) (k : Nat) : wor b l k ≤ b := by unfold wor; omega
theorem FF_sum : ∀ (am : List (Int × Int)) (k : Nat), FF am k ≤ (am.map Prod.fst).sum
  | [], k => Int.le_refl _
  | (b, l) :: am, k => by
    have h1 := FF_sum am k
    have h2 := wor_le_b b l k
    rw [FF_cons, List.map_cons, List.sum_cons]
    dsimp only
    omega
theorem falls_of {z : List Int} (h : z.Pairwise (· ≥ ·)) (h0 : ∀ x ∈ z, 0 < x) : Falls z := by
  refine ⟨h0, fun k x y e1 e2 => ?_⟩
  obtain ⟨l1, e3⟩ := List.getElem?_eq_some_iff.mp e1
  obtain ⟨l2, e4⟩ := List.getElem?_eq_some_iff.mp e2
  have := List.pairwise_iff_getElem.mp h k (k + 1) l1 l2 (by omega)
  rw [e3, e4] at this
  exact this
theorem sumN_ge : ∀ {row : List Int}, (∀ x ∈ row, 0 < x) → ∀ k, k ≤ row.length → (k : Int) ≤ sumN row k
  | _, _, 0, _ => by simp [sumN]
  | [], _, k + 1, h => by simp at h
  | x :: row, h0, k + 1, h => by
    have h1 := sumN_ge (row := row) (fun y hy => h0 y (List.mem_cons_of_mem _ hy)) k (by simpa using h)
    have h2 := h0 x List.mem_cons_self
    show ((k + 1 : Nat) : Int) ≤ x + sumN row k
    omega
section
variable {am bm : List (Int × Int)} {ra rb : List Int} {d : Nat}
/-- the parting row falls -/
theorem part_row (ha : Am am) (hb : Am bm) (h1 : IsRow am ra) (h2 : IsRow bm rb) (h3 : Parts ra rb (some d)) : 1 ≤ d ∧ FF am d < FF bm d ∧ (∀ j, 1 ≤ j → j < d → FF bm j ≤ FF am j) ∧ Falls (evn (FF am d + 1) d) := by
  obtain ⟨⟨d1, d2⟩, d3, d4⟩ := h3
  simp only [h1.sum ha, h2.sum hb] at d3 d4
  have hd : (d : Int) ≤ FF am d + 1 := by
    by_cases z : d = 1
    · subst z
      have := FF_nonneg ha 1
      omega
    · have e1 := d4 (d - 1) (by omega) (by omega)
      have e2 := sumN_ge (h2.falls hb).1 (d - 1) (by omega)
      rw [h2.sum hb] at e2
      have e3 := FF_le ha (show d - 1 ≤ d by omega)
      omega
  refine ⟨d1, d3, d4, falls_of (evn_pw _ _) fun x hx => ?_⟩
  unfold evn at hx
  obtain ⟨i, _, rfl⟩ := List.mem_map.mp hx
  have : 1 ≤ (FF am d + 1) / (d : Int) := by
    rw [Int.le_ediv_iff_mul_le (by omega)]
    omega
  split <;> omega
theorem evn_not (hd : 1 ≤ d) : ¬ CanP 0 am (bl_ (evn (FF am d + 1) d)) := fun hc => by
  rw [canp_pw (evn_pw _ _)] at hc
  have := hc d (by rw [evn_len]; exact Nat.le_refl _)
  rw [List.take_of_length_le (by rw [evn_len]; exact Nat.le_refl _), evn_all _ hd] at this
  omega
theorem can_mono (h : ∀ k, FF bm k ≤ FF am k) {evs : List Ev} {i : Int} (hc : CanP i bm evs) : CanP i am evs := fun s v hs => Int.le_trans (hc s v hs) (h s.length)
end
end S2

set_option Elab.async false
set_option linter.all false
set_option maxRecDepth 100000
set_option maxHeartbeats 4000000
namespace S2
open PySem L2 Mi P20 Sh
def setD (s : List Int) : D := .lst (s.map D.int)
end S2

set_option Elab.async false
set_option linter.all false
set_option maxRecDepth 100000
set_option maxHeartbeats 4000000
namespace S2
open PySem L2 Mi P20 Sh
theorem cut_init {xs : List D} {x : D} : cutD (xs ++ [x]) none (some (-1)) = xs := by
  unfold cutD
  rw [HT.sIx_none]
  have : HT.sIx (xs ++ [x]).length (xs ++ [x]).length (some (-1)) = xs.length := by
    show (if (-1 : Int) < 0 then ((-1 : Int) + ((xs ++ [x]).length : Int)).toNat else min (-1 : Int).toNat (xs ++ [x]).length) = _
    rw [if_pos (by decide), List.length_append, List.length_singleton]
    omega
  rw [this]
  simp
def rowT (r : List Int) : D := .tup (r.map D.int)
def triD (q : List Int × Int × Int) : D := .tup [rowT q.1, .int q.2.1, .int q.2.2]
theorem ne_nil (l : List (List Int × Int × Int)) : neMD (.lst (l.map triD)) (.lst []) = some (.bl (decide (l ≠ []))) := by
  have hs : ∀ ns : List Int, toPD (rowT ns) = some (.tuple (ns.map PyData.int)) := fun ns => (EqT.tup EqT.int).to ns
  have h1 : EqT rowT (fun ns : List Int => .tuple (ns.map PyData.int)) 1 := EqT.tup EqT.int
  have h2 : EqT (fun q : List Int × Int × Int => triD q) (fun q => .tuple [.tuple (q.1.map PyData.int), .int q.2.1, .int q.2.2]) 2 := ⟨fun q => by
      show (match toPD (rowT q.1), (match toPD (.int q.2.1), (match toPD (.int q.2.2), Mi.toPDs [] with
        | some a, some b => some (a :: b)
        | _, _ => none) with
        | some a, some b => some (a :: b)
        | _, _ => none) with
        | some a, some b => some (a :: b)
        | _, _ => none).map PyData.tuple = _
      rw [hs]
      rfl, fun q => by
      show (PyData.canLay0 (.tuple (q.1.map PyData.int)) && true) = true
      rw [h1.lay]; rfl, fun q => by
      show max (PyData.depth (.tuple (q.1.map PyData.int))) (max (PyData.depth (.int q.2.1)) (max (PyData.depth (.int q.2.2)) 0)) + 1 ≤ _
      have := h1.dep q.1
      have a1 : PyData.depth (.int q.2.1) = 0 := rfl
      have a2 : PyData.depth (.int q.2.2) = 0 := rfl
      omega, fun q r => by
      show (PyData.eqv (.tuple (q.1.map PyData.int)) (.tuple (r.1.map PyData.int)) && (PyData.eqv (.int q.2.1) (.int r.2.1) && (PyData.eqv (.int q.2.2) (.int r.2.2) && true))) = _
      rw [h1.eqv, EqT.int.eqv, EqT.int.eqv]
      obtain ⟨a, b, c⟩ := q
      obtain ⟨a', b', c'⟩ := r
      by_cases e1 : a = a' <;> by_cases e2 : b = b' <;> by_cases e3 : c = c' <;> simp [e1, e2, e3]⟩
  have h3 := (EqT.lst h2).ne (by decide) l []
  have h4 : (!decide (l = [])) = decide (l ≠ []) := by simp
  rw [h4] at h3
  exact h3
end S2

set_option Elab.async false
set_option linter.all false
set_option maxRecDepth 100000
set_option maxHeartbeats 4000000
/-! S2fl: all falling rows with at most a sum. -/
namespace S2
open PySem L2 Mi P20 Sh
/-- a row that goes on from here -/
def Xt (q : List Int × Int × Int) (z : List Int) : Prop := ∃ w, z = q.1 ++ w ∧ Falls w ∧ (∀ y, w.head? = some y → y ≤ q.2.2) ∧ w.sum ≤ q.2.1
theorem falls_sumP : ∀ {w : List Int}, (∀ x ∈ w, 0 < x) → 0 ≤ w.sum
  | [], _ => by simp
  | x :: w, h => by
    have := falls_sumP (w := w) fun y hy => h y (List.mem_cons_of_mem _ hy)
    have := h x List.mem_cons_self
    rw [List.sum_cons]
    omega
theorem falls_sum {w : List Int} (h : Falls w) : 0 ≤ w.sum := falls_sumP h.1
theorem xt_root {t : Int} {z : List Int} (h : Falls z) (hs : z.sum ≤ t) : Xt ([], t, t) z := by
  refine ⟨z, rfl, h, fun y hy => ?_, hs⟩
  cases z with
  | nil => cases hy
  | cons x z =>
    obtain rfl : x = y := by simpa using hy
    have := falls_sum h.tail
    rw [List.sum_cons] at hs
    show x ≤ t
    omega
theorem xt_kids {row : List Int} {r top : Int} {m : Nat} (hm : min r top ≤ m) {z : List Int} (h : Xt (row, r, top) z) : z = row ∨ ∃ q ∈ ((List.range m).map fun i : Nat => (row ++ [(1 : Int) + i], r - ((1 : Int) + i), (1 : Int) + i)), Xt q z := by
  obtain ⟨w, h1, h2, h3, h4⟩ := h
  cases w with
  | nil => exact .inl (by rw [h1]; simp)
  | cons y w =>
    have hy := h3 y rfl
    have hw := falls_sum h2.tail
    have hy0 := h2.1 y List.mem_cons_self
    rw [List.sum_cons] at h4
    have hy : y ≤ top := hy
    have h4 : y + w.sum ≤ r := h4
    refine .inr ⟨(row ++ [y], r - y, y), List.mem_map.mpr ⟨(y - 1).toNat, List.mem_range.mpr (by omega), ?_⟩, w, by rw [h1]; simp, h2.tail, fun v hv => ?_, ?_⟩
    · have : (1 : Int) + ((y - 1).toNat : Int) = y := by omega
      simp only [this]
    · cases w with
      | nil => cases hv
      | cons v' w => cases hv; exact h2.2 0 y v rfl rfl
    · show w.sum ≤ r - y
      omega
theorem falling_all {t : Nat} (ht : t ≤ 12) {u : PuS} {P : D → PuS → Prop} (hp : ∀ rows : List (List Int), rows.length ≤ 5000 → (∀ r, r ∈ rows ↔ Falls r ∧ r.sum ≤ t) → P (.lst (rows.map rowT)) u) : Ok (mf__law_falling [.int t, .int t]) u P := by
  unfold mf__law_falling mb__law_falling
  rw [ok_fn]
  refine seq_go fun K R hK hR => ?_
  simp
  refine hK _ _ ?_
  clear hK hR K R
  refine seq_go fun K R hK hR => ?_
  simp
  refine ok_while (fun n ρ u' => u' = u ∧ ∃ (found : List (List Int)) (left : List (List Int × Int × Int)) (a b c d : Sd), wt left ≤ n ∧ found.length + wt left ≤ 4096 ∧ (∀ r ∈ found, Falls r ∧ r.sum ≤ t) ∧ (∀ z, Falls z ∧ z.sum ≤ t → z ∈ found ∨ ∃ q ∈ left, Xt q z) ∧ (∀ q ∈ left, (Falls q.1 ∧ q.1.sum + q.2.1 = t) ∧ 0 ≤ q.2.1 ∧ (q.1.length : Int) + q.2.1 ≤ 12 ∧ 0 ≤ q.2.2 ∧ ∀ y, q.1.getLast? = some y → q.2.2 ≤ y) ∧ ρ = [.sh (.int t), .sh (.int t), .ow (found.map rowT), .sh (.lst (left.map triD)), a, b, c, d]) ?_ (wt [([], (t : Int), (t : Int))]) 100000 _ _ ?_ ⟨rfl, [], [([], (t : Int), (t : Int))], _, _, _, _, Nat.le_refl _, ?_, (fun r hr => by cases hr), (fun z hz => .inr ⟨_, List.mem_singleton.mpr rfl, xt_root hz.1 hz.2⟩), fun q hq => ?_, rfl⟩
  · rintro n ρ u' ⟨rfl, found, left, a, b, c, d, hn, hw, hf, hcp, hq, rfl⟩
    simp only [ok_B, ok_bin, ok_var, s_vSh, ok_Fz, ok_lstO, ok_nil, List.getElem?_cons_succ, List.getElem?_cons_zero, Option.some.injEq, exists_eq_left', ne_nil, onB_bl, List.length_nil, Nat.zero_le, true_and]
    refine brd (fun z => ?_) (fun z => ?_)
    · have z' : left ≠ [] := z
      obtain ⟨ini, ⟨row, r, top⟩, rfl⟩ : ∃ ini q, left = ini ++ [q] := ⟨left.dropLast, left.getLast z', (List.dropLast_concat_getLast z').symm⟩
      rw [wt_append] at hw hn
      have hpos : 0 < 2 ^ r.toNat := Nat.two_pow_pos _
      have hw1 : wt [(row, r, top)] = 2 ^ r.toNat := by simp [wt]
      refine ⟨n - 1, by omega, ?_⟩
      obtain ⟨⟨q1, q6⟩, q2, q3, q5, q4⟩ := hq (row, r, top) (by simp)
      dsimp only at q1 q2 q3 q4 q5 q6
      refine st_go fun R0 hR0 => ?_
      unfold lb__law_falling_2
      rw [List.map_append]
      have hil := wt_len ini
      have ea : ∀ (ds : List D) (x : D), atI (ds ++ [x]) (-1) = some x := fun ds x => at_last
      rw [List.map_singleton]
      generalize hini : ini.map triD = ids
      have hidl : ids.length = ini.length := by rw [← hini, List.length_map]
      refine seq_go fun K1 R1 hK1 hR1 => ?_
      simp [ea, triD, rowT]
      refine hK1 _ _ ?_
      clear hK1 hR1 K1 R1
      refine seq_go fun K1 R1 hK1 hR1 => ?_
      have ec : ∀ (ds : List D) (x : D), cutD (ds ++ [x]) none (some (-1)) = ds := fun ds x => cut_init
      simp [ec]
      refine hK1 _ _ ?_
      clear hK1 hR1 K1 R1
      refine seq_go fun K1 R1 hK1 hR1 => ?_
      simp
      refine ⟨by omega, hK1 _ _ ?_⟩
      clear hK1 hR1 K1 R1
      simp
      obtain ⟨m, hm, hmr, hmt⟩ : ∃ m : Nat, (if top < r then top else r) = (m : Int) ∧ (m : Int) ≤ r ∧ (m : Int) ≤ top := ⟨(if top < r then top else r).toNat, by split <;> omega, by split <;> omega, by split <;> omega⟩
      rw [hm]
      simp only [Int.toNat_natCast]
      refine ⟨by omega, by rw [rngD_len]; omega, ?_⟩
      refine ok_lcra (fun i => [.sh (.int t), .sh (.int t), .ow (found.map rowT ++ [.tup (row.map D.int)]), .sh (.lst ids), .sh (.tup (row.map D.int)), .sh (.int r), .sh (.int top), .sh (.int (1 + (i : Nat)))]) (fun i => triD (row ++ [(1 : Int) + i], r - ((1 : Int) + i), (1 : Int) + i)) ?_ ?_ ?_
      · intro i hi; rfl
      · intro i hi
        have ed : ∀ x : Int, addD (.tup (row.map D.int)) (.tup [.int x]) = some (.tup (row.map D.int ++ [.int x])) := fun x => if_pos (by simp; omega)
        unfold ce__law_falling_1
        simp [ed, triD, rowT]
      have ek : (List.range m).map (fun i : Nat => triD (row ++ [(1 : Int) + i], r - ((1 : Int) + i), (1 : Int) + i)) = ((List.range m).map fun i : Nat => (row ++ [(1 : Int) + i], r - ((1 : Int) + i), (1 : Int) + i)).map triD := by rw [List.map_map]; rfl
      have hk := wt_kids row m r hmr
      have hkp : 0 < 2 ^ (r.toNat - m) := Nat.two_pow_pos _
      rw [ek]
      have hkx : ∀ z, Xt (row, r, top) z → z = row ∨ ∃ q ∈ ((List.range m).map fun i : Nat => (row ++ [(1 : Int) + i], r - ((1 : Int) + i), (1 : Int) + i)), Xt q z := fun z hz => xt_kids (by rw [← hm]; split <;> omega) hz
      have hki : ∀ q ∈ ((List.range m).map fun i : Nat => (row ++ [(1 : Int) + i], r - ((1 : Int) + i), (1 : Int) + i)), (Falls q.1 ∧ q.1.sum + q.2.1 = t) ∧ 0 ≤ q.2.1 ∧ (q.1.length : Int) + q.2.1 ≤ 12 ∧ 0 ≤ q.2.2 ∧ ∀ y, q.1.getLast? = some y → q.2.2 ≤ y := fun q hq => by
        obtain ⟨i, hi, rfl⟩ := List.mem_map.mp hq
        have hi := List.mem_range.mp hi
        dsimp only
        refine ⟨⟨falls_snoc q1 (by omega) fun y e => ?_, by simp; omega⟩, by omega, by rw [List.length_append, List.length_singleton]; omega, by omega, fun y e => ?_⟩
        · have := q4 y e; omega
        · rw [List.getLast?_concat] at e
          cases e
          omega
      generalize ((List.range m).map fun i : Nat => (row ++ [(1 : Int) + i], r - ((1 : Int) + i), (1 : Int) + i)) = kids at hk hki hkx
      have hkl := wt_len kids
      refine ⟨_, s_addL (by rw [List.length_map]; omega), ?_⟩
      refine hR0 _ _ ⟨rfl, found ++ [row], ini ++ kids, .sh (.tup (row.map D.int)), .sh (.int r), .sh (.int top), d, by rw [wt_append]; omega, by rw [wt_append, List.length_append, List.length_singleton]; omega, fun x hx => ?_, fun z hz => ?_, fun q h' => ?_, by rw [List.map_append, List.map_append, hini]; rfl⟩
      · rcases List.mem_append.mp hx with hx | hx
        · exact hf x hx
        · rw [List.mem_singleton.mp hx]; exact ⟨q1, by omega⟩
      · rcases hcp z hz with h1 | ⟨q, h1, h2⟩
        · exact .inl (List.mem_append_left _ h1)
        · rcases List.mem_append.mp h1 with h1 | h1
          · exact .inr ⟨q, List.mem_append_left _ h1, h2⟩
          · rw [List.mem_singleton.mp h1] at h2
            rcases hkx z h2 with h3 | ⟨q, h3, h4⟩
            · exact .inl (List.mem_append_right _ (List.mem_singleton.mpr h3))
            · exact .inr ⟨q, List.mem_append_right _ h3, h4⟩
      · rcases List.mem_append.mp h' with h' | h'
        · exact hq q (List.mem_append_left _ h')
        · exact hki q h'
    · refine hK _ _ ?_
      simp
      have z' : left = [] := by simpa using z
      exact hp found (by omega) fun r => ⟨hf r, fun h => by
        rcases hcp r h with h1 | ⟨q, h1, _⟩
        · exact h1
        · rw [z'] at h1; cases h1⟩
  · simp [wt]
    have : 2 ^ t ≤ 2 ^ 12 := Nat.pow_le_pow_right (by decide) ht
    omega
  · simp [wt]
    have : 2 ^ t ≤ 2 ^ 12 := Nat.pow_le_pow_right (by decide) ht
    omega
  · rw [List.mem_singleton.mp hq]
    exact ⟨⟨⟨(fun x hx => by cases hx), fun k x y e => by cases e⟩, by simp⟩, by simp, by simp; omega, by simp, fun y e => by cases e⟩
theorem law_all2 {mfr : List D → M D} (h : ∀ u, Pu u → Ok (mfr [.pur]) u fun d _ => d = .bl true) (ns : List Int) (u : PuS) :
    Ok (mFn 2 (mRet (mCB allD (mCons (mFz (mLcO [1] (mIof rng1 (mCons (mC (.int 2)) (mNil))) (mGn 1) (mYes) (mWith mfr (mCallL 2 mfL__law_purse (mCons (mVar 0) (mCons (mVar 1) (mNil))))))) (mNil)))) [.scr ns]) u fun d _ => d = .bl true := by
  simp
  refine ⟨by rw [rngD_len]; decide, ?_⟩
  refine (ok_lc (fun _ => True) (fun d => d = .bl true) _ _ trivial ?_).mono ?_
  · intro d hd u _
    obtain ⟨i, hi, rfl⟩ : ∃ i : Nat, i < 2 ∧ d = .int i := by
      obtain ⟨i, hi, e⟩ := List.mem_iff_getElem.mp hd
      rw [rngD_len] at hi
      exact ⟨i, by omega, by rw [← e]; simp [rngD]⟩
    refine ⟨_, rfl, ?_⟩
    simp
    refine ok_with true ?_
    simp
    refine purse_ok (by omega) fun s x h1 h2 => ?_
    exact ⟨[s, x], rfl, h _ ⟨s, x, rfl, h1, h2⟩⟩
  · rintro ys u' ⟨⟨hl, he⟩, -⟩
    have e1 : ys = (List.replicate ys.length true).map D.bl := by
      clear hl
      induction ys with
      | nil => rfl
      | cons a ys ih =>
        have := he a List.mem_cons_self
        subst this
        rw [List.length_cons, List.replicate_succ, List.map_cons, ← ih fun y hy => he y (List.mem_cons_of_mem _ hy)]
    rw [e1]
    show (blsD ((List.replicate ys.length true).map D.bl)).map (fun bs => D.bl (bs.all id)) = _
    rw [blsD_map]
    simp
end S2




set_option Elab.async false
set_option linter.all false
set_option maxRecDepth 100000
set_option maxHeartbeats 4000000
namespace Sh
open PySem L2 Mi P20
theorem Betw_at : ∀ {as ys bs : List Int}, Betw as ys bs → ∀ {i : Nat} {a y b : Int}, as[i]? = some a → ys[i]? = some y → bs[i]? = some b → a ≤ y ∧ y ≤ b
  | [], [], [], _, i, a, y, b, e, _, _ => by cases e
  | a' :: as, y' :: ys, b' :: bs, h, 0, a, y, b, e1, e2, e3 => by
    cases e1; cases e2; cases e3
    exact ⟨h.1, h.2.1⟩
  | a' :: as, y' :: ys, b' :: bs, h, i + 1, a, y, b, e1, e2, e3 => Betw_at h.2.2 (i := i) (by simpa using e1) (by simpa using e2) (by simpa using e3)
  | [], _ :: _, _, h, _, _, _, _, _, _, _ => by simp [Betw] at h
  | [], [], _ :: _, h, _, _, _, _, _, _, _ => by simp [Betw] at h
  | _ :: _, [], _, h, _, _, _, _, _, _, _ => by simp [Betw] at h
  | _ :: _, _ :: _, [], h, _, _, _, _, _, _, _ => by simp [Betw] at h
theorem wor_one {b l : Int} : wor b l 1 = min b l := by unfold wor; simp
end Sh
namespace S2
open PySem L2 Mi P20 Sh
theorem lbh_at {am : List (Int × Int)} {ys : List Int} (hl : ys.length = am.length) : (List.range am.length).map (fun i : Nat => prQd ((am.getD i (0, 0)).1 - ys.getD i 0, (am.getD i (0, 0)).2)) = (lbh am ys).map prQd := by
  apply List.ext_getElem?
  intro k
  unfold lbh
  by_cases hk : k < am.length
  · rw [List.getElem?_map, List.getElem?_range hk, List.getElem?_map, List.getElem?_map]
    have e : (am.zip ys)[k]? = some (am[k], ys[k]'(by omega)) := by
      rw [List.getElem?_eq_getElem (by simp; omega), List.getElem_zip]
    rw [e]
    simp only [Option.map_some]
    rw [List.getD_eq_getElem?_getD, List.getElem?_eq_getElem hk, List.getD_eq_getElem?_getD, List.getElem?_eq_getElem (show k < ys.length by omega)]
    rfl
  · rw [List.getElem?_eq_none (by simp; omega), List.getElem?_eq_none (by simp; omega)]
theorem behind_ok {am : List (Int × Int)} {ys : List Int} (hl : ys.length = am.length) (ha : am.length ≤ 1000) {u : PuS} {P : D → PuS → Prop} (h : P (.lst ((lbh am ys).map prQd)) u) : Ok (mf__law_behind [.lst (am.map prQd), rwT ys]) u P := by
  unfold mf__law_behind mb__law_behind rwT
  simp
  refine ⟨by omega, by rw [rngD_len]; omega, ?_⟩
  refine ok_lcra (fun i => [.sh (.lst (am.map prQd)), .sh (.tup (ys.map D.int)), .sh (.int (0 + (i : Nat)))]) (fun i => prQd ((am.getD i (0, 0)).1 - ys.getD i 0, (am.getD i (0, 0)).2)) ?_ ?_ ?_
  · intro i hi; rfl
  · intro i hi
    have e1 : atI (am.map prQd) (i : Int) = some (prQd (am.getD i (0, 0))) := at_nat (by rw [List.getElem?_map, List.getD_eq_getElem?_getD, List.getElem?_eq_getElem hi]; rfl)
    have e2 : atI (ys.map D.int) (i : Int) = some (.int (ys.getD i 0)) := getI (by rw [List.getD_eq_getElem?_getD, List.getElem?_eq_getElem (show i < ys.length by omega)]; rfl)
    unfold ce__law_behind_1
    generalize am.getD i (0, 0) = q at e1
    generalize ys.getD i 0 = y at e2
    have i0 : ixD (prQd q) (.int 0) = some (.int q.1) := rfl
    have i1 : ixD (prQd q) (.int 1) = some (.int q.2) := rfl
    have e3 : prQd (q.1 - y, q.2) = .tup [.int (q.1 - y), .int q.2] := rfl
    simp [e1, e2, i0, i1, e3]
  rw [lbh_at hl]
  exact h
end S2

set_option Elab.async false
set_option linter.all false
set_option maxRecDepth 100000
set_option maxHeartbeats 4000000
/-! S2wl: what the small wallets, the ways of paying and the own play answer. -/
namespace S2
open PySem L2 Mi P20 Sh
/-- small wallets -/
theorem small_ok {n t : Nat} (hn : n ≤ 3) (ht : t ≤ 20) {u : PuS} (hu : Pu u) {P : D → PuS → Prop} (h : ∀ (am : List (Int × Int)) u', am.length ≤ n → Am am → (∀ q ∈ am, q.2 ≤ 4) → (am.map Prod.fst).sum ≤ t → Pu u' → P (.lst (am.map prQd)) u') : Ok (mf__law_small [.pur, .int n, .int t]) u P := by
  unfold mf__law_small mb__law_small
  rw [ok_fn]
  refine seq_go fun K R hK hR => ?_
  simp
  refine hK _ _ ?_
  clear hK hR K R
  refine seq_go fun K R hK hR => ?_
  simp
  refine draw_ok (by omega) hu fun r u1 r0 r1 hu1 => ?_
  simp
  refine ⟨by omega, ?_⟩
  obtain ⟨r, rfl⟩ : ∃ k : Nat, r = (k : Int) := ⟨r.toNat, by omega⟩
  simp only [Int.toNat_natCast]
  refine ok_range 0 r (fun k ρ u => Pu u ∧ ∃ (am : List (Int × Int)) (rest : Int) (a b c : Sd), am.length = k ∧ Am am ∧ (∀ q ∈ am, q.2 ≤ 4) ∧ 0 ≤ rest ∧ (am.map Prod.fst).sum + rest = t ∧ ρ = [.sh .pur, .sh (.int n), .sh (.int rest), .ow (am.map prQd), a, b, c]) ?_ ?_ _ _ ⟨hu1, [], t, _, _, _, rfl, Am.nil, (fun q hq => by cases hq), by omega, by simp, rfl⟩
  · rintro k ρ u hk ⟨hu, am, rest, a, b, c, hl, ha, h4, h0, hs, rfl⟩
    have hs0 : 0 ≤ (am.map Prod.fst).sum := by
      have : ∀ (l : List (Int × Int)), Am l → 0 ≤ (l.map Prod.fst).sum := fun l => by
        induction l with
        | nil => intro _; exact Int.le_refl _
        | cons q l ih =>
          intro h
          have := ih h.tail
          have := (h q List.mem_cons_self).2.1
          rw [List.map_cons, List.sum_cons]
          omega
      exact this am ha
    refine ⟨_, rfl, ?_⟩
    refine st_go fun R0 hR0 => ?_
    unfold lb__law_small_1
    refine seq_go fun K R hK hR => ?_
    simp
    refine draw_ok (by decide) hu fun l u2 l0 l1 hu2 => ⟨_, rfl, hK _ _ ?_⟩
    clear hK hR K R
    refine seq_go fun K R hK hR => ?_
    simp
    refine draw_ok (by split <;> omega) hu2 fun x u3 x0 x1 hu3 => hK _ _ ?_
    clear hK hR K R
    have hx : x ≤ rest ∧ x ≤ 3 * (1 + l) := by
      split at x1 <;> omega
    simp
    refine ⟨by omega, ?_⟩
    have e : am.map prQd ++ [D.tup [D.int x, D.int (1 + l)]] = (am ++ [(x, 1 + l)]).map prQd := by rw [List.map_append]; rfl
    rw [e]
    refine hR0 _ _ ⟨hu3, am ++ [(x, 1 + l)], rest - x, _, _, _, by rw [List.length_append, hl]; rfl, ha.append (Am.cons ⟨by show 1 ≤ 1 + l; omega, x0, by show x ≤ 24 * (1 + l); omega⟩ Am.nil), fun q hq => ?_, by omega, by rw [List.map_append, List.sum_append]; simp; omega, rfl⟩
    rcases List.mem_append.mp hq with hq | hq
    · exact h4 q hq
    · obtain rfl : q = (x, 1 + l) := by simpa using hq
      show 1 + l ≤ 4
      omega
  · rintro ρ u ⟨hu, am, rest, a, b, c, hl, ha, h4, h0, hs, rfl⟩
    refine hK _ _ ?_
    simp
    exact h am u (by omega) ha h4 (by omega) hu
def fD (f : List Int × Int) : D := .tup [rowT f.1, .int f.2]
theorem ways_ok {d : D} {am : List (Int × Int)} (hd : itD d = some (am.map prQd)) (h7 : am.length ≤ 7) (ha : ∀ q ∈ am, (0 ≤ q.1 ∧ 0 ≤ q.2) ∧ q.2 ≤ 4) {x : Int} (hx : 0 ≤ x) {u : PuS} {P : D → PuS → Prop} (h : P (.lst ((ways am x).map rowT)) u) : Ok (mf__law_ways [d, .int x]) u P := by
  unfold mf__law_ways mb__law_ways
  rw [ok_fn]
  refine seq_go fun K R hK hR => ?_
  simp
  refine hK _ _ ?_
  clear hK hR K R
  have hp : ∀ k, k ≤ am.length → (wall [([], x)] (am.take k)).length ≤ 5 ^ k := fun k hk => by
    have := wall_len (m := 4) (am.take k) [([], x)] (fun q hq => (ha q (List.mem_of_mem_take hq)).2)
    rw [List.length_take, Nat.min_eq_left hk] at this
    simpa using this
  have h5 : ∀ k, k ≤ 7 → 5 ^ k ≤ 78125 := fun k hk => Nat.le_trans (Nat.pow_le_pow_right (by decide) hk) (by decide)
  refine seq_go fun K R hK hR => ?_
  simp only [ok_for, ok_Iany, ok_var, s_vSh, List.getElem?_cons_succ, List.getElem?_cons_zero, Option.some.injEq, exists_eq_left', hd]
  refine ok_list _ (fun k ρ u' => u' = u ∧ k ≤ am.length ∧ ∃ a b c e f g : Sd, ρ = [.sh d, .sh (.int x), .sh (.lst ((wall [([], x)] (am.take k)).map fD)), a, b, c, e, f, g]) ?_ ?_ _ _ ⟨rfl, Nat.zero_le _, _, _, _, _, _, _, rfl⟩
  · rintro k dq ρ u' hq ⟨rfl, hk, a, b, c, e, f, g, rfl⟩
    rw [List.getElem?_map] at hq
    cases eq : am[k]? with
    | none => rw [eq] at hq; cases hq
    | some q =>
      rw [eq] at hq
      cases hq
      have hkl : k < am.length := (List.getElem?_eq_some_iff.mp eq).1
      obtain ⟨bq, lq⟩ := q
      refine ⟨_, rfl, ?_⟩
      refine st_go fun R0 hR0 => ?_
      unfold lb__law_ways_3
      refine seq_go fun K1 R1 hK1 hR1 => ?_
      simp
      refine hK1 _ _ ?_
      clear hK1 hR1 K1 R1
      have et : am.take (k + 1) = am.take k ++ [(bq, lq)] := by rw [List.take_add_one, eq]; rfl
      have ew : wall [([], x)] (am.take (k + 1)) = wstep (bq, lq) (wall [([], x)] (am.take k)) := by rw [et]; unfold wall; rw [List.foldl_append]; rfl
      have hfs := hp (k + 1) hkl
      have hfs5 := h5 (k + 1) (by omega)
      have hr0 : ∀ f ∈ wall [([], x)] (am.take k), 0 ≤ f.2 := fun f hf => by
        obtain ⟨_, _, _, _, _, _, h0⟩ := (mem_wall (am.take k) [([], x)] f.1 f.2 (fun f hf => by
          obtain rfl : f = ([], x) := by simpa using hf
          exact hx) (fun q hq => (ha q (List.mem_of_mem_take hq)).1)).mp hf
        exact h0
      rw [ew] at hfs
      have hlf : ∀ f ∈ wall [([], x)] (am.take k), f.1.length ≤ 7 := fun f hf => by
        obtain ⟨f0, hf0, zs, hb, e1, _, _⟩ := (mem_wall (am.take k) [([], x)] f.1 f.2 (fun f hf => by
          obtain rfl : f = ([], x) := by simpa using hf
          exact hx) (fun q hq => (ha q (List.mem_of_mem_take hq)).1)).mp hf
        obtain rfl : f0 = ([], x) := by simpa using hf0
        rw [e1]
        have := box_len hb
        have := List.length_take_le k am
        simp
        omega
      generalize wall [([], x)] (am.take k) = fs at ew hfs hr0 hlf
      refine seq_go fun K1 R1 hK1 hR1 => ?_
      simp only [ok_for, ok_Iany, ok_var, s_vSh, List.getElem?_cons_succ, List.getElem?_cons_zero, Option.some.injEq, exists_eq_left', List.set_cons_succ, List.set_cons_zero]
      refine ⟨_, rfl, ?_⟩
      refine ok_list _ (fun j ρ v => v = u' ∧ j ≤ fs.length ∧ ∃ e f g : Sd, ρ = [.sh d, .sh (.int x), .sh (.lst (fs.map fD)), .sh (.int bq), .sh (.int lq), .sh (.lst ((wstep (bq, lq) (fs.take j)).map fD)), e, f, g]) ?_ ?_ _ _ ⟨rfl, Nat.zero_le _, _, _, _, rfl⟩
      · rintro j df ρ v hf ⟨rfl, hj, e, f, g, rfl⟩
        rw [List.getElem?_map] at hf
        cases ef : fs[j]? with
        | none => rw [ef] at hf; cases hf
        | some y =>
          rw [ef] at hf
          cases hf
          have hjl : j < fs.length := (List.getElem?_eq_some_iff.mp ef).1
          have hy0 := hr0 y (List.mem_of_getElem? ef)
          have hyl := hlf y (List.mem_of_getElem? ef)
          obtain ⟨ys, r⟩ := y
          have hyl : ys.length ≤ 7 := hyl
          have hb4 := ha (bq, lq) (List.mem_of_getElem? eq)
          have et2 : fs.take (j + 1) = fs.take j ++ [(ys, r)] := by rw [List.take_add_one, ef]; rfl
          have ew2 : wstep (bq, lq) (fs.take (j + 1)) = wstep (bq, lq) (fs.take j) ++ (List.range (min (min bq lq) r + 1).toNat).map fun i : Nat => (ys ++ [(i : Int)], r - (i : Int)) := by
            rw [et2]; unfold wstep; rw [List.flatMap_append]; simp
          have hsub : (wstep (bq, lq) (fs.take (j + 1))).length ≤ (wstep (bq, lq) fs).length := by
            have : wstep (bq, lq) fs = wstep (bq, lq) (fs.take (j + 1)) ++ wstep (bq, lq) (fs.drop (j + 1)) := by
              unfold wstep; rw [← List.flatMap_append, List.take_append_drop]
            rw [this, List.length_append]
            omega
          rw [ew2, List.length_append, List.length_map, List.length_range] at hsub
          refine ⟨_, rfl, ?_⟩
          refine st_go fun R1' hR1' => ?_
          unfold lb__law_ways_2
          have hm : ((min (min bq lq) r + 1).toNat : Int) = min (min bq lq) r + 1 := by
            have h1 : 0 ≤ r := hy0
            have h2 : 0 ≤ bq ∧ 0 ≤ lq := hb4.1
            omega
          have hm5 : (min (min bq lq) r + 1).toNat ≤ 5 := by
            have : lq ≤ 4 := hb4.2
            omega
          simp
          rw [show min bq (min lq r) = min (min bq lq) r by omega]
          generalize (min (min bq lq) r + 1).toNat = m at hm hm5 ew2 hsub
          rw [← hm]
          refine ⟨by omega, by rw [rngD_len]; omega, ?_⟩
          have ea : ∀ z : Int, addD (rowT ys) (.tup [.int z]) = some (rowT (ys ++ [z])) := fun z => by
            unfold rowT
            rw [List.map_append]
            exact if_pos (by simp; omega)
          refine ok_lcra (fun i => [.sh d, .sh (.int x), .sh (.lst (fs.map fD)), .sh (.int bq), .sh (.int lq), .sh (.lst ((wstep (bq, lq) (fs.take j)).map fD)), .sh (rowT ys), .sh (.int r), .sh (.int (0 + (i : Nat)))]) (fun i => fD (ys ++ [(i : Int)], r - (i : Int))) (fun i hi => rfl) (fun i hi => ?_) ?_
          · unfold ce__law_ways_1
            simp [ea, fD]
          have em : (List.range m).map (fun i : Nat => fD (ys ++ [(i : Int)], r - (i : Int))) = ((List.range m).map fun i : Nat => (ys ++ [(i : Int)], r - (i : Int))).map fD := by rw [List.map_map]; rfl
          rw [em]
          refine ⟨_, s_addL (by rw [List.length_map, List.length_map, List.length_map, List.length_range]; omega), ?_⟩
          rw [← List.map_append, ← ew2]
          exact hR1' _ _ ⟨rfl, hjl, _, _, _, rfl⟩
      · rintro ρ v ⟨rfl, _, e, f, g, rfl⟩
        rw [List.length_map, List.take_length, ← ew]
        refine hK1 _ _ ?_
        simp
        exact hR0 _ _ ⟨rfl, hkl, _, _, _, _, _, _, rfl⟩
  · rintro ρ u' ⟨rfl, _, a, b, c, e, f, g, rfl⟩
    rw [List.length_map, List.take_length]
    refine hK _ _ ?_
    have hw := hp am.length (Nat.le_refl _)
    rw [List.take_length] at hw
    have hw5 := h5 am.length h7
    simp only [ok_ret, ok_Fz, ok_lcO, ok_Iany, ok_var, s_vSh, List.getElem?_cons_succ, List.getElem?_cons_zero, Option.some.injEq, exists_eq_left']
    refine ⟨_, rfl, by rw [List.length_map]; omega, ?_⟩
    refine ok_lcm (fun y : List Int × Int => [.sh d, .sh (.int x), .sh (.lst ((wall [([], x)] am).map fD)), a, b, c, .sh (rowT y.1), .sh (.int y.2), g]) (fun y => decide (y.2 = 0)) (fun y => rowT y.1) (fun y hy => rfl) (fun y hy => by simp) (fun y hy _ => by simp) ?_
    have : ((wall [([], x)] am).filter fun y => decide (y.2 = 0)).map (fun y => rowT y.1) = (ways am x).map rowT := by unfold ways; rw [List.map_map]; rfl
    rw [this]
    exact h
end S2

set_option Elab.async false
set_option linter.all false
set_option maxRecDepth 100000
set_option maxHeartbeats 4000000
/-! MiDw: plain reckoning with dicts. -/
namespace Mi
open PySem L2
section
variable {ρ : Env} {u : PuS} {PS : Fl → PuS → Prop} {P : D → PuS → Prop} {m mk : ME} {i : Nat}
@[simp] theorem ok_dnew : Ok (mDNew i ρ) u PS ↔ PS (.nx (ρ.set i (.od [] []))) u := ok_pure
@[simp] theorem ok_dput : Ok (mDPut i m mk ρ) u PS ↔ Ok (m ρ) u fun v u1 => Ok (mk ρ) u1 fun k u2 => ∃ q, vOd ρ i = some q ∧ ∃ q', dputD q k v = some q' ∧ PS (.nx (ρ.set i (.od q'.1 q'.2))) u2 := by
  unfold mDPut; simp only [ok_bind, ok_lft, ok_pure]
@[simp] theorem ok_frzD {ms : MS} : Ok (mFrzD i ms ρ) u PS ↔ Ok (ms (frzD i ρ)) u PS := Iff.rfl
end
/-! keys told by plain values -/
structure KeyF {α : Type} (f : α → D) (g : α → NestedKey) : Prop where
  tup : ∀ a, ∃ es, f a = .tup es
  key : ∀ a, keyN (f a) = some (g a)
  dep : ∀ a, (g a).depth ≤ 8
  inj : ∀ a b, g a = g b → a = b
def ins {α : Type} [DecidableEq α] (xs : List α) (a : α) : List α := if a ∈ xs then xs else xs ++ [a]
section
variable {α : Type} [DecidableEq α] {f : α → D} {g : α → NestedKey}
theorem mem_ins {xs : List α} {a b : α} : b ∈ ins xs a ↔ b ∈ xs ∨ b = a := by
  unfold ins
  split
  · constructor
    · exact .inl
    · rintro (h | rfl)
      · exact h
      · assumption
  · simp
theorem ins_nodup {xs : List α} {a : α} (h : xs.Nodup) : (ins xs a).Nodup := by
  unfold ins
  split
  · exact h
  · rename_i hn
    rw [List.nodup_append]
    exact ⟨h, by simp, fun x hx y hy => by
      obtain rfl : y = a := by simpa using hy
      intro z; subst z; exact hn hx⟩
theorem KeyF.has (h : KeyF f g) (xs : List α) (a : α) : hasK (xs.map f) (g a) = decide (a ∈ xs) := by
  unfold hasK
  rw [List.any_map, Bool.eq_iff_iff, List.any_eq_true, decide_eq_true_iff]
  constructor
  · rintro ⟨x, hx, e⟩
    have e : keyN (f x) = some (g a) := by simpa using e
    rw [h.key] at e
    rw [← h.inj _ _ (Option.some.inj e)]
    exact hx
  · intro hx
    exact ⟨a, hx, by simp [h.key]⟩
theorem KeyF.put (h : KeyF f g) {xs : List α} (hl : xs.length < 16000000) (ds : List D) (a : α) (v : D) : ∃ ds', dputD (xs.map f, ds) (f a) v = some ((ins xs a).map f, ds') := by
  obtain ⟨es, e⟩ := h.tup a
  have k := h.key a
  unfold dputD
  rw [e] at k ⊢
  rw [k]
  simp only [List.length_map]
  rw [if_pos ⟨h.dep a, hl⟩]
  unfold putKs
  rw [h.has]
  unfold ins
  by_cases hm : a ∈ xs
  · simp [hm]
  · simp [hm, e]
end
/-! rows and lists of pairs as keys -/
theorem keyNs_map {α : Type} {f : α → D} {g : α → NestedKey} (h : ∀ a, keyN (f a) = some (g a)) : ∀ xs : List α, keyNs (xs.map f) = some (xs.map g)
  | [] => by unfold keyNs; rfl
  | a :: xs => by
    show keyNs (f a :: xs.map f) = _
    unfold keyNs
    rw [h a, keyNs_map h xs]
    rfl
theorem depthAll_le {n : Nat} : ∀ {ks : List NestedKey}, (∀ k ∈ ks, k.depth ≤ n) → NestedKey.depthAll ks ≤ n
  | [], _ => by unfold NestedKey.depthAll; omega
  | k :: ks, h => by
    unfold NestedKey.depthAll
    have := h k List.mem_cons_self
    have := depthAll_le fun x hx => h x (List.mem_cons_of_mem _ hx)
    omega
theorem map_inj' {α β : Type} {g : α → β} (h : ∀ a b, g a = g b → a = b) : ∀ {xs ys : List α}, xs.map g = ys.map g → xs = ys
  | [], [], _ => rfl
  | [], _ :: _, e => by simp at e
  | _ :: _, [], e => by simp at e
  | a :: xs, b :: ys, e => by
    simp only [List.map_cons, List.cons.injEq] at e
    rw [h a b e.1, map_inj' h e.2]
theorem KeyF.list {α : Type} {f : α → D} {g : α → NestedKey} {n : Nat} (hk : ∀ a, keyN (f a) = some (g a)) (hd : ∀ a, (g a).depth ≤ n) (hn : n ≤ 7) (hi : ∀ a b, g a = g b → a = b) : KeyF (fun xs : List α => .tup (xs.map f)) (fun xs => .tup (xs.map g)) :=
  ⟨fun xs => ⟨_, rfl⟩, fun xs => by unfold keyN; rw [keyNs_map hk]; rfl, fun xs => by
    unfold NestedKey.depth
    have := depthAll_le (n := n) (ks := xs.map g) fun k hk => by
      obtain ⟨a, _, rfl⟩ := List.mem_map.mp hk
      exact hd a
    omega, fun xs ys e => map_inj' hi (NestedKey.tup.inj e)⟩
theorem keyAm : KeyF (fun xs : List (Int × Int) => .tup (xs.map fun q => D.tup [.int q.1, .int q.2])) (fun xs => .tup (xs.map fun q => NestedKey.tup [.num q.1, .num q.2])) :=
  KeyF.list (f := fun q : Int × Int => D.tup [.int q.1, .int q.2]) (g := fun q : Int × Int => NestedKey.tup [.num q.1, .num q.2]) (n := 1) (fun a => by unfold keyN; rfl) (fun a => by simp [NestedKey.depth, NestedKey.depthAll]) (by decide) fun a b e => by
    have := NestedKey.tup.inj e
    simp at this
    exact Prod.ext this.1 this.2
end Mi

set_option Elab.async false
set_option linter.all false
set_option maxRecDepth 100000
set_option maxHeartbeats 4000000
/-! S2wm: the own play by all ways of paying. -/
namespace S2
open PySem L2 Mi P20 Sh
theorem behindT_ok {am : List (Int × Int)} {ys : List Int} (hl : ys.length = am.length) (ha : am.length ≤ 1000) {u : PuS} {P : D → PuS → Prop} (h : P (.lst ((lbh am ys).map prQd)) u) : Ok (mf__law_behind [amT am, rowT ys]) u P := by
  unfold mf__law_behind mb__law_behind rowT amT
  simp
  refine ⟨by omega, by rw [rngD_len]; omega, ?_⟩
  refine ok_lcra (fun i => [.sh (.tup (am.map prQd)), .sh (.tup (ys.map D.int)), .sh (.int (0 + (i : Nat)))]) (fun i => prQd ((am.getD i (0, 0)).1 - ys.getD i 0, (am.getD i (0, 0)).2)) ?_ ?_ ?_
  · intro i hi; rfl
  · intro i hi
    have e1 : atI (am.map prQd) (i : Int) = some (prQd (am.getD i (0, 0))) := at_nat (by rw [List.getElem?_map, List.getD_eq_getElem?_getD, List.getElem?_eq_getElem hi]; rfl)
    have e2 : atI (ys.map D.int) (i : Int) = some (.int (ys.getD i 0)) := getI (by rw [List.getD_eq_getElem?_getD, List.getElem?_eq_getElem (show i < ys.length by omega)]; rfl)
    unfold ce__law_behind_1
    generalize am.getD i (0, 0) = q at e1
    generalize ys.getD i 0 = y at e2
    have i0 : ixD (prQd q) (.int 0) = some (.int q.1) := rfl
    have i1 : ixD (prQd q) (.int 1) = some (.int q.2) := rfl
    have e3 : prQd (q.1 - y, q.2) = .tup [.int (q.1 - y), .int q.2] := rfl
    simp [e1, e2, i0, i1, e3]
  rw [lbh_at hl]
  exact h
/-- the states that an event leads to -/
def sucs (e : Ev) (s : List (Int × Int)) : List (List (Int × Int)) := match e with
  | .inr q => [s ++ [q]]
  | .inl x => (ways s x).map (lbh s)
theorem payx_suc {e : Ev} {r : List Ev} {s : List (Int × Int)} (he : ∀ x, e = .inl x → 0 ≤ x) (hs : ∀ q ∈ s, 0 ≤ q.1 ∧ 0 ≤ q.2) : PayX s (e :: r) ↔ ∃ t ∈ sucs e s, PayX t r := by
  cases e with
  | inr q =>
    show PayX (s ++ [q]) r ↔ _
    unfold sucs
    simp
  | inl x =>
    show (∃ ys, Box s ys ∧ ys.sum = x ∧ PayX (lbh s ys) r) ↔ _
    unfold sucs
    constructor
    · rintro ⟨ys, h1, h2, h3⟩
      exact ⟨_, List.mem_map.mpr ⟨ys, (mem_ways hs (he x rfl)).mpr ⟨h1, h2⟩, rfl⟩, h3⟩
    · rintro ⟨t, ht, h3⟩
      obtain ⟨ys, hy, rfl⟩ := List.mem_map.mp ht
      obtain ⟨h1, h2⟩ := (mem_ways hs (he x rfl)).mp hy
      exact ⟨ys, h1, h2, h3⟩
/-- the cards so far -/
def crds : List (Int × Int) → List Ev → List (Int × Int)
  | am, [] => am
  | am, .inr q :: r => crds (am ++ [q]) r
  | am, .inl _ :: r => crds am r
theorem crds_snoc : ∀ (evs : List Ev) (am : List (Int × Int)) (e : Ev), crds am (evs ++ [e]) = match e with
    | .inr q => crds am evs ++ [q]
    | .inl _ => crds am evs
  | [], am, .inr q => rfl
  | [], am, .inl x => rfl
  | .inr q :: r, am, e => crds_snoc r (am ++ [q]) e
  | .inl x :: r, am, e => crds_snoc r am e
theorem crds_sub : ∀ (evs : List Ev) (am : List (Int × Int)) (k : Nat), ∀ q ∈ crds am (evs.take k), q ∈ crds am evs
  | evs, am, 0 => by
    have : ∀ (evs : List Ev) (am : List (Int × Int)), ∀ q ∈ am, q ∈ crds am evs := by
      intro evs
      induction evs with
      | nil => intro am q h; exact h
      | cons e r ih =>
        intro am q h
        cases e with
        | inr p => exact ih _ q (List.mem_append_left _ h)
        | inl x => exact ih _ q h
    exact fun q h => this evs am q h
  | [], am, k + 1 => fun q h => h
  | .inr p :: r, am, k + 1 => crds_sub r (am ++ [p]) k
  | .inl x :: r, am, k + 1 => crds_sub r am k
theorem crds_len : ∀ (evs : List Ev) (am : List (Int × Int)) (k : Nat), (crds am (evs.take k)).length ≤ (crds am evs).length
  | evs, am, 0 => by
    have : ∀ (evs : List Ev) (am : List (Int × Int)), am.length ≤ (crds am evs).length := by
      intro evs
      induction evs with
      | nil => intro am; exact Nat.le_refl _
      | cons e r ih =>
        intro am
        cases e with
        | inr p => have := ih (am ++ [p]); rw [List.length_append] at this; exact Nat.le_trans (by omega) this
        | inl x => exact ih am
    exact this evs am
  | [], am, k + 1 => Nat.le_refl _
  | .inr p :: r, am, k + 1 => crds_len r (am ++ [p]) k
  | .inl x :: r, am, k + 1 => crds_len r am k
/-- what the play may be asked -/
structure Plays (am : List (Int × Int)) (evs : List Ev) : Prop where
  am_ : Am (crds am evs)
  l7 : (crds am evs).length ≤ 7
  b9 : ∀ q ∈ crds am evs, q.1 ≤ 9
  l4 : ∀ q ∈ crds am evs, q.2 ≤ 4
  bill : ∀ x, Sum.inl x ∈ evs → (0 : Int) ≤ x
theorem amT_add (s : List (Int × Int)) (q : Int × Int) (h : s.length ≤ 10) : addD (amT s) (.tup [prQd q]) = some (amT (s ++ [q])) := by
  unfold amT
  rw [List.map_append]
  exact if_pos (by simp; omega)
theorem amT_it (s : List (Int × Int)) : itD (amT s) = some (s.map prQd) := rfl
theorem keyA : KeyF amT (fun xs => .tup (xs.map fun q => NestedKey.tup [.num q.1, .num q.2])) := keyAm
theorem eqPr : EqT prQd (fun q => .tuple [.int q.1, .int q.2]) 1 := ⟨fun q => rfl, fun q => rfl, fun q => Nat.le_refl _, fun q r => by
  show (PyData.eqv (.int q.1) (.int r.1) && (PyData.eqv (.int q.2) (.int r.2) && true)) = _
  rw [EqT.int.eqv, EqT.int.eqv]
  obtain ⟨a, b⟩ := q
  obtain ⟨c, d⟩ := r
  by_cases e1 : a = c <;> by_cases e2 : b = d <;> simp [e1, e2]⟩
theorem neq_nil (l : List (List (Int × Int))) : neMD (.lst (l.map amT)) (.lst []) = some (.bl (decide (l ≠ []))) := by
  have h := (EqT.lst (EqT.tup eqPr)).ne (by decide) l []
  have h4 : (!decide (l = [])) = decide (l ≠ []) := by simp
  rw [h4] at h
  exact h
theorem pays_ok {d1 d2 : D} {am : List (Int × Int)} {evs : List Ev} (h1 : tupD [d1] = some (amT am)) (h2 : itD d2 = some (evs.map evR)) (hp : Plays am evs) {u : PuS} {P : D → PuS → Prop} (h : ∀ b : Bool, (b = true ↔ PayX am evs) → P (.bl b) u) : Ok (mf__law_pays [d1, d2]) u P := by
  unfold mf__law_pays mb__law_pays
  rw [ok_fn]
  refine seq_go fun K R hK hR => ?_
  simp [h1]
  refine hK _ _ ?_
  clear hK hR K R
  have hA : ∀ k, Am (crds am (evs.take k)) ∧ (crds am (evs.take k)).length ≤ 7 ∧ (∀ q ∈ crds am (evs.take k), q.1 ≤ 9) ∧ ∀ q ∈ crds am (evs.take k), q.2 ≤ 4 := fun k =>
    ⟨fun q hq => hp.am_ q (crds_sub evs am k q hq), Nat.le_trans (crds_len evs am k) hp.l7, fun q hq => hp.b9 q (crds_sub evs am k q hq), fun q hq => hp.l4 q (crds_sub evs am k q hq)⟩
  have cnt : ∀ {k : Nat} {l : List (List (Int × Int))}, l.Nodup → (∀ s ∈ l, Below (crds am (evs.take k)) s) → l.length < 16000000 := fun {k l} hn hb => by
    obtain ⟨_, a2, a3, _⟩ := hA k
    have := below_count (m := 9) (fun q hq => by have := a3 q hq; omega) hn hb
    have h7 : (9 + 1) ^ (crds am (evs.take k)).length ≤ (10 : Nat) ^ 7 := Nat.pow_le_pow_right (by decide) a2
    have h8 : (10 : Nat) ^ 7 = 10000000 := by decide
    omega
  refine seq_go fun K R hK hR => ?_
  simp only [ok_for, ok_Iany, ok_var, s_vSh, List.getElem?_cons_succ, List.getElem?_cons_zero, Option.some.injEq, exists_eq_left', h2]
  refine ok_list _ (fun k ρ u' => u' = u ∧ k ≤ evs.length ∧ ∃ (ss : List (List (Int × Int))) (a b c e : Sd), ss.Nodup ∧ (∀ s ∈ ss, Below (crds am (evs.take k)) s) ∧ (PayX am evs ↔ ∃ s ∈ ss, PayX s (evs.drop k)) ∧ ρ = [.sh d1, .sh d2, .sh (.lst (ss.map amT)), a, b, c, e]) ?_ ?_ _ _ ⟨rfl, Nat.zero_le _, [am], _, _, _, _, by simp, (fun s hs => by
      obtain rfl : s = am := by simpa using hs
      exact Below.refl fun q hq => ((hA 0).1 q hq).2.1), by simp, rfl⟩
  · rintro k de ρ u' hq ⟨rfl, hk, ss, a, b, c, e, hn, hb, hi, rfl⟩
    rw [List.getElem?_map] at hq
    cases ee : evs[k]? with
    | none => rw [ee] at hq; cases hq
    | some ev =>
      rw [ee] at hq
      cases hq
      have hkl : k < evs.length := (List.getElem?_eq_some_iff.mp ee).1
      have ed : evs.drop k = ev :: evs.drop (k + 1) := by
        rw [List.drop_eq_getElem_cons hkl]
        have := (List.getElem?_eq_some_iff.mp ee).2
        rw [this]
      have et : evs.take (k + 1) = evs.take k ++ [ev] := by rw [List.take_add_one, ee]; rfl
      have h0e : ∀ x, ev = .inl x → 0 ≤ x := fun x hx => hp.bill x (by rw [← hx]; exact List.mem_of_getElem? ee)
      obtain ⟨a1, a2, a3, a4⟩ := hA k
      have hs0 : ∀ s ∈ ss, (∀ q ∈ s, 0 ≤ q.1 ∧ 0 ≤ q.2) ∧ s.length ≤ 7 ∧ ∀ q ∈ s, q.2 ≤ 4 := fun s hs => by
        have hbs := hb s hs
        refine ⟨fun q hq => ?_, by rw [hbs.len]; exact a2, hbs.lim a4⟩
        have := hbs.am a1 q hq
        omega
      -- what an event leads to lies below the cards
      have hsb : ∀ s ∈ ss, ∀ t ∈ sucs ev s, Below (crds am (evs.take (k + 1))) t := fun s hs t ht => by
        rw [et, crds_snoc]
        cases ev with
        | inr q =>
          obtain rfl : t = s ++ [q] := by simpa [sucs] using ht
          have hq := (hA (k + 1)).1 q (by rw [et, crds_snoc]; simp)
          exact (hb s hs).snoc hq.2.1
        | inl x =>
          obtain ⟨ys, hy, rfl⟩ := List.mem_map.mp ht
          exact (hb s hs).box ((mem_ways (hs0 s hs).1 (h0e x rfl)).mp hy).1
      refine ⟨_, rfl, ?_⟩
      refine st_go fun R0 hR0 => ?_
      unfold lb__law_pays_3
      refine seq_go fun K1 R1 hK1 hR1 => ?_
      simp
      refine hK1 _ _ ?_
      clear hK1 hR1 K1 R1
      refine seq_go fun K1 R1 hK1 hR1 => ?_
      simp only [ok_for, ok_Iany, ok_var, s_vSh, List.getElem?_cons_succ, List.getElem?_cons_zero, Option.some.injEq, exists_eq_left']
      refine ⟨_, rfl, ?_⟩
      refine ok_list _ (fun j ρ v => v = u' ∧ j ≤ ss.length ∧ ∃ (fs : List (List (Int × Int))) (ds : List D) (c e : Sd), fs.Nodup ∧ (∀ t ∈ fs, ∃ s ∈ ss, t ∈ sucs ev s) ∧ (∀ s ∈ ss.take j, ∀ t ∈ sucs ev s, t ∈ fs) ∧ ρ = [.sh d1, .sh d2, .sh (.lst (ss.map amT)), .sh (evR ev), .od (fs.map amT) ds, c, e]) ?_ ?_ _ _ ⟨rfl, Nat.zero_le _, [], [], _, _, by simp, (fun t ht => by cases ht), (fun s hs => by simp at hs), rfl⟩
      · rintro j dsx ρ v hsx ⟨rfl, hj, fs, ds, c, e, f1, f2, f3, rfl⟩
        rw [List.getElem?_map] at hsx
        cases es : ss[j]? with
        | none => rw [es] at hsx; cases hsx
        | some s =>
          rw [es] at hsx
          cases hsx
          have hs := List.mem_of_getElem? es
          have hjl : j < ss.length := (List.getElem?_eq_some_iff.mp es).1
          obtain ⟨s1, s2, s4⟩ := hs0 s hs
          have et2 : ss.take (j + 1) = ss.take j ++ [s] := by rw [List.take_add_one, es]; rfl
          have lim : ∀ {fs : List (List (Int × Int))}, fs.Nodup → (∀ t ∈ fs, ∃ s ∈ ss, t ∈ sucs ev s) → fs.length < 16000000 := fun {fs} h1 h2 => cnt (k := k + 1) h1 fun t ht => by
            obtain ⟨s, hs, ht⟩ := h2 t ht
            exact hsb s hs t ht
          refine ⟨_, rfl, ?_⟩
          refine st_go fun R1' hR1' => ?_
          unfold lb__law_pays_2
          cases ev with
          | inr q =>
            have isi : isiD [prQd q, .ty "tuple"] = some (.bl true) := rfl
            have eq : evR (.inr q) = prQd q := rfl
            obtain ⟨ds', e'⟩ := keyA.put (lim f1 f2) ds (s ++ [q]) (.bl true)
            simp [isi, eq, amT_add s q (by omega), vOd, e']
            refine hR1' _ _ ⟨rfl, hjl, _, _, _, _, ins_nodup f1, fun t ht => ?_, fun s' hs' t ht => ?_, rfl⟩
            · rcases mem_ins.mp ht with ht | rfl
              · exact f2 t ht
              · exact ⟨s, hs, by simp [sucs]⟩
            · rw [et2] at hs'
              rcases List.mem_append.mp hs' with hs' | hs'
              · exact mem_ins.mpr (.inl (f3 s' hs' t ht))
              · obtain rfl : s' = s := by simpa using hs'
                obtain rfl : t = s' ++ [q] := by simpa [sucs] using ht
                exact mem_ins.mpr (.inr rfl)
          | inl x =>
            have isi : isiD [.int x, .ty "tuple"] = some (.bl false) := rfl
            have eq : evR (.inl x) = .int x := rfl
            have hx := h0e x rfl
            simp only [ok_ifS, ok_B, ok_CB, ok_cons, ok_nil, ok_var, s_vSh, List.getElem?_cons_succ, List.getElem?_cons_zero, Option.some.injEq, exists_eq_left', ok_C, isi, onB_bl, br_f, ok_for, ok_Iany, ok_call, List.length_cons, List.length_nil, true_and, eq, List.set_cons_succ, List.set_cons_zero]
            refine ways_ok (amT_it s) s2 (fun q hq => ⟨s1 q hq, s4 q hq⟩) hx ?_
            refine ⟨_, rfl, ?_⟩
            refine ok_list _ (fun i ρ w => w = v ∧ i ≤ (ways s x).length ∧ ∃ (fs : List (List (Int × Int))) (ds : List D) (e : Sd), fs.Nodup ∧ (∀ t ∈ fs, ∃ s ∈ ss, t ∈ sucs (.inl x) s) ∧ (∀ s ∈ ss.take j, ∀ t ∈ sucs (.inl x) s, t ∈ fs) ∧ (∀ y ∈ (ways s x).take i, lbh s y ∈ fs) ∧ ρ = [.sh d1, .sh d2, .sh (.lst (ss.map amT)), .sh (.int x), .od (fs.map amT) ds, .sh (amT s), e]) ?_ ?_ _ _ ⟨rfl, Nat.zero_le _, fs, ds, _, f1, f2, f3, (fun y hy => by simp at hy), rfl⟩
            · rintro i dy ρ w hy ⟨rfl, hi', fs, ds, e, f1, f2, f3, f4, rfl⟩
              rw [List.getElem?_map] at hy
              cases ey : (ways s x)[i]? with
              | none => rw [ey] at hy; cases hy
              | some y =>
                rw [ey] at hy
                cases hy
                have hym := List.mem_of_getElem? ey
                have hyl : y.length = s.length := box_len ((mem_ways s1 hx).mp hym).1
                have hil : i < (ways s x).length := (List.getElem?_eq_some_iff.mp ey).1
                have et3 : (ways s x).take (i + 1) = (ways s x).take i ++ [y] := by rw [List.take_add_one, ey]; rfl
                refine ⟨_, rfl, ?_⟩
                refine st_go fun R2 hR2 => ?_
                unfold lb__law_pays_1
                obtain ⟨ds', e'⟩ := keyA.put (lim f1 f2) ds (lbh s y) (.bl true)
                simp
                refine behindT_ok hyl (by omega) ?_
                have et : tupD [.lst ((lbh s y).map prQd)] = some (amT (lbh s y)) := rfl
                simp [et, vOd, e']
                refine hR2 _ _ ⟨rfl, hil, _, _, _, ins_nodup f1, fun t ht => ?_, fun s' hs' t ht => mem_ins.mpr (.inl (f3 s' hs' t ht)), fun z hz => ?_, rfl⟩
                · rcases mem_ins.mp ht with ht | rfl
                  · exact f2 t ht
                  · exact ⟨s, hs, List.mem_map.mpr ⟨y, hym, rfl⟩⟩
                · rw [et3] at hz
                  rcases List.mem_append.mp hz with hz | hz
                  · exact mem_ins.mpr (.inl (f4 z hz))
                  · obtain rfl : z = y := by simpa using hz
                    exact mem_ins.mpr (.inr rfl)
            · rintro ρ w ⟨rfl, _, fs, ds, e, f1, f2, f3, f4, rfl⟩
              refine hR1' _ _ ⟨rfl, hjl, _, _, _, _, f1, f2, fun s' hs' t ht => ?_, rfl⟩
              rw [et2] at hs'
              rcases List.mem_append.mp hs' with hs' | hs'
              · exact f3 s' hs' t ht
              · obtain rfl : s' = s := by simpa using hs'
                obtain ⟨y, hy, rfl⟩ := List.mem_map.mp ht
                exact f4 y (by rw [List.length_map, List.take_length]; exact hy)
      · rintro ρ v ⟨rfl, _, fs, ds, c, e, f1, f2, f3, rfl⟩
        refine hK1 _ _ ?_
        have ef : frzD 4 [.sh d1, .sh d2, .sh (.lst (ss.map amT)), .sh (evR ev), .od (fs.map amT) ds, c, e] = [.sh d1, .sh d2, .sh (.lst (ss.map amT)), .sh (evR ev), .sh (.ndc (fs.map amT) ds), c, e] := rfl
        have ek : keysD [.ndc (fs.map amT) ds] = some (fs.map amT) := rfl
        simp [ef, ek]
        refine hR0 _ _ ⟨rfl, hkl, fs, _, _, _, _, f1, fun t ht => ?_, ?_, rfl⟩
        · obtain ⟨s, hs, ht⟩ := f2 t ht
          exact hsb s hs t ht
        · rw [hi, ed]
          constructor
          · rintro ⟨s, hs, hx⟩
            obtain ⟨t, ht, hx⟩ := (payx_suc h0e (hs0 s hs).1).mp hx
            exact ⟨t, f3 s (by rw [List.length_map, List.take_length]; exact hs) t ht, hx⟩
          · rintro ⟨t, ht, hx⟩
            obtain ⟨s, hs, ht⟩ := f2 t ht
            exact ⟨s, hs, (payx_suc h0e (hs0 s hs).1).mpr ⟨t, ht, hx⟩⟩
  · rintro ρ u' ⟨rfl, _, ss, a, b, c, e, hn, hb, hi, rfl⟩
    rw [List.length_map, List.drop_length] at hi
    refine hK _ _ ?_
    simp [neq_nil]
    refine h _ ?_
    rw [hi]
    simp only [Bool.not_eq_true', decide_eq_false_iff_not]
    constructor
    · intro hne
      obtain ⟨s, hs⟩ := List.exists_mem_of_ne_nil _ hne
      exact ⟨s, hs, trivial⟩
    · rintro ⟨s, hs, _⟩ hn
      rw [hn] at hs
      cases hs
def evLim (t : Int) : Ev → Prop
  | .inl x => x < t
  | .inr q => q.2 ≤ 3 ∧ q.1 ≤ 6
theorem crds_mem : ∀ (evs : List Ev) (am : List (Int × Int)) (q : Int × Int), q ∈ crds am evs → q ∈ am ∨ Sum.inr q ∈ evs
  | [], am, q, h => .inl h
  | .inr p :: r, am, q, h => by
    rcases crds_mem r (am ++ [p]) q h with h | h
    · rcases List.mem_append.mp h with h | h
      · exact .inl h
      · obtain rfl : q = p := by simpa using h
        exact .inr List.mem_cons_self
    · exact .inr (List.mem_cons_of_mem _ h)
  | .inl x :: r, am, q, h => (crds_mem r am q h).imp id (List.mem_cons_of_mem _)
theorem crds_length : ∀ (evs : List Ev) (am : List (Int × Int)), (crds am evs).length = am.length + nC evs
  | [], am => rfl
  | .inr p :: r, am => by
    show (crds (am ++ [p]) r).length = _
    rw [crds_length r, List.length_append]
    have : nC (.inr p :: r) = nC r + 1 := rfl
    rw [this]
    simp
    omega
  | .inl x :: r, am => crds_length r am
theorem le_sum : ∀ {am : List (Int × Int)}, Am am → ∀ q ∈ am, q.1 ≤ (am.map Prod.fst).sum
  | [], _, q, h => by cases h
  | p :: am, ha, q, h => by
    have nn : ∀ (l : List (Int × Int)), Am l → 0 ≤ (l.map Prod.fst).sum := fun l => by
      induction l with
      | nil => intro _; exact Int.le_refl _
      | cons q l ih =>
        intro h
        have := ih h.tail
        have := (h q List.mem_cons_self).2.1
        rw [List.map_cons, List.sum_cons]
        omega
    rw [List.map_cons, List.sum_cons]
    have h0 := (ha p List.mem_cons_self).2.1
    rcases List.mem_cons.mp h with rfl | h
    · have := nn am ha.tail
      omega
    · have := le_sum ha.tail q h
      omega
theorem plays_of {am : List (Int × Int)} {evs : List Ev} {t : Nat} (ha : Am am) (hl : am.length ≤ 3) (h4 : ∀ q ∈ am, q.2 ≤ 4) (hs : (am.map Prod.fst).sum ≤ t) (ht : t ≤ 9) {m : Int} (hev : ∀ e ∈ evs, evOk e ∧ evLim m e) (hc : nC evs ≤ 4) : Plays am evs := by
  refine ⟨fun q hq => ?_, by rw [crds_length]; omega, fun q hq => ?_, fun q hq => ?_, fun x hx => (hev _ hx).1⟩
  · rcases crds_mem evs am q hq with h | h
    · exact ha q h
    · exact (hev _ h).1
  · rcases crds_mem evs am q hq with h | h
    · have := le_sum ha q h
      omega
    · have := (hev _ h).2.2
      omega
  · rcases crds_mem evs am q hq with h | h
    · exact h4 q h
    · have := (hev _ h).2.1
      omega
theorem evs0_of {evs : List Ev} (h : ∀ e ∈ evs, evOk e) : Evs0 evs := ⟨fun q hq => h _ hq, fun x hx => h _ hx⟩
end S2

set_option Elab.async false
set_option linter.all false
set_option maxRecDepth 100000
set_option maxHeartbeats 4000000
namespace Sh
open PySem L2 Mi P20
theorem check_payment_ok {ps : List (Str × (Int × Int))} (ha : Am (ps.map Prod.snd)) (hl : ps.length ≤ 1000) {ys : List Int} (hy : ys.length = ps.length) (hb : ∀ (i : Nat) (q : Int × Int) (y : Int), (ps.map Prod.snd)[i]? = some q → ys[i]? = some y → 0 ≤ y ∧ y ≤ min q.1 q.2) {u : PuS} {P : D → PuS → Prop} (h : P .non u) : Ok (mf_check_payment [walD ps, rwT ys]) u P := by
  unfold mf_check_payment mb_check_payment
  rw [ok_fn]
  refine seq_go fun K R hK hR => ?_
  simp
  refine ⟨_, _, rfl, ?_⟩
  refine cards_ok hl ?_
  refine hK _ _ ?_
  clear hK hR K R
  refine seq_go fun K R hK hR => ?_
  have ei : isiD [rwT ys, .ty "tuple"] = some (.bl true) := rfl
  have el : lenD [rwT ys] = some (.int ys.length) := by unfold rwT; simp
  simp [ei, el, hy]
  refine hK _ _ ?_
  clear hK hR K R
  have ee : enumA [rwT ys] = some (enumD (ys.map D.int)) := rfl
  simp [ee]
  refine ok_list (enumD (ys.map D.int)) (fun k ρ u' => u' = u ∧ ∃ a b, ρ = [.sh (walD ps), .sh (rwT ys), .sh (.tup (ps.map fun p => cardD p.2)), a, b]) ?_ ?_ _ _ ⟨rfl, .un, .un, rfl⟩
  · rintro k d ρ u' e ⟨rfl, a, b, rfl⟩
    obtain ⟨y, ey, rfl⟩ := enumD_ints e
    have hk : k < ps.length := by rw [← hy]; exact (List.getElem?_eq_some_iff.mp ey).1
    have ep : ps[k]? = some ps[k] := List.getElem?_eq_getElem hk
    obtain ⟨b1, b2⟩ := hb k ps[k].2 y (by rw [List.getElem?_map, ep]; rfl) ey
    have hc : atI (ps.map fun p => cardD p.2) (k : Int) = some (cardD ps[k].2) := at_nat (by rw [List.getElem?_map, ep]; rfl)
    generalize ps[k].2 = q at b2 hc
    have ec : cardD q = .obj "Card" ["held", "daily"] [.int q.1, .int q.2] := rfl
    rw [ec] at hc
    refine ⟨_, rfl, ?_⟩
    refine st_go fun R hR => ?_
    unfold lb_check_payment_1
    simp [b1, hc]
    refine worth_ok (k := 1) (by omega) ?_
    have e1 : ¬ wor q.1 q.2 1 < y := by rw [wor_one]; omega
    simp [e1]
    exact hR _ _ ⟨rfl, _, _, rfl⟩
  · rintro ρ u' ⟨rfl, a, b, rfl⟩
    exact h
def btwB (as ys bs : List Int) : Bool := (List.range ys.length).all fun i => decide (as.getD i 0 ≤ ys.getD i 0) && decide (ys.getD i 0 ≤ bs.getD i 0)
theorem hixS {l : List Int} {k : Nat} (h : k < l.length) : ixD (rwT l) (.int (k : Int)) = some (.int (l.getD k 0)) := getI (by rw [List.getD_eq_getElem?_getD, List.getElem?_eq_getElem h]; rfl)
theorem highs_len (am : List (Int × Int)) (x : Int) : (highs am x).length = am.length := by
  unfold highs
  split
  · simp
  · rw [pts_len]
theorem btwB_of {as ys bs : List Int} (h : Betw as ys bs) : btwB as ys bs = true := by
  obtain ⟨h1, h2⟩ := h.len
  unfold btwB
  rw [List.all_eq_true]
  intro i hi
  have hi := List.mem_range.mp hi
  have := Betw_at h (i := i) (a := as.getD i 0) (y := ys.getD i 0) (b := bs.getD i 0) (by rw [List.getD_eq_getElem?_getD, List.getElem?_eq_getElem (by omega)]; rfl) (by rw [List.getD_eq_getElem?_getD, List.getElem?_eq_getElem (by omega)]; rfl) (by rw [List.getD_eq_getElem?_getD, List.getElem?_eq_getElem (by omega)]; rfl)
  rw [decide_eq_true this.1, decide_eq_true this.2]
  rfl
theorem all_is (bs : List Bool) : allD [.lst (bs.map D.bl)] = some (.bl (bs.all id)) := by
  show (blsD (bs.map D.bl)).map (fun bs => D.bl (bs.all id)) = _
  rw [blsD_map]
  rfl
theorem is_sparing_ok {ps : List (Str × (Int × Int))} (ha : Am (ps.map Prod.snd)) (hl : ps.length ≤ 1000) {ys : List Int} (hy : ys.length = ps.length) (hb : ∀ (i : Nat) (q : Int × Int) (y : Int), (ps.map Prod.snd)[i]? = some q → ys[i]? = some y → 0 ≤ y ∧ y ≤ min q.1 q.2) (hx : 0 ≤ ys.sum) {u : PuS} {P : D → PuS → Prop} (h : P (.bl (btwB (lows (ps.map Prod.snd) ys.sum) ys (highs (ps.map Prod.snd) ys.sum))) u) : Ok (mf_is_sparing [walD ps, rwT ys]) u P := by
  unfold mf_is_sparing mb_is_sparing
  rw [ok_fn]
  refine seq_go fun K R hK hR => ?_
  simp
  refine hK _ _ ?_
  clear hK hR K R
  refine seq_go fun K R hK hR => ?_
  simp
  refine check_payment_ok ha hl hy hb ?_
  refine hK _ _ ?_
  clear hK hR K R
  refine seq_go fun K R hK hR => ?_
  have es : sumD [rwT ys] = some (.int ys.sum) := s_sumT
  simp [es]
  refine amounts_ok (by omega) ?_
  refine bounds_ok ha (by rw [List.length_map]; omega) hx ?_
  refine ⟨_, rfl, ?_⟩
  refine hK _ _ ?_
  clear hK hR K R
  have el : lenD [rwT ys] = some (.int ys.length) := by unfold rwT; simp
  have hll := lows_len (ps.map Prod.snd) ys.sum
  have hhl := highs_len (ps.map Prod.snd) ys.sum
  rw [List.length_map] at hll hhl
  generalize lows (ps.map Prod.snd) ys.sum = lo at h hll
  generalize highs (ps.map Prod.snd) ys.sum = hi at h hhl
  simp [el]
  refine ⟨by omega, by rw [rngD_len]; omega, ?_⟩
  refine ok_lcra (fun i => [.sh (walD ps), .sh (rwT ys), .sh (rwT lo), .sh (rwT hi), .sh (.int (0 + (i : Nat)))]) (fun i => .bl (decide (lo.getD i 0 ≤ ys.getD i 0) && decide (ys.getD i 0 ≤ hi.getD i 0))) ?_ ?_ ?_
  · intro i hi; rfl
  · intro i hi'
    have g1 := hixS (l := lo) (k := i) (by omega)
    have g2 := hixS (l := ys) (k := i) (by omega)
    have g3 := hixS (l := hi) (k := i) (by omega)
    generalize lo.getD i 0 = x at g1
    generalize ys.getD i 0 = y at g2
    generalize hi.getD i 0 = z at g3
    unfold ce_is_sparing_1
    simp [g1, g2, g3]
    refine brd (fun hz => ?_) (fun hz => ?_)
    · exact fun _ => hz
    · intro hz'
      omega
  have eb : (List.range ys.length).map (fun i => D.bl (decide (lo.getD i 0 ≤ ys.getD i 0) && decide (ys.getD i 0 ≤ hi.getD i 0))) = ((List.range ys.length).map fun i => decide (lo.getD i 0 ≤ ys.getD i 0) && decide (ys.getD i 0 ≤ hi.getD i 0)).map D.bl := by rw [List.map_map]; rfl
  rw [eb, all_is]
  refine ⟨_, rfl, ?_⟩
  unfold btwB at h
  rw [List.all_map]
  exact h
end Sh

set_option Elab.async false
set_option linter.all false
set_option maxRecDepth 100000
set_option maxHeartbeats 4000000
namespace G39
open PySem L2 Mi P20 Sh S2
theorem Box_at : ∀ {am : List (Int × Int)} {ys : List Int}, Box am ys → ∀ (i : Nat) (q : Int × Int) (y : Int), am[i]? = some q → ys[i]? = some y → 0 ≤ y ∧ y ≤ min q.1 q.2
  | [], [], _, i, q, y, e, _ => by cases e
  | p :: am, z :: ys, hb, 0, q, y, e1, e2 => by cases e1; cases e2; exact hb.1
  | p :: am, z :: ys, hb, i + 1, q, y, e1, e2 => Box_at hb.2 i q y (by simpa using e1) (by simpa using e2)
  | [], _ :: _, hb, _, _, _, _, _ => by simp [Box] at hb
  | _ :: _, [], hb, _, _, _, _, _ => by simp [Box] at hb
/-- the first day with less than the best -/
def Fst (am bm : List (Int × Int)) (x : Int) (r : Option Nat) : Prop := match r with
  | some k => (1 ≤ k ∧ k ≤ 25) ∧ FF bm k < best am x k ∧ ∀ j, 1 ≤ j → j < k → best am x j ≤ FF bm j
  | none => ∀ j, 1 ≤ j → j ≤ 25 → best am x j ≤ FF bm j
theorem Fst.uniq {am bm : List (Int × Int)} {x : Int} {r r' : Option Nat} (h : Fst am bm x r) (h' : Fst am bm x r') : r = r' := by
  cases r with
  | none =>
    cases r' with
    | none => rfl
    | some k => have := h k h'.1.1 h'.1.2; have := h'.2.1; omega
  | some k =>
    cases r' with
    | none => have := h' k h.1.1 h.1.2; have := h.2.1; omega
    | some k' =>
      rcases Nat.lt_trichotomy k k' with z | z | z
      · have := h'.2.2 k h.1.1 z; have := h.2.1; omega
      · rw [z]
      · have := h.2.2 k' h'.1.1 z; have := h'.2.1; omega
theorem Fst.of {am bm : List (Int × Int)} {x : Int} {one other : List Int} {r : Option Nat} (hbm : Am bm) (h1 : ∀ k, sumN one k = FF bm k) (h2 : ∀ k, sumN other k = best am x k) (hl : other.length ≤ 24) (p : Parts one other r) : Fst am bm x r := by
  cases r with
  | some d =>
    obtain ⟨⟨a, b⟩, c, e⟩ := p
    rw [h1, h2] at c
    refine ⟨⟨a, by omega⟩, c, fun j j1 j2 => ?_⟩
    have := e j j1 j2
    rw [h1, h2] at this
    exact this
  | none =>
    intro j j1 j2
    by_cases hj : j ≤ other.length
    · have := p j j1 hj
      rw [h1, h2] at this
      exact this
    · rw [← h2, sumN_flat other j (by omega)]
      by_cases h0 : 1 ≤ other.length
      · have q := p other.length h0 (Nat.le_refl _)
        rw [h1] at q
        have := FF_le hbm (show other.length ≤ j by omega)
        omega
      · have : other.length = 0 := by omega
        rw [this, sumN_zero]
        exact FF_nonneg hbm j
theorem Fst.all {am bm : List (Int × Int)} (ha : Am am) (hbm : Am bm) {x : Int} (hx : 0 ≤ x) (h : Fst am bm x none) : ∀ k, best am x k ≤ FF bm k := by
  intro k
  have hfl : ∀ j, FF am (25 + j) = FF am 25 := fun j => by
    induction j with
    | zero => rfl
    | succ j ih =>
      have p := pts_zero ha (show 24 ≤ 25 + j by omega)
      rw [pts_sum] at p
      show FF am (25 + j + 1) = _
      omega
  by_cases h0 : k = 0
  · subst h0
    have := FF_zero ha
    have := FF_zero hbm
    unfold best
    omega
  · by_cases h1 : k ≤ 25
    · exact h k (by omega) h1
    · have q := h 25 (by decide) (by decide)
      have e1 := hfl (k - 25)
      have e2 := hfl (k + 1 - 25)
      have e3 := hfl 1
      rw [show 25 + (k - 25) = k by omega] at e1
      rw [show 25 + (k + 1 - 25) = k + 1 by omega] at e2
      have := FF_le hbm (show 25 ≤ k by omega)
      unfold best at q ⊢
      have e3' : FF am (25 + 1) = FF am 25 := e3
      omega
theorem btw_of : ∀ {as ys bs : List Int}, ys.length = as.length → bs.length = as.length → (∀ i, i < ys.length → as.getD i 0 ≤ ys.getD i 0 ∧ ys.getD i 0 ≤ bs.getD i 0) → Betw as ys bs
  | [], [], [], _, _, _ => trivial
  | a :: as, y :: ys, b :: bs, h1, h2, h => by
    have h0 := h 0 (by simp)
    exact ⟨by simpa using h0.1, by simpa using h0.2, btw_of (by simpa using h1) (by simpa using h2) fun i hi => by simpa using h (i + 1) (by simpa using hi)⟩
  | [], _ :: _, _, h, _, _ => by cases h
  | [], [], _ :: _, _, h, _ => by cases h
  | _ :: _, [], _, h, _, _ => by cases h
  | _ :: _, _ :: _, [], _, h, _ => by cases h
theorem btwB_iff {as ys bs : List Int} (h1 : ys.length = as.length) (h2 : bs.length = as.length) : btwB as ys bs = true ↔ Betw as ys bs := by
  constructor
  · intro h
    refine btw_of h1 h2 fun i hi => ?_
    have := List.all_eq_true.mp h i (List.mem_range.mpr hi)
    rw [Bool.and_eq_true] at this
    exact ⟨of_decide_eq_true this.1, of_decide_eq_true this.2⟩
  · exact btwB_of
theorem sparing_is {am : List (Int × Int)} {ys : List Int} (ha : Am am) (hb : Box am ys) {r : Option Nat} (hr : Fst am (lbh am ys) ys.sum r) : btwB (lows am ys.sum) ys (highs am ys.sum) = r.isNone := by
  have hl := box_len hb
  have i1 := btwB_iff (as := lows am ys.sum) (ys := ys) (bs := highs am ys.sum) (by rw [lows_len, hl]) (by rw [lows_len, highs_len])
  rw [sparing_iff ha hb] at i1
  rw [Bool.eq_iff_iff, i1]
  cases r with
  | none => exact ⟨fun _ => rfl, fun _ => Fst.all ha (box_am ha hb) (box_sum hb).1 hr⟩
  | some k =>
    constructor
    · intro h
      have := h k
      have := hr.2.1
      omega
    · intro h; cases h
theorem taken_ok {row : List Int} (hl : row.length ≤ 24) {x : Int} (hx : x = 0 ∨ (row.filter fun y => decide (x ≤ y)).length ≠ 0) {u : PuS} {P : D → PuS → Prop} (h : P (rwT (takenL row x)) u) : Ok (mf_taken [rwT row, .int x]) u P := by
  unfold mf_taken mb_taken
  rw [ok_fn]
  refine seq_go fun K R hK hR => ?_
  unfold takenL at h
  by_cases h0 : x = 0
  · subst h0
    rw [if_pos rfl] at h
    simp
    exact hR _ _ h
  rw [if_neg h0] at h
  simp [h0]
  refine hK _ _ ?_
  clear hK hR K R
  have hn := hx.resolve_left h0
  have hfl := List.length_filter_le (fun y => decide (x ≤ y)) row
  have hit : itD (rwT row) = some (row.map D.int) := rfl
  refine seq_go fun K R hK hR => ?_
  simp [hit]
  refine ⟨by omega, ?_⟩
  refine ok_lcl (fun y => [.sh (rwT row), .sh (.int x), .un, .un, .sh (.int y)]) (fun y => decide (x ≤ y)) (fun y => .int y) ?_ ?_ ?_ ?_
  · intro y hy; rfl
  · intro y hy; simp
  · intro y hy _; simp
  simp
  dsimp only at h
  generalize (row.filter fun y => decide (x ≤ y)).length = n at hn hfl h
  rw [show ((n : Int) - 1) = ((n - 1 : Nat) : Int) by omega]
  refine hK _ _ ?_
  clear hK hR K R
  have hL : n - 1 < row.length := by omega
  generalize n - 1 = L at hL h
  have g1 : ixD (rwT row) (.int (L : Int)) = some (.int (row.getD L 0)) := hixS hL
  have hlen : lenD [rwT row] = some (.int row.length) := by unfold rwT; simp
  refine seq_go fun K R hK hR => ?_
  simp [g1]
  have nat_ok : ∀ {P : D → PuS → Prop} {u : PuS}, P (.int (row.getD (L + 1) 0)) u → Ok (mf_number_at [rwT row, .int ((L : Int) + 1)]) u P := fun {P u} h => by
    unfold mf_number_at mb_number_at
    simp [hlen]
    refine brd (fun z => ?_) (fun z => ?_)
    · have g2 : ixD (rwT row) (.int ((L : Int) + 1)) = some (.int (row.getD (L + 1) 0)) := hixS (l := row) (k := L + 1) (by omega)
      exact ⟨_, g2, h⟩
    · have e : row.getD (L + 1) 0 = 0 := by
        rw [List.getD_eq_getElem?_getD, List.getElem?_eq_none (by omega)]
        rfl
      rw [e] at h
      exact h
  refine nat_ok ?_
  simp
  refine hK _ _ ?_
  clear hK hR K R
  have c1 : cutD (row.map D.int) none (some (L : Int)) = (row.take L).map D.int := by rw [cut_to, List.map_take]
  have c2 : cutD (row.map D.int) (some ((L : Int) + 2)) none = (row.drop (L + 2)).map D.int := by
    rw [show (L : Int) + 2 = ((L + 2 : Nat) : Int) by omega, cut_from, List.map_drop]
  simp only [← List.getD_eq_getElem?_getD] at *
  generalize row.getD L 0 + row.getD (L + 1) 0 - x = rest at h ⊢
  have s1 : slD (rwT row) none (some (L : Int)) = some (rwT (row.take L)) := by
    show some (D.tup (cutD (row.map D.int) none (some (L : Int)))) = _
    rw [c1]
    rfl
  have s2 : slD (rwT row) (some ((L : Int) + 2)) none = some (rwT (row.drop (L + 2))) := by
    show some (D.tup (cutD (row.map D.int) (some ((L : Int) + 2)) none)) = _
    rw [c2]
    rfl
  have ad : ∀ a b : List Int, a.length + b.length ≤ 100 → addD (rwT a) (rwT b) = some (rwT (a ++ b)) := fun a b hab => by
    have : addD (rwT a) (rwT b) = some (.tup (a.map D.int ++ b.map D.int)) := if_pos (by simp; omega)
    rw [this, ← List.map_append]
    rfl
  have t1 : (row.take L).length ≤ 24 := by rw [List.length_take]; omega
  have t2 : (row.drop (L + 2)).length ≤ 24 := by rw [List.length_drop]; omega
  simp [s1, s2]
  refine brd (fun z => ?_) (fun z => ?_)
  · rw [if_pos z] at h
    exact ⟨_, ad _ [rest] (by simp only [List.length_cons, List.length_nil]; omega), _, ad _ _ (by rw [List.length_append]; simp only [List.length_cons, List.length_nil]; omega), h⟩
  · rw [if_neg z] at h
    exact ⟨_, ad _ [] (by simp only [List.length_nil]; omega), _, ad _ _ (by rw [List.length_append]; simp only [List.length_nil]; omega), h⟩
theorem lost_row_ok {ps : List (Str × (Int × Int))} (ha : Am (ps.map Prod.snd)) (hl : ps.length ≤ 100) {ys : List Int} (hb : Box (ps.map Prod.snd) ys) {u : PuS} {P : D → PuS → Prop} (h : ∀ r, Fst (ps.map Prod.snd) (lbh (ps.map Prod.snd) ys) ys.sum r → P (optD (r.map fun d => evn (FF (lbh (ps.map Prod.snd) ys) d + 1) d)) u) : Ok (mf_lost_row [walD ps, rwT ys]) u P := by
  have hyl := box_len hb
  obtain ⟨x0, x1⟩ := box_sum hb
  have hbm := box_am ha hb
  have hbl := lbh_len hyl
  rw [List.length_map] at hyl hbl
  unfold mf_lost_row mb_lost_row
  rw [ok_fn]
  refine seq_go fun K R hK hR => ?_
  simp
  refine hK _ _ ?_
  clear hK hR K R
  refine seq_go fun K R hK hR => ?_
  simp
  refine check_payment_ok ha (by omega) hyl (Box_at hb) ?_
  refine hK _ _ ?_
  clear hK hR K R
  have es : sumD [rwT ys] = some (.int ys.sum) := s_sumT
  refine seq_go fun K R hK hR => ?_
  simp
  refine ⟨_, _, rfl, ?_⟩
  refine wform_ok ha (by omega) fun row hr => ?_
  refine ⟨_, _, rfl, ?_⟩
  simp [es]
  obtain ⟨t1, t2⟩ := taken_best ha hr x0 x1
  refine taken_ok hr.len ?_ ?_
  · by_cases hx : ys.sum = 0
    · exact .inl hx
    · refine .inr ?_
      have := (row_filter ha hr (show 0 < ys.sum by omega) x1).1
      omega
  refine hK _ _ ?_
  clear hK hR K R
  generalize takenL row ys.sum = tk at t1 t2
  simp
  refine amounts_ok (by omega) ?_
  refine left_behind_ok (by rw [List.length_map]; omega) ?_
  refine row_of_ok hbm (by omega) rfl fun one h1 => ?_
  refine parted_ok h1.len t2 fun r pr => ?_
  have hs1 := h1.sum hbm
  have := h r (Fst.of hbm hs1 t1 t2 pr)
  have e : (r.map fun d => evn (sumN one d + 1) d) = r.map fun d => evn (FF (lbh (ps.map Prod.snd) ys) d + 1) d := by
    cases r with
    | none => rfl
    | some d => simp only [Option.map_some]; rw [hs1]
  rw [e]
  exact this

theorem first_not {p : Nat → Prop} : ∀ n, ¬ p n → ∃ d, d ≤ n ∧ (∀ k, k < d → p k) ∧ ¬ p d
  | 0, h => ⟨0, Nat.le_refl _, fun k hk => by omega, h⟩
  | n + 1, h => by
    by_cases e : ∀ k, k < n + 1 → p k
    · exact ⟨n + 1, Nat.le_refl _, e, h⟩
    · have : ∃ k, k < n + 1 ∧ ¬ p k := by
        apply Classical.byContradiction
        intro hc
        exact e fun k hk => by
          apply Classical.byContradiction
          intro hh
          exact hc ⟨k, hk, hh⟩
      obtain ⟨k, hk, hn⟩ := this
      have key : ∀ j, j ≤ n → ¬ p j → ∃ d, d ≤ n ∧ (∀ k, k < d → p k) ∧ ¬ p d := by
        intro j
        induction j using Nat.strongRecOn with
        | _ j ih =>
          intro hj hn
          by_cases e : ∀ k, k < j → p k
          · exact ⟨j, hj, e, hn⟩
          · have : ∃ k, k < j ∧ ¬ p k := by
              apply Classical.byContradiction
              intro hc
              exact e fun k hk => by
                apply Classical.byContradiction
                intro hh
                exact hc ⟨k, hk, hh⟩
            obtain ⟨k, hk, hn'⟩ := this
            exact ih k hk (by omega) hn'
      obtain ⟨d, h1, h2, h3⟩ := key k (by omega) hn
      exact ⟨d, by omega, h2, h3⟩
theorem row_ex {am : List (Int × Int)} (h : Am am) : ∃ row, IsRow am row := by
  obtain ⟨d, h1, h2, h3⟩ := first_not (p := Mor am) 24 h.stop
  exact ⟨_, d, h1, h2, h3, rfl⟩
theorem parts_ex (ra rb : List Int) : ∃ r, Parts ra rb r := by
  by_cases e : ∀ j, 1 ≤ j → j ≤ rb.length → sumN rb j ≤ sumN ra j
  · exact ⟨none, e⟩
  · have : ∃ j, (1 ≤ j ∧ j ≤ rb.length) ∧ sumN ra j < sumN rb j := by
      apply Classical.byContradiction
      intro hc
      exact e fun j h1 h2 => by
        apply Classical.byContradiction
        intro hh
        exact hc ⟨j, ⟨h1, h2⟩, by omega⟩
    obtain ⟨j, h1, h2⟩ := this
    obtain ⟨d, d1, d2, d3⟩ := first_not (p := fun k => ¬ ((1 ≤ k ∧ k ≤ rb.length) ∧ sumN ra k < sumN rb k)) j (fun h => h ⟨h1, h2⟩)
    have d3 : (1 ≤ d ∧ d ≤ rb.length) ∧ sumN ra d < sumN rb d := Classical.byContradiction d3
    refine ⟨some d, d3.1, d3.2, fun i i1 i2 => ?_⟩
    have := d2 i i2
    apply Classical.byContradiction
    intro hh
    exact this ⟨⟨i1, by have := d3.1.2; omega⟩, by omega⟩
section
variable {am : List (Int × Int)} {x : Int} {ys : List Int}
/-- a payment beside the best one -/
theorem beside (ha : Am am) (hx : 0 ≤ x) (h1 : x ≤ FF am 1) (hb : Box am ys) (hs : ys.sum = x) {r : Option Nat} (hr : Fst am (lbh am ys) x r) :
    (∀ k, FF (lbh am ys) k ≤ FF (lbh am (pay am x)) k) ∧ ∃ ra rb, IsRow (lbh am ys) ra ∧ IsRow (lbh am (pay am x)) rb ∧ Parts ra rb r := by
  have hp := pay_is ha hx h1
  have hA := box_am ha hb
  refine ⟨fun k => ?_, ?_⟩
  · have := FF_up ha hb k
    rw [hp.ff, hs] at *
    omega
  · obtain ⟨ra, hra⟩ := row_ex hA
    obtain ⟨rb, hrb⟩ := row_ex hp.am_
    obtain ⟨r', hr'⟩ := parts_ex ra rb
    have := Fst.of (am := am) (x := x) hA (hra.sum hA) (fun k => by rw [hrb.sum hp.am_, hp.ff]; rfl) hrb.len hr'
    rw [hr.uniq this]
    exact ⟨ra, rb, hra, hrb, hr'⟩
theorem lbh_lim (hb : Box am ys) {m : Int} (h : ∀ q ∈ am, q.2 ≤ m) : ∀ q ∈ lbh am ys, q.2 ≤ m := fun q hq => by
  unfold lbh at hq
  obtain ⟨p, hp, rfl⟩ := List.mem_map.mp hq
  exact h p.1 (List.of_mem_zip hp).1
theorem lbh_sum : ∀ {am : List (Int × Int)} {ys : List Int}, Box am ys → ((lbh am ys).map Prod.fst).sum ≤ (am.map Prod.fst).sum
  | [], [], _ => Int.le_refl _
  | q :: am, y :: ys, hb => by
    have h1 := lbh_sum hb.2
    have h2 := hb.1
    show (q.1 - y) + ((lbh am ys).map Prod.fst).sum ≤ q.1 + (am.map Prod.fst).sum
    omega
  | [], _ :: _, hb => by simp [Box] at hb
  | _ :: _, [], hb => by simp [Box] at hb
theorem FF_last : ∀ {am : List (Int × Int)}, Am am → ∀ k, FF am k ≤ FF am 24
  | [], _, _ => Int.le_refl _
  | (b, l) :: am, h, k => by
    have h1 := FF_last (am := am) h.tail k
    have h2 : 1 ≤ l ∧ 0 ≤ b ∧ b ≤ 24 * l := h (b, l) List.mem_cons_self
    rw [FF_cons, FF_cons]
    unfold wor
    dsimp only
    omega
end
theorem row_e0 {z : List Int} (hz : Falls z) : Evs0 (bl_ z) := S2.evs0_of fun e he => by
  obtain ⟨x, hx, rfl⟩ := List.mem_map.mp he
  have := hz.1 x hx
  show 0 ≤ x
  omega
theorem mem_le {z : List Int} (h : ∀ y ∈ z, 0 < y) : ∀ x ∈ z, x ≤ z.sum := by
  induction z with
  | nil => intro x hx; cases hx
  | cons y z ih =>
    intro x hx
    have h1 := ih fun v hv => h v (List.mem_cons_of_mem _ hv)
    have h2 := h y List.mem_cons_self
    have h3 : 0 ≤ z.sum := falls_sumP fun v hv => h v (List.mem_cons_of_mem _ hv)
    rw [List.sum_cons]
    rcases List.mem_cons.mp hx with rfl | hx
    · omega
    · have := h1 x hx
      omega
section
variable {am : List (Int × Int)}
theorem row_pays_ok {d1 : D} (h1 : tupD [d1] = some (amT am)) (ha : Am am) (hl : am.length ≤ 3) (h4 : ∀ q ∈ am, q.2 ≤ 4) (hs : (am.map Prod.fst).sum ≤ 6) {z : List Int} (hz : Falls z) (h7 : z.sum ≤ 6) {u : PuS} {P : D → PuS → Prop} (h : P (.bl (pp am z)) u) : Ok (mf__law_pays [d1, rowT z]) u P := by
  have hpl : Plays am (bl_ z) := plays_of (t := 6) ha hl h4 hs (by decide) (m := 8) (fun e he => by
    obtain ⟨x, hx, rfl⟩ := List.mem_map.mp he
    have h0 := hz.1 x hx
    have h2 := mem_le hz.1 x hx
    exact ⟨by show 0 ≤ x; omega, by show x < 8; omega⟩) (by rw [nC_bl]; omega)
  refine pays_ok h1 (evs := bl_ z) (by show some (z.map D.int) = _; rw [bl_R]) hpl fun b hb => ?_
  have : b = pp am z := by
    have e1 := ppl_iff 0 ha (row_e0 hz)
    have e2 := payx_iff 0 ha (row_e0 hz)
    rw [Bool.eq_iff_iff, hb, e2, ← e1]
    rfl
  rw [this]
  exact h
theorem pp_can (ha : Am am) {z : List Int} (hz : Falls z) : pp am z = true ↔ CanP 0 am (bl_ z) := ppl_iff 0 ha (row_e0 hz)
end
theorem eqBs (l m : List Bool) : eqMD (.lst (l.map D.bl)) (.lst (m.map D.bl)) = some (.bl (decide (l = m))) := (EqT.lst EqT.bl).eq (by decide) l m
theorem right_ok {u : PuS} (hu : Pu u) {P : D → PuS → Prop} (hp : ∀ u', P (.bl true) u') : Ok (mf__law_right [.pur]) u P := by
  unfold mf__law_right mb__law_right
  rw [ok_fn]
  refine seq_go fun K R hK hR => ?_
  simp
  refine small_ok (n := 3) (t := 6) (by decide) (by decide) hu fun am u1 hl ha h4 hs hu1 => hK _ _ ?_
  clear hK hR K R
  have hws : (wal am).map Prod.snd = am := wal_snd (by omega)
  have hwl := wal_len (am := am) (by omega)
  refine seq_go fun K R hK hR => ?_
  simp
  refine shutet_ok ha (by omega) ?_
  rw [show (1 : Int) = ((1 : Nat) : Int) from rfl]
  refine room_ok (by omega) (by decide) ?_
  refine hK _ _ ?_
  clear hK hR K R
  have hF1 := FF_nonneg ha 1
  have hF1s := FF_sum am 1
  refine seq_go fun K R hK hR => ?_
  simp
  refine draw_ok (by omega) hu1 fun x u2 x0 x1 hu2 => hK _ _ ?_
  clear hK hR K R
  have hx1 : x ≤ FF am 1 := by omega
  refine seq_go fun K R hK hR => ?_
  simp
  rw [show (24 : Int) = ((24 : Nat) : Int) from rfl]
  refine room_ok (by omega) (by decide) ?_
  refine ⟨_, rfl, hK _ _ ?_⟩
  clear hK hR K R
  have hF24 := FF_sum am 24
  have hF24' := FF_le ha (show 1 ≤ 24 by decide)
  obtain ⟨t, ht⟩ : ∃ t : Nat, FF am 24 - x = (t : Int) := ⟨(FF am 24 - x).toNat, by omega⟩
  rw [ht]
  have ht6 : t ≤ 6 := by omega
  have ha0 : ∀ q ∈ am, (0 ≤ q.1 ∧ 0 ≤ q.2) ∧ q.2 ≤ 4 := fun q hq => ⟨by have := ha q hq; omega, h4 q hq⟩
  have hmw := fun {ys : List Int} => mem_ways (am := am) (fun q hq => (ha0 q hq).1) x0 (ys := ys)
  refine seq_go fun K R hK hR => ?_
  simp
  refine falling_all (t := t) (by omega) fun rows hrl hrows => ?_
  refine ways_ok (d := .lst (am.map prQd)) rfl (by omega) ha0 x0 ?_
  refine hK _ _ ?_
  clear hK hR K R
  have hWl : (ways am x).length ≤ 125 := by
    unfold ways
    rw [List.length_map]
    refine Nat.le_trans (List.length_filter_le _ _) ?_
    refine Nat.le_trans (wall_len (m := 4) am _ fun q hq => (ha0 q hq).2) ?_
    simp only [List.length_cons, List.length_nil]
    have := Nat.pow_le_pow_right (n := 4 + 1) (by decide) hl
    have e3 : (4 + 1) ^ 3 = 125 := by decide
    omega
  have hpay : pay am x ∈ ways am x := hmw.mpr ⟨pay_box ha x0 hx1, (pay_is ha x0 hx1).sum⟩
  have hC := (pay_is ha x0 hx1).am_
  have hCff := (pay_is ha x0 hx1).ff
  have hCs := lbh_sum (pay_box ha x0 hx1)
  have hWb : ∀ ys ∈ ways am x, Box am ys ∧ ys.sum = x := fun ys h => hmw.mp h
  have hpaysA : ∀ ys ∈ ways am x, ∀ z ∈ rows, ∀ {P : D → PuS → Prop} {u : PuS}, P (.bl (pp (lbh am ys) z)) u → Ok (mf__law_pays [.lst ((lbh am ys).map prQd), rowT z]) u P := fun ys hy z hz {P u} h => by
    obtain ⟨b1, b2⟩ := hWb ys hy
    obtain ⟨z1, z2⟩ := (hrows z).mp hz
    refine row_pays_ok rfl (box_am ha b1) (by rw [lbh_len (box_len b1)]; exact hl) (lbh_lim b1 h4) (Int.le_trans (lbh_sum b1) hs) z1 (by omega) h
  have hmono : ∀ ys ∈ ways am x, ∀ k, FF (lbh am ys) k ≤ FF (lbh am (pay am x)) k := fun ys hy k => by
    obtain ⟨b1, b2⟩ := hWb ys hy
    have := FF_up ha b1 k
    rw [hCff]
    omega
  have hany : ∀ z ∈ rows, ((ways am x).any fun ys => pp (lbh am ys) z) = pp (lbh am (pay am x)) z := fun z hz => by
    obtain ⟨z1, z2⟩ := (hrows z).mp hz
    rw [Bool.eq_iff_iff, List.any_eq_true]
    constructor
    · rintro ⟨ys, hy, h⟩
      exact (pp_can hC z1).mpr (can_mono (hmono ys hy) ((pp_can (box_am ha (hWb ys hy).1) z1).mp h))
    · intro h
      exact ⟨_, hpay, h⟩
  refine seq_go fun K R hK hR => ?_
  simp
  refine ⟨by omega, ?_⟩
  refine ok_lca (xs := ways am x) (f := rowT) (fun ys => [.sh .pur, .sh (.lst (am.map prQd)), .sh (walD (wal am)), .sh (.int (FF am 1)), .sh (.int x), .sh (.int (t : Int)), .sh (.lst (rows.map rowT)), .sh (.lst ((ways am x).map rowT)), .un, .un, .un, .un, .un, .sh (rowT ys), .un, .un]) (fun ys => .lst (rows.map fun z => .bl (pp (lbh am ys) z))) (fun ys hy => rfl) (fun ys hy => ?_) ?_
  · unfold ce__law_right_2
    simp
    refine ⟨by omega, ?_⟩
    refine ok_lca (xs := rows) (f := rowT) (fun z => [.sh .pur, .sh (.lst (am.map prQd)), .sh (walD (wal am)), .sh (.int (FF am 1)), .sh (.int x), .sh (.int (t : Int)), .sh (.lst (rows.map rowT)), .sh (.lst ((ways am x).map rowT)), .un, .un, .un, .un, .un, .sh (rowT ys), .sh (rowT z), .un]) (fun z => .bl (pp (lbh am ys) z)) (fun z hz => rfl) (fun z hz => ?_) ⟨rfl, rfl⟩
    unfold ce__law_right_1
    simp
    refine behind_ok (box_len (hWb ys hy).1) (by omega) ?_
    exact hpaysA ys hy z hz ⟨rfl, rfl⟩
  refine hK _ _ ?_
  clear hK hR K R
  generalize hT : (ways am x).map (fun ys => D.lst (rows.map fun z => D.bl (pp (lbh am ys) z))) = T
  have hTat : ∀ (i : Nat) (ys : List Int), (ways am x)[i]? = some ys → atI T (i : Int) = some (.lst (rows.map fun z => D.bl (pp (lbh am ys) z))) := fun i ys e => at_nat (by rw [← hT, List.getElem?_map, e]; rfl)
  have hTl : T.length = (ways am x).length := by rw [← hT, List.length_map]
  refine seq_go fun K R hK hR => ?_
  simp [mBorLs]
  refine ⟨by omega, by rw [rngD_len]; omega, ?_⟩
  refine ok_lcra (n := rows.length) (fun i => [.sh .pur, .sh (.lst (am.map prQd)), .sh (walD (wal am)), .sh (.int (FF am 1)), .sh (.int x), .sh (.int (t : Int)), .sh (.lst (rows.map rowT)), .sh (.lst ((ways am x).map rowT)), .sh (.lst T), .un, .sh (.int (0 + (i : Nat))), .un, .un, .un, .un, .un]) (fun i => .bl (pp (lbh am (pay am x)) (rows.getD i []))) (fun i hi => rfl) (fun i hi => ?_) ?_
  · unfold ce__law_right_3
    rw [Int.zero_add]
    have g : rows[i]? = some (rows.getD i []) := by rw [List.getD_eq_getElem?_getD, List.getElem?_eq_getElem hi]; rfl
    simp
    refine ⟨by omega, ?_⟩
    rw [← hT]
    refine ok_lca (xs := ways am x) (f := fun ys => D.lst (rows.map fun z => D.bl (pp (lbh am ys) z))) (fun ys => [.sh .pur, .sh (.lst (am.map prQd)), .sh (walD (wal am)), .sh (.int (FF am 1)), .sh (.int x), .sh (.int (t : Int)), .sh (.lst (rows.map rowT)), .sh (.lst ((ways am x).map rowT)), .sh (.lst ((ways am x).map (fun ys => D.lst (rows.map fun z => D.bl (pp (lbh am ys) z))))), .un, .sh (.int (i : Nat)), .un, .un, .un, .un, .sh (.lst (rows.map fun z => D.bl (pp (lbh am ys) z)))]) (fun ys => .bl (pp (lbh am ys) (rows.getD i []))) (fun ys hy => rfl) (fun ys hy => ?_) ?_
    · have g1 : atI (rows.map fun z => D.bl (pp (lbh am ys) z)) (i : Int) = some (.bl (pp (lbh am ys) (rows.getD i []))) := at_nat (by rw [List.getElem?_map, g]; rfl)
      generalize pp (lbh am ys) (rows.getD i []) = b at g1
      simp [g1]
    have ea : (ways am x).map (fun ys => D.bl (pp (lbh am ys) (rows.getD i []))) = ((ways am x).map fun ys => pp (lbh am ys) (rows.getD i [])).map D.bl := by rw [List.map_map]; rfl
    rw [ea]
    have e9 : anyD [.lst (((ways am x).map fun ys => pp (lbh am ys) (rows.getD i [])).map D.bl)] = some (.bl (pp (lbh am (pay am x)) (rows.getD i []))) := by
      show (blsD (((ways am x).map fun ys => pp (lbh am ys) (rows.getD i [])).map D.bl)).map (fun bs => D.bl (bs.any id)) = _
      rw [blsD_map]
      show some (D.bl (((ways am x).map fun ys => pp (lbh am ys) (rows.getD i [])).any id)) = _
      rw [List.any_map, ← hany _ (List.mem_of_getElem? g)]
      rfl
    exact ⟨_, e9, rfl, rfl⟩
  have em : (List.range rows.length).map (fun i => D.bl (pp (lbh am (pay am x)) (rows.getD i []))) = rows.map fun z => D.bl (pp (lbh am (pay am x)) z) := by
    refine List.ext_getElem (by simp) fun i h1 h2 => ?_
    simp only [List.getElem_map, List.getElem_range]
    have h3 : i < rows.length := by simpa using h1
    rw [List.getD_eq_getElem?_getD, List.getElem?_eq_getElem h3]
    rfl
  rw [em]
  refine hK _ _ ?_
  clear hK hR K R em
  -- what is asked of each payment
  have hone : ∀ ys ∈ ways am x, ∀ r, Fst am (lbh am ys) x r →
      (decide (rows.map (fun z => pp (lbh am ys) z) = rows.map fun z => pp (lbh am (pay am x)) z) = r.isNone ∧
      ∀ d, r = some d → ∃ z ∈ rows, z = evn (FF (lbh am ys) d + 1) d ∧ pp (lbh am ys) z = false ∧ pp (lbh am (pay am x)) z = true) := fun ys hy r hr => by
    obtain ⟨b1, b2⟩ := hWb ys hy
    have hA := box_am ha b1
    obtain ⟨m1, ra, rb, r1, r2, r3⟩ := beside ha x0 hx1 b1 b2 hr
    have hsome : ∀ d, r = some d → ∃ z ∈ rows, z = evn (FF (lbh am ys) d + 1) d ∧ pp (lbh am ys) z = false ∧ pp (lbh am (pay am x)) z = true := fun d e => by
      subst e
      obtain ⟨p1, p2, p3, p4⟩ := part_row hA hC r1 r2 r3
      have hle : FF (lbh am (pay am x)) d ≤ (t : Int) := by
        have := hCff d
        have := FF_last ha (d + 1)
        omega
      refine ⟨_, (hrows _).mpr ⟨p4, by rw [evn_all _ p1]; omega⟩, rfl, ?_, (pp_can hC p4).mpr (evn_canp hC p1 (by omega))⟩
      cases h9 : pp (lbh am ys) (evn (FF (lbh am ys) d + 1) d) with
      | false => rfl
      | true => exact absurd ((pp_can hA p4).mp h9) (evn_not p1)
    refine ⟨?_, hsome⟩
    rw [Bool.eq_iff_iff, decide_eq_true_iff, List.map_inj_left, Option.isNone_iff_eq_none]
    constructor
    · intro h
      cases r with
      | none => rfl
      | some d =>
        obtain ⟨z, z1, _, z3, z4⟩ := hsome d rfl
        have := h z z1
        rw [z3, z4] at this
        cases this
    · intro e z hz
      have hD := (parts_none hA hC r1 r2 r3).mp e
      obtain ⟨z1, z2⟩ := (hrows z).mp hz
      rw [Bool.eq_iff_iff, pp_can hA z1, pp_can hC z1]
      exact ⟨can_mono m1, can_mono hD⟩
  have hlost : ∀ ys ∈ ways am x, ∀ {P : D → PuS → Prop} {u : PuS}, (∀ r, Fst am (lbh am ys) x r → P (optD (r.map fun d => evn (FF (lbh am ys) d + 1) d)) u) → Ok (mf_lost_row [walD (wal am), rowT ys]) u P := fun ys hy {P u} h => by
    obtain ⟨b1, b2⟩ := hWb ys hy
    refine lost_row_ok (by rw [hws]; exact ha) (by omega) (by rw [hws]; exact b1) fun r hr => ?_
    rw [hws] at hr ⊢
    rw [b2] at hr
    exact h r hr
  have hspar : ∀ ys ∈ ways am x, ∀ r, Fst am (lbh am ys) x r → ∀ {P : D → PuS → Prop} {u : PuS}, P (.bl r.isNone) u → Ok (mf_is_sparing [walD (wal am), rowT ys]) u P := fun ys hy r hr {P u} h => by
    obtain ⟨b1, b2⟩ := hWb ys hy
    have e := sparing_is ha b1 (by rw [b2]; exact hr)
    refine is_sparing_ok (by rw [hws]; exact ha) (by omega) (by rw [hwl]; exact box_len b1) (by rw [hws]; exact Box_at b1) (box_sum b1).1 ?_
    rw [hws, e]
    exact h
  have hfex : ∀ ys ∈ ways am x, ∃ r, Fst am (lbh am ys) x r := fun ys hy => by
    obtain ⟨b1, b2⟩ := hWb ys hy
    have hA := box_am ha b1
    obtain ⟨ra, hra⟩ := row_ex hA
    obtain ⟨rb, hrb⟩ := row_ex hC
    obtain ⟨r', hr'⟩ := parts_ex ra rb
    exact ⟨r', Fst.of (am := am) (x := x) hA (hra.sum hA) (fun k => by rw [hrb.sum hC, hCff]; rfl) hrb.len hr'⟩
  have bne : ∀ b : Bool, (b != b) = false := fun b => by cases b <;> rfl
  have bb : ∀ b : Bool, neMD (.bl b) (.bl b) = some (.bl false) := fun b => by cases b <;> rfl
  have be : ∀ b : Bool, eqMD (.bl b) (.bl b) = some (.bl true) := fun b => by cases b <;> rfl
  have hBl : ∀ ys : List Int, (rows.map fun z => D.bl (pp (lbh am ys) z)) = (rows.map fun z => pp (lbh am ys) z).map D.bl := fun ys => by rw [List.map_map]; rfl
  generalize hBE : D.lst (rows.map fun z => D.bl (pp (lbh am (pay am x)) z)) = BE
  have hdue : ∀ ys, eqMD (.lst (rows.map fun z => D.bl (pp (lbh am ys) z))) BE = some (.bl (decide (rows.map (fun z => pp (lbh am ys) z) = rows.map fun z => pp (lbh am (pay am x)) z))) := fun ys => by
    rw [← hBE, hBl, hBl]
    exact eqBs _ _
  refine seq_cut (fun ρ u' => u' = u2 ∧ ∃ a b c : Sd, ρ = [.sh .pur, .sh (.lst (am.map prQd)), .sh (walD (wal am)), .sh (.int (FF am 1)), .sh (.int x), .sh (.int (t : Int)), .sh (.lst (rows.map rowT)), .sh (.lst ((ways am x).map rowT)), .sh (.lst T), .sh BE, a, b, c, .un, .un, .un]) ?_ ?_
  · simp
    refine ⟨by omega, ?_⟩
    refine ok_range 0 (ways am x).length (fun k ρ u' => u' = u2 ∧ ∃ a b c : Sd, ρ = [.sh .pur, .sh (.lst (am.map prQd)), .sh (walD (wal am)), .sh (.int (FF am 1)), .sh (.int x), .sh (.int (t : Int)), .sh (.lst (rows.map rowT)), .sh (.lst ((ways am x).map rowT)), .sh (.lst T), .sh BE, a, b, c, .un, .un, .un]) ?_ ?_ _ _ ⟨rfl, _, _, _, rfl⟩
    · rintro k ρ u' hk ⟨rfl, a, b, c, rfl⟩
      refine ⟨_, rfl, ?_⟩
      refine st_go fun R0 hR0 => ?_
      rw [Int.zero_add]
      have gy : (ways am x)[k]? = some ((ways am x)[k]) := List.getElem?_eq_getElem hk
      have hy := List.mem_of_getElem? gy
      have gT := hTat k _ gy
      have gW : atI ((ways am x).map rowT) (k : Int) = some (rowT ((ways am x)[k])) := at_nat (by rw [List.getElem?_map, gy]; rfl)
      generalize (ways am x)[k] = ys at hy gT gW
      obtain ⟨r, hr⟩ := hfex ys hy
      obtain ⟨o1, o2⟩ := hone ys hy r hr
      have hd1 := hdue ys
      rw [o1] at hd1
      unfold lb__law_right_4
      refine seq_go fun K1 R1 hK1 hR1 => ?_
      simp [gW, gT, hd1]
      refine hlost ys hy fun r' hr' => ?_
      rw [Fst.uniq hr' hr]
      refine hK1 _ _ ?_
      clear hK1 hR1 K1 R1
      refine seq_go fun K1 R1 hK1 hR1 => ?_
      simp [gW]
      refine hspar ys hy r hr ?_
      simp [bne, bb]
      refine hK1 _ _ ?_
      clear hK1 hR1 K1 R1
      cases r with
      | none =>
        simp
        exact hR0 _ _ ⟨rfl, _, _, _, rfl⟩
      | some d =>
        obtain ⟨z, z1, z2, z3, z4⟩ := o2 d rfl
        have e0 : optD ((some d).map fun d => evn (FF (lbh am ys) d + 1) d) = rowT z := by rw [z2]; rfl
        simp only [e0]
        obtain ⟨j, hj, hjz⟩ := (EqT.tup EqT.int).ixOf (by decide) z1
        have hj : ixOf (.lst (rows.map rowT)) (rowT z) = some (.int (j : Int)) := hj
        have hnin : ninLD (rowT z) (.lst (rows.map rowT)) = some (.bl false) := by
          have := (EqT.tup EqT.int).ninL (by decide) z rows
          refine this.trans ?_
          congr 2
          rw [@decide_eq_true _ (_) z1]
          rfl
        have hbe : ixD BE (.int (j : Int)) = some (.bl true) := by
          rw [← hBE]
          exact at_nat (by rw [List.getElem?_map, hjz]; show some (D.bl (pp _ z)) = _; rw [z4])
        have hta : atI (rows.map fun z => D.bl (pp (lbh am ys) z)) (j : Int) = some (.bl false) := at_nat (by rw [List.getElem?_map, hjz]; show some (D.bl (pp _ z)) = _; rw [z3])
        have isn : isntD (rowT z) .non = some (.bl true) := rfl
        simp [isn, hnin, hj, hbe, gT, hta]
        exact hR0 _ _ ⟨rfl, _, _, _, rfl⟩
    · rintro ρ u' ⟨rfl, a, b, c, rfl⟩
      exact ⟨rfl, _, _, _, rfl⟩
  rintro ρ u' ⟨rfl, a, b, c, rfl⟩
  have hW0 : 0 < (ways am x).length := List.length_pos_of_mem hpay
  have gy : (ways am x)[0]? = some ((ways am x)[0]) := List.getElem?_eq_getElem hW0
  have hy := List.mem_of_getElem? gy
  have gT := hTat 0 _ gy
  have gW : atI ((ways am x).map rowT) ((0 : Nat) : Int) = some (rowT ((ways am x)[0])) := at_nat (by rw [List.getElem?_map, gy]; rfl)
  have hne : neMD (.lst ((ways am x).map rowT)) (.lst []) = some (.bl true) := by
    have := (EqT.lst (EqT.tup EqT.int)).ne (by decide) (ways am x) []
    rw [decide_eq_false (fun e => by rw [e] at hW0; cases hW0)] at this
    exact this
  generalize (ways am x)[0] = ys at hy gT gW
  obtain ⟨r, hr⟩ := hfex ys hy
  obtain ⟨o1, o2⟩ := hone ys hy r hr
  have hd1 := hdue ys
  rw [o1] at hd1
  have gT : atI T 0 = some (.lst (rows.map fun z => D.bl (pp (lbh am ys) z))) := gT
  have gW : atI ((ways am x).map rowT) 0 = some (rowT ys) := gW
  simp [hne, gW, gT, hd1]
  refine hspar ys hy r hr ?_
  simp [be]
  exact hp _
theorem hlaw (ns : List Int) (o : HO) (hl : ns.length ≤ 63) : ∃ u', mf_law [.scr ns] (.idle o) = some (.bl true, u') :=
  law_fin (fun ns u => law_all2 (fun u hu => right_ok hu fun _ => rfl) ns u) ns o hl
end G39

set_option maxHeartbeats 0
open PySem PySem.W PySem.Calls PyProof.Rows in
theorem G39.fin (hlaw : ∀ (ns : List Int) (o : L2.HO), ns.length ≤ 63 → ∃ u', G39.mf_law [.scr ns] (.idle o) = some (.bl true, u')) : PySem.Challenge.rw_sparepay_k39_whole_sparing_by_own_play.Holds := by
  w_on; o_law
  refine HandSHeadRun.head_any (r := OpenLaw.row PySem.Challenge.rw_sparepay_k39_whole_sparing_by_own_play) (q := view (OpenLaw.row PySem.Challenge.rw_sparepay_k39_whole_sparing_by_own_play).prog [77]) (H := G39.hk) (ob := G39.ob) (M := 20000) (loose := G39.loose) (d := HandSHeadRun.topDef (OpenLaw.row PySem.Challenge.rw_sparepay_k39_whole_sparing_by_own_play).prog 77) (kwd := []) G39.ob_eq
    (by kernel_rfl) (fun s => by kernel_rfl) G39.run (by kernel_rfl) (by kernel_rfl) (by kernel_rfl) (by rfl) (by first | assumption | decide +kernel) (by decide +kernel) ⟨rfl, rfl, rfl, rfl, rfl, by decide +kernel⟩ ?hw ?hc
  case hw => w_witness2
  case hc =>
    refine L2.walk_ofE (l := PySem.Challenge.rw_sparepay_k39_whole_sparing_by_own_play) (n := 63) (k := 10) (x := "_law_script") (CX := L2.CX0) rfl (by decide) (by kernel_rfl) ⟨rfl, by decide, by decide⟩ ?F (fun _ _ _ _ z => z)
    intro w mg fa h Y G hmg0
    obtain ⟨K, KX, c⟩ := Y
    have hmg : mg ("law" : PySem.Str) = some (.ref fa) := by
      have e : (HandSHeadRun.topDef (OpenLaw.row PySem.Challenge.rw_sparepay_k39_whole_sparing_by_own_play).prog 77).name = ("law" : PySem.Str) := by kernel_rfl
      rw [← e]
      exact hmg0
    have C : Mi.HF G39.fa G39.fn K mg := ⟨c, h, KX, G⟩
    have eg := G39.glaw C
    rw [hmg] at eg
    cases eg
    have b := L2.FunD.bindsA (ps := ["_law_script"]) (G39.flaw C) fun _ _ _ _ _ _ us hl => match us, hl with | [_], _ => rfl
    refine ⟨K, _, @Mi.spM Mi.noTabl (Mi.WW G39.cs K) 1 G39.mf_law, KX, fun s v => b s [v] rfl, fun H a ns hl _ hS => Mi.law_sp (TB := Mi.noTabl) (C.fact 73 rfl) 63 hlaw H a ns hl hS (fun _ h => nomatch h), fun base _ _ => G39.ok_law (TB := Mi.noTabl) C⟩

theorem PySem.Challenge.cw_sparepay_k39_whole_sparing_by_own_play_holds : PySem.Challenge.rw_sparepay_k39_whole_sparing_by_own_play.Holds := by
  exact G39.fin G39.hlaw
