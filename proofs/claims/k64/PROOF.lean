import PyProof.Rows.All
import Wide.All
import OpenK.AllK
import Wide.FinOn
import KE.KStateDown
import KE.KNest
import KE.KExcInit
import KE.KTryMore
import HandS.Head0
import HandS.Head1
import HandS.Head2
import HandS.HeadEnd
import HandS.HeadHook1
import HandS.HeadHook2
import HandS.ForMost
import HandS.Walk
import HandS.Defaults
import HandS.Lambda
import HandS.ExcCtx
import KE.KDictKeyed
import HandS.Property
import HandS.ClsMeth
import HandS.TupAny
import HandS.Wide
import HandS.WideBits
import HandS.IsInst
import HandS.Style
import HandS.Text
import KE.KTupSum
import KE.GoesEnum
import HandS.Zip
import HandS.MakeKwOnly
import HandS.SortKw
import HandS.SortInts
import HandS.Rev
import HandS.FStr
import HandS.ListItems
import PyProof.Draws
import HandS.OwnEq
import KE.KDictZip
import KE.KOpsOwn
import KE.DatumOrd
import PyProof.ListNew
import HandS.Star
import PyProof.ReprRoads
import KE.KFmtOwn
import HandS.TryOnly
import HandS.More
import PyProof.EqKinds
import PyProof.TupleCall
import PyProof.Rows.Range3
import HandS.ExcInit
import KE.KExcIs
import HandS.ExcField
import KE.Datum
import HandS.SetFor
import HandS.HotCalls
import HandS.RaiseMore
import HandS.EndTab
import PyProof.InstStoreFacts
import PyProof.ExcBaseAll.ValueError
import PyProof.ExcBaseAll.LookupError
import PyProof.ExcBaseAll.ArithmeticError
import HandS.Dict
import KE.KSuper
import HandS.Nested
import KE.SortData
import PyProof.NeKinds
import HandS.Hot
import PyProof.StrLawsRepr
import PySem.Challenge.RW_sparepay_k64_drains_by_own_order
import Lean
namespace Mi
end Mi
namespace G64
end G64
namespace Hop
end Hop
namespace PySem.W
end PySem.W
namespace PySem
end PySem
namespace SrtR
end SrtR
namespace L2
end L2
namespace Su
end Su
namespace Sh
end Sh
namespace S4
end S4
namespace P20
end P20
namespace S2
end S2
namespace S1
end S1
namespace MiHot
end MiHot
set_option Elab.async false
set_option linter.all false
set_option maxRecDepth 100000
set_option maxHeartbeats 4000000
/-! Mp0: the checks of the written part (what the run of the top is asked). -/
namespace Mi
open PySem PySem.Spec PyProof.Rows L2 He
/-- the errors of the package, their three bases -/
def errV : List Str := ["InvalidName", "InvalidText", "InvalidAmount", "InvalidBill", "InvalidIndex", "NotACard", "NotAWallet", "NotAForm", "NotACourse", "NotFacts", "NotARule", "InvalidCards", "InvalidRow", "InvalidEvents", "InvalidPayment", "InvalidPaid", "InvalidRefused", "InvalidKeys"]
def errN : List Str := ["UnknownName", "InUse"]
def errA : List Str := ["CannotPay", "Full", "TooMany", "NoWallet", "Broken", "NothingToUndo"]
def errB : List Str := ["WrongValue", "WrongName", "NoAnswer"]
def errs : List Str := errV ++ errN ++ errA ++ errB

/-- the package's classes: which is under which -/
def subC (c k : Str) : Bool := decide (c = k) || (decide (k = "Rule") && (decide (c = "Drain") || decide (c = "Units") || decide (c = "Spare")))
def refsM (o : Obj) : List Addr := match o.cls with
  | .type "code" => []
  | _ => refsD o
def frontM (g : Addr → Option Obj) (as : List Addr) : List Addr := as.flatMap fun a => match g a with
  | some o => refsM o
  | none => []
def bitM (m a : Nat) : Bool := Nat.beq (Nat.land (Nat.shiftRight m a) 1) 1
def addM (m a : Nat) : Nat := Nat.lor m (Nat.shiftLeft 1 a)
/-- the new ones among rs, each once (m: those that were, bit by bit) -/
def frM (rs : List Addr) : Nat → List Addr → (Nat → List Addr → List Addr) → List Addr := rs.foldr (fun a ih m out k => cond (bitM m a) (ih m out k) (ih (addM m a) (a :: out) k)) (fun m out k => k m out)
def bfM (g : Addr → Option Obj) : Nat → List Addr → Nat → List Addr
  | 0, as, _ => as
  | n + 1, as, m => as ++ frM (frontM g as) m [] (fun m' out => bfM g n out.reverse m')
def asM (g : Addr → Option Obj) (n : Nat) : List Addr := bfM g n [mainGlobals, cStatics] (addM (addM 0 mainGlobals) cStatics)
def recFn (K : PySem.W.Frag) (p : Addr) (T : String) : Addr := match PySem.W.recIn K p T with
  | some (.ref g :: _) => g
  | _ => 0
inductive Pl where
  | glob (x : Str) | meth (c m : Str) | prop (c m : Str) | stat (c m : Str) | clsm (c m : Str)
def Pl.ad (K : PySem.W.Frag) : Pl → Addr
  | .glob x => ga K x
  | .meth c m => ma K (ga K c) m
  | .prop c m => recFn K (ma K (ga K c) m) "property"
  | .stat c m => recFn K (ma K (ga K c) m) "staticmethod"
  | .clsm c m => recFn K (ma K (ga K c) m) "classmethod"
def fd0 : FuncData := PySem.W.fnOf "" "" ⟨[], [], none, [], [], none, []⟩ [] ⟨.function, [], false, false, []⟩ .none .none .none .none none .none .none
def fdOf (K : PySem.W.Frag) (a : Addr) : FuncData := match K.lookup a with
  | some ⟨_, _, .func fd, _⟩ => fd
  | _ => fd0
/-- one def: its place, name, qualified name, parameters, body, scope -/
structure DefP where
  at_ : Pl
  name : Str
  qual : Str
  params : Arguments
  body : List Stmt
  scope : Scope
def fnP (K : PySem.W.Frag) (a : Addr) : FnW := match K.lookup a with
  | some ⟨_, _, .func fd, _⟩ => some (fd.name, fd.qualname, fd.params, fd.body, fd.scope, fd.globals, fd.closure, fd.builtins)
  | _ => none
def DefP.val (d : DefP) : FnW := some (d.name, d.qual, d.params, .stmts d.body, d.scope, mainGlobals, [], builtinsNs)
def DefP.ok (K : PySem.W.Frag) (d : DefP) : Bool := PySem.W.keepIn K (.ref (d.at_.ad K)) && (match K.lookup (d.at_.ad K) with
  | some ⟨_, _, .func fd, _⟩ => PySem.W.codeIn K fd.code d.qual && dflB K fd.defaults []
  | _ => false)
inductive Ft where
  | b (f : Fa) | prop (c f : Str) | stat (c m : Str) | clsm (c m : Str) | eqc (c : Str) | isi (cs : List Str) | len (c : Str) | raw (f : PySem.W.Frag → Bool)
def insB (K : PySem.W.Frag) (C : Addr) : Bool := (PySem.W.plainGet K C Str.empty && (PySem.W.hasDictIn K C && (PySem.W.plainOver K C && eqO (PySem.W.findIn K (.ref C) "__setattr__") (some (some (.builtin "object.__setattr__"))))))
  && (eqO (PySem.W.findIn K (.ref C) "__class__") (some (some (.builtin "object.__class__"))) && (eqO (PySem.W.specialIn K (.builtin "object.__class__") "__get__") (some (some (.builtin "getset_descriptor.__get__")))
  && (decide (PySem.W.takesIn K (.builtin "object.__class__") = some true) && decide (PySem.W.mroIn K C (.type "object") = some true))))
def Ft.ok (K : PySem.W.Frag) : Ft → Bool
  | .b f => f.ok K
  | .prop c f => eqO (PySem.W.findIn K (.ref (ga K c)) f) (some (some (.ref (ma K (ga K c) f)))) && (eqO (PySem.W.specialIn K (.ref (ma K (ga K c) f)) "__get__") (some (some (.builtin "property.__get__"))) && (decide (PySem.W.takesIn K (.ref (ma K (ga K c) f)) = some true) &&
    (match PySem.W.recIn K (ma K (ga K c) f) "property" with
      | some (.ref _ :: _) => true
      | _ => false)))
  | .stat c m => PySem.W.readsIn K (ga K c) (.type "type") && (eqO (PySem.W.specialIn K (.ref (ga K c)) "__getattribute__") (some (some (.builtin "type.__getattribute__"))) && ((match PySem.W.findCls K (.ref (ga K c)) (.type "type") m with
      | some (.get (.builtin "staticmethod.__get__") (.ref q) .none (.ref C)) => decide (q = ma K (ga K c) m) && decide (C = ga K c)
      | _ => false) && ((match PySem.W.recIn K (ma K (ga K c) m) "staticmethod" with
      | some (.ref _ :: _) => true
      | _ => false) && PySem.W.keepIn K (.ref (recFn K (ma K (ga K c) m) "staticmethod")))))
  | .clsm c m => PySem.W.readsIn K (ga K c) (.type "type") && (eqO (PySem.W.specialIn K (.ref (ga K c)) "__getattribute__") (some (some (.builtin "type.__getattribute__"))) && ((match PySem.W.findCls K (.ref (ga K c)) (.type "type") m with
      | some (.get (.builtin "classmethod.__get__") (.ref q) .none (.ref C)) => decide (q = ma K (ga K c) m) && decide (C = ga K c)
      | _ => false) && ((match PySem.W.recIn K (ma K (ga K c) m) "classmethod" with
      | some (.ref _ :: _) => true
      | _ => false) && PySem.W.fnIn K (recFn K (ma K (ga K c) m) "classmethod"))))
  | .eqc c => eqO (PySem.W.findIn K (.ref (ga K c)) "__eq__") (some (some (.ref (ma K (ga K c) "__eq__")))) && (PySem.W.isFn K (.ref (ma K (ga K c) "__eq__")) && (eqO (PySem.W.findIn K (.ref (ga K c)) "__ne__") (some (some (.builtin "object.__ne__"))) && decide (PySem.W.mroIn K (ga K c) (.type "object") = some true)))
  | .isi cs => (cs.all fun c => insB K (ga K c)) && ((cs.all fun c => cs.all fun k => decide (PySem.W.kitOne K (.ref (ga K c)) (.ref (ga K k)) = some (subC c k))) &&
    ((["NoneType", "bool", "int", "str", "tuple", "list", "dict"].all fun a => cs.all fun k => decide (PySem.W.kitOne K (.type a) (.ref (ga K k)) = some false)) &&
    (cs.all fun c => ["int", "bool", "str", "tuple", "list"].all fun n => decide (PySem.W.kitOne K (.ref (ga K c)) (.type n) = some false))))
  | .len c => eqO (PySem.W.findIn K (.ref (ga K c)) "__len__") (some (some (.ref (ma K (ga K c) "__len__")))) && PySem.W.isFn K (.ref (ma K (ga K c) "__len__"))
  | .raw f => f K
abbrev AlP : Type := Bool × List FnW
def obsP (fa : List Ft) (fn : List DefP) (K : PySem.W.Frag) : AlP := ((fa.all fun f => f.ok K) && fn.all fun d => d.ok K, fn.map fun d => fnP K (d.at_.ad K))
def valP (fn : List DefP) : AlP := (true, fn.map DefP.val)
def SaysP (fa : List Ft) (fn : List DefP) (K : PySem.W.Frag) : Prop := obsP fa fn K = valP fn
def obsPG (n : Nat) (fa : List Ft) (fn : List DefP) (g : Addr → Option Obj) : AlP := obsP fa fn (frG g (asM g n))
def hookP (n : Nat) (fa : List Ft) (fn : List DefP) : PySem.W.Hook where
  α := AlP
  obs := fun s => obsPG n fa fn s.heap.get?
  val := fun _ => valP fn
  says := fun _ h => ∃ K : PySem.W.Frag, K.In h ∧ SaysP fa fn K
  of := fun _ _ e => ⟨_, frG_in, e⟩
  keeps := fun _ _ _ ⟨K, hK, c⟩ k => ⟨K, PySem.W.Frag.In.keeps hK k, c⟩
theorem obsPG_eq {n : Nat} {fa : List Ft} {fn : List DefP} {g : Addr → Option Obj} {s : Shared} (h : ∀ a, g a = s.heap.get? a) : obsPG n fa fn g = (hookP n fa fn).obs s := by
  have e : g = s.heap.get? := funext h
  rw [e] <;> rfl
def noListsB (K : PySem.W.Frag) : Bool := K.all fun q => match q.2.cls with
  | .type c => !(c == "list")
  | _ => true
def ownB (c n : Str) (K : PySem.W.Frag) : Bool := eqO (PySem.W.findIn K (.ref (ga K c)) n) (some (some (.ref (ma K (ga K c) n)))) && PySem.W.isFn K (.ref (ma K (ga K c) n))
end Mi


set_option Elab.async false
set_option linter.all false
set_option maxRecDepth 100000
set_option maxHeartbeats 4000000
/-! Mp3: checks of classes below a class: constants, objects called, super().__init__(*v), tuples of texts. -/
namespace Mi
open PySem PySem.Spec PyProof.Rows L2 He
/-- the class's constant text f, through an instance and off the class -/
def conB (c f z : Str) (K : PySem.W.Frag) : Bool := (match PySem.W.findIn K (.ref (ga K c)) f with
    | some (some (.str y t)) => decide (y = z) && (match PySem.W.specialIn K (.str y t) "__get__" with
      | some none => true
      | _ => false)
    | _ => false) && (!(PySem.W.copiedNames.contains f) && (PySem.W.readsIn K (ga K c) (.type "type") && (eqO (PySem.W.specialIn K (.ref (ga K c)) "__getattribute__") (some (some (.builtin "type.__getattribute__"))) && (match PySem.W.findCls K (.ref (ga K c)) (.type "type") f with
    | some (.val (.str y _)) => decide (y = z)
    | _ => false))))
def callB (c : Str) (K : PySem.W.Frag) : Bool := eqO (PySem.W.findIn K (.ref (ga K c)) "__call__") (some (some (.ref (ma K (ga K c) "__call__")))) && (PySem.W.isFn K (.ref (ma K (ga K c) "__call__")) && PySem.W.fnIn K (ma K (ga K c) "__call__"))
def strsB : List Value → List Str → Bool
  | [], [] => true
  | .str y _ :: r, z :: zs => decide (y = z) && strsB r zs
  | _, _ => false
/-- the module's x is the tuple of these texts -/
def txtsB (x : Str) (zs : List Str) (K : PySem.W.Frag) : Bool := match PySem.W.nsIn K mainGlobals x with
  | some (some (.ref T)) => (match K.lookup T with
    | some o => (match o.cls, o.data with
      | .type t, .seq its _ => decide (t = "tuple") && (decide (its.size ≤ 1000) && strsB its.toList zs)
      | _, _ => false)
    | none => false)
  | _ => false
/-- the class's m is `super().m(*pv)`, the base b's m -/
def supB (file c b m : Str) (K : PySem.W.Frag) : Bool := match K.lookup (ma K (ga K c) m) with
  | some ⟨_, _, .func fd, _⟩ => (match fd.code, fd.closure, fd.body, fd.params with
    | .ref cd, [(n, cc)], .stmts [.Expr (.Call (.Attribute (.Call (.Name a _) [] [] _) m' _) [.Starred (.Name v _) _] [] _) _], ⟨[], [⟨x, none, _⟩], some ⟨v2, none, _⟩, [], [], none, []⟩ =>
      decide (n = ("__class__" : Str)) && (decide (a = ("super" : Str)) && (decide (m' = m) && (decide (v = ("keys" : Str)) && (decide (v2 = ("keys" : Str)) && (decide (x = ("self" : Str)) &&
      (decide (fd.globals = mainGlobals) && (decide (fd.builtins = builtinsNs) && (decide (fd.defaults = .none) && (decide (fd.kwdefaults = .none) && (PySem.W.codeIn K (.ref cd) fd.qualname &&
      (NdefX.nscB ["self", "keys", "__class__"] ["self", "keys"] ["__class__"] fd.scope && (decide (fd.scope.names.lookup ("super" : Str) = some .globalImplicit) &&
      ((match K.lookup cd with
        | some ⟨_, _, .fields vs, _⟩ => (match (vs[2]? : Option Value) with
          | some (.str fl _) => file == fl
          | _ => false)
        | _ => false) && ((match K.lookup cc with
        | some ⟨_, _, .cell (some (.ref D)), _⟩ => decide (D = ga K c)
        | _ => false) && ((PySem.W.clsIn K (ga K c)).isSome && (decide (PySem.W.mroIn K (ga K c) (.ref (ga K c)) = some true) &&
      (eqO (PySem.W.ks_superIn K (ga K c) (ga K c) m) (some (some (.ref (ma K (ga K b) m)))) && (decide (PySem.W.typeIn K (.ref (ma K (ga K b) m)) = some (.type "function")) && (PySem.W.fnIn K (ma K (ga K b) m) &&
      eqO (PySem.W.nsIn K cStatics "thirdparty.any") (some none))))))))))))))))))))
    | _, _, _, _ => false)
  | _ => false
end Mi

namespace G64
open PySem PySem.Spec PyProof.Rows L2 Mi He
def top (i : Nat) : Stmt := PySem.Challenge.pw_sparepay_k64_drains_by_own_order.main.body.getD i (.Pass ⟨0, 0, 0, 0⟩)
def sub (s : Stmt) (j : Nat) : Stmt := match s with
  | .ClassDef _ _ _ b _ _ _ _ _ _ _ => b.getD j (.Pass ⟨0, 0, 0, 0⟩)
  | _ => .Pass ⟨0, 0, 0, 0⟩

@[reducible] def supF : Str := "/claim/cut.py"
@[reducible] def cs : List Str := ["Card", "Drain", "Form", "Rule", "Spare", "Units", "Wallet"]
theorem hc_Card : ("Card" : Str) ∈ cs := by decide
theorem hc_Drain : ("Drain" : Str) ∈ cs := by decide
theorem hc_Form : ("Form" : Str) ∈ cs := by decide
theorem hc_Rule : ("Rule" : Str) ∈ cs := by decide
theorem hc_Spare : ("Spare" : Str) ∈ cs := by decide
theorem hc_Units : ("Units" : Str) ∈ cs := by decide
theorem hc_Wallet : ("Wallet" : Str) ∈ cs := by decide
abbrev st_number_of : Stmt := (top 31)
def d_number_of : DefP := ⟨.glob "number_of", "number_of", "number_of", defArgs st_number_of, defBody st_number_of, defScope st_number_of⟩
theorem sc_number_of : FnScope ["text", "sign"] ["text"] (defScope st_number_of) := ⟨rfl, rfl, rfl, by decide +kernel, rfl, by decide +kernel, by decide +kernel⟩
abbrev st_is_integer : Stmt := (top 27)
def d_is_integer : DefP := ⟨.glob "is_integer", "is_integer", "is_integer", defArgs st_is_integer, defBody st_is_integer, defScope st_is_integer⟩
theorem sc_is_integer : FnScope ["value"] ["value"] (defScope st_is_integer) := ⟨rfl, rfl, rfl, by decide +kernel, rfl, by decide +kernel, by decide +kernel⟩
abbrev st_is_natural : Stmt := (top 28)
def d_is_natural : DefP := ⟨.glob "is_natural", "is_natural", "is_natural", defArgs st_is_natural, defBody st_is_natural, defScope st_is_natural⟩
theorem sc_is_natural : FnScope ["value"] ["value"] (defScope st_is_natural) := ⟨rfl, rfl, rfl, by decide +kernel, rfl, by decide +kernel, by decide +kernel⟩
abbrev st_Card___init__ : Stmt := (sub (top 50) 0)
def d_Card___init__ : DefP := ⟨.meth "Card" "__init__", "__init__", "Card.__init__", defArgs st_Card___init__, defBody st_Card___init__, defScope st_Card___init__⟩
theorem sc_Card___init__ : FnScope ["self", "balance", "limit"] ["self", "balance", "limit"] (defScope st_Card___init__) := ⟨rfl, rfl, rfl, by decide +kernel, rfl, by decide +kernel, by decide +kernel⟩
abbrev st_card_of : Stmt := (top 51)
def d_card_of : DefP := ⟨.glob "card_of", "card_of", "card_of", defArgs st_card_of, defBody st_card_of, defScope st_card_of⟩
theorem sc_card_of : FnScope ["text", "numbers", "balance", "limit", "word"] ["text"] (defScope st_card_of) := ⟨rfl, rfl, rfl, by decide +kernel, rfl, by decide +kernel, by decide +kernel⟩
abbrev st_pair_of : Stmt := (top 54)
def d_pair_of : DefP := ⟨.glob "pair_of", "pair_of", "pair_of", defArgs st_pair_of, defBody st_pair_of, defScope st_pair_of⟩
theorem sc_pair_of : FnScope ["text", "name", "blank", "rest"] ["text"] (defScope st_pair_of) := ⟨rfl, rfl, rfl, by decide +kernel, rfl, by decide +kernel, by decide +kernel⟩
abbrev st_is_name : Stmt := (top 30)
def d_is_name : DefP := ⟨.glob "is_name", "is_name", "is_name", defArgs st_is_name, defBody st_is_name, defScope st_is_name⟩
theorem sc_is_name : FnScope ["value", "sign"] ["value"] (defScope st_is_name) := ⟨rfl, rfl, rfl, by decide +kernel, rfl, by decide +kernel, by decide +kernel⟩
abbrev st_wrong_pair : Stmt := (top 52)
def d_wrong_pair : DefP := ⟨.glob "wrong_pair", "wrong_pair", "wrong_pair", defArgs st_wrong_pair, defBody st_wrong_pair, defScope st_wrong_pair⟩
theorem sc_wrong_pair : FnScope ["pairs", "names", "index", "pair", "name", "card"] ["pairs"] (defScope st_wrong_pair) := ⟨rfl, rfl, rfl, by decide +kernel, rfl, by decide +kernel, by decide +kernel⟩
abbrev st_Wallet___init__ : Stmt := (sub (top 53) 0)
def d_Wallet___init__ : DefP := ⟨.meth "Wallet" "__init__", "__init__", "Wallet.__init__", defArgs st_Wallet___init__, defBody st_Wallet___init__, defScope st_Wallet___init__⟩
theorem sc_Wallet___init__ : FnScope ["self", "cards", "wrong"] ["self", "cards"] (defScope st_Wallet___init__) := ⟨rfl, rfl, rfl, by decide +kernel, rfl, by decide +kernel, by decide +kernel⟩
abbrev st_wallet_of : Stmt := (top 55)
def d_wallet_of : DefP := ⟨.glob "wallet_of", "wallet_of", "wallet_of", defArgs st_wallet_of, defBody st_wallet_of, defScope st_wallet_of⟩
theorem sc_wallet_of : FnScope ["text", "pairs", "piece"] ["text"] (defScope st_wallet_of) := ⟨rfl, rfl, rfl, by decide +kernel, rfl, by decide +kernel, by decide +kernel⟩
abbrev st_Wallet_read : Stmt := (sub (top 53) 1)
def d_Wallet_read : DefP := ⟨.clsm "Wallet" "read", "read", "Wallet.read", defArgs st_Wallet_read, defBody st_Wallet_read, defScope st_Wallet_read⟩
theorem sc_Wallet_read : FnScope ["cls", "text", "found"] ["cls", "text"] (defScope st_Wallet_read) := ⟨rfl, rfl, rfl, by decide +kernel, rfl, by decide +kernel, by decide +kernel⟩
abbrev st_check_wallet : Stmt := (top 56)
def d_check_wallet : DefP := ⟨.glob "check_wallet", "check_wallet", "check_wallet", defArgs st_check_wallet, defBody st_check_wallet, defScope st_check_wallet⟩
theorem sc_check_wallet : FnScope ["value"] ["value"] (defScope st_check_wallet) := ⟨rfl, rfl, rfl, by decide +kernel, rfl, by decide +kernel, by decide +kernel⟩
abbrev st_check_bill : Stmt := (top 33)
def d_check_bill : DefP := ⟨.glob "check_bill", "check_bill", "check_bill", defArgs st_check_bill, defBody st_check_bill, defScope st_check_bill⟩
theorem sc_check_bill : FnScope ["value"] ["value"] (defScope st_check_bill) := ⟨rfl, rfl, rfl, by decide +kernel, rfl, by decide +kernel, by decide +kernel⟩
abbrev st_Form_sum_of : Stmt := (sub (top 44) 7)
def d_Form_sum_of : DefP := ⟨.meth "Form" "sum_of", "sum_of", "Form.sum_of", defArgs st_Form_sum_of, defBody st_Form_sum_of, defScope st_Form_sum_of⟩
theorem sc_Form_sum_of : FnScope ["self", "days"] ["self", "days"] (defScope st_Form_sum_of) := ⟨rfl, rfl, rfl, by decide +kernel, rfl, by decide +kernel, by decide +kernel⟩
abbrev st_wrong_number : Stmt := (top 43)
def d_wrong_number : DefP := ⟨.glob "wrong_number", "wrong_number", "wrong_number", defArgs st_wrong_number, defBody st_wrong_number, defScope st_wrong_number⟩
theorem sc_wrong_number : FnScope ["row", "index", "number"] ["row"] (defScope st_wrong_number) := ⟨rfl, rfl, rfl, by decide +kernel, rfl, by decide +kernel, by decide +kernel⟩
abbrev st_Form___init__ : Stmt := (sub (top 44) 0)
def d_Form___init__ : DefP := ⟨.meth "Form" "__init__", "__init__", "Form.__init__", defArgs st_Form___init__, defBody st_Form___init__, defScope st_Form___init__⟩
theorem sc_Form___init__ : FnScope ["self", "row", "wrong"] ["self", "row"] (defScope st_Form___init__) := ⟨rfl, rfl, rfl, by decide +kernel, rfl, by decide +kernel, by decide +kernel⟩
abbrev st_worth : Stmt := (top 47)
def d_worth : DefP := ⟨.glob "worth", "worth", "worth", defArgs st_worth, defBody st_worth, defScope st_worth⟩
theorem sc_worth : FnScope ["balance", "limit", "days"] ["balance", "limit", "days"] (defScope st_worth) := ⟨rfl, rfl, rfl, by decide +kernel, rfl, by decide +kernel, by decide +kernel⟩
abbrev st_part : Stmt := (top 48)
def d_part : DefP := ⟨.glob "part", "part", "part", defArgs st_part, defBody st_part, defScope st_part⟩
theorem sc_part : FnScope ["balance", "limit", "level"] ["balance", "limit", "level"] (defScope st_part) := ⟨rfl, rfl, rfl, by decide +kernel, rfl, by decide +kernel, by decide +kernel⟩
abbrev st_row_of : Stmt := (top 49)
def d_row_of : DefP := ⟨.glob "row_of", "row_of", "row_of", defArgs st_row_of, defBody st_row_of, defScope st_row_of⟩
theorem sc_row_of : FnScope ["amounts", "found", "days", "balance", "limit"] ["amounts"] (defScope st_row_of) := ⟨rfl, rfl, rfl, by decide +kernel, rfl, by decide +kernel, by decide +kernel⟩
abbrev st_Wallet_form : Stmt := (sub (top 53) 4)
def d_Wallet_form : DefP := ⟨.prop "Wallet" "form", "form", "Wallet.form", defArgs st_Wallet_form, defBody st_Wallet_form, defScope st_Wallet_form⟩
theorem sc_Wallet_form : FnScope ["self", "name", "card"] ["self"] (defScope st_Wallet_form) := ⟨rfl, rfl, rfl, by decide +kernel, rfl, by decide +kernel, by decide +kernel⟩
abbrev st_check_payable : Stmt := (top 64)
def d_check_payable : DefP := ⟨.glob "check_payable", "check_payable", "check_payable", defArgs st_check_payable, defBody st_check_payable, defScope st_check_payable⟩
theorem sc_check_payable : FnScope ["wallet", "bill"] ["wallet", "bill"] (defScope st_check_payable) := ⟨rfl, rfl, rfl, by decide +kernel, rfl, by decide +kernel, by decide +kernel⟩
abbrev st_lead_by : Stmt := (top 69)
def d_lead_by : DefP := ⟨.glob "lead_by", "lead_by", "lead_by", defArgs st_lead_by, defBody st_lead_by, defScope st_lead_by⟩
theorem sc_lead_by : FnScope ["key", "one", "two", "found"] ["key", "one", "two"] (defScope st_lead_by) := ⟨rfl, rfl, rfl, by decide +kernel, rfl, by decide +kernel, by decide +kernel⟩
abbrev st_is_ahead : Stmt := (top 70)
def d_is_ahead : DefP := ⟨.glob "is_ahead", "is_ahead", "is_ahead", defArgs st_is_ahead, defBody st_is_ahead, defScope st_is_ahead⟩
theorem sc_is_ahead : FnScope ["keys", "one", "two", "key", "found"] ["keys", "one", "two"] (defScope st_is_ahead) := ⟨rfl, rfl, rfl, by decide +kernel, rfl, by decide +kernel, by decide +kernel⟩
abbrev st_one_by_one : Stmt := (top 73)
def d_one_by_one : DefP := ⟨.glob "one_by_one", "one_by_one", "one_by_one", defArgs st_one_by_one, defBody st_one_by_one, defScope st_one_by_one⟩
theorem sc_one_by_one : FnScope ["keys", "amounts", "bill", "found", "unit", "first", "place", "balance", "limit", "triple", "is_free"] ["keys", "amounts", "bill"] (defScope st_one_by_one) := ⟨rfl, rfl, rfl, by decide +kernel, rfl, by decide +kernel, by decide +kernel⟩
abbrev st_parts : Stmt := (top 62)
def d_parts : DefP := ⟨.glob "parts", "parts", "parts", defArgs st_parts, defBody st_parts, defScope st_parts⟩
theorem sc_parts : FnScope ["amounts", "level", "balance", "limit"] ["amounts", "level"] (defScope st_parts) := ⟨rfl, rfl, rfl, by decide +kernel, rfl, by decide +kernel, by decide +kernel⟩
abbrev st_bounds : Stmt := (top 63)
def d_bounds : DefP := ⟨.glob "bounds", "bounds", "bounds", defArgs st_bounds, defBody st_bounds, defScope st_bounds⟩
theorem sc_bounds : FnScope ["amounts", "bill", "level"] ["amounts", "bill"] (defScope st_bounds) := ⟨rfl, rfl, rfl, by decide +kernel, rfl, by decide +kernel, by decide +kernel⟩
abbrev st_placed_by : Stmt := (top 71)
def d_placed_by : DefP := ⟨.glob "placed_by", "placed_by", "placed_by", defArgs st_placed_by, defBody st_placed_by, defScope st_placed_by⟩
theorem sc_placed_by : FnScope ["keys", "amounts", "found", "place", "balance", "limit", "triple", "at"] ["keys", "amounts"] (defScope st_placed_by) := ⟨rfl, rfl, rfl, by decide +kernel, rfl, by decide +kernel, by decide +kernel⟩
abbrev st_filled_by : Stmt := (top 72)
def d_filled_by : DefP := ⟨.glob "filled_by", "filled_by", "filled_by", defArgs st_filled_by, defBody st_filled_by, defScope st_filled_by⟩
theorem sc_filled_by : FnScope ["keys", "amounts", "low", "high", "bill", "found", "rest", "place", "balance", "limit", "more"] ["keys", "amounts", "low", "high", "bill"] (defScope st_filled_by) := ⟨rfl, rfl, rfl, by decide +kernel, rfl, by decide +kernel, by decide +kernel⟩
abbrev st_payment_by : Stmt := (top 74)
def d_payment_by : DefP := ⟨.glob "payment_by", "payment_by", "payment_by", defArgs st_payment_by, defBody st_payment_by, defScope st_payment_by⟩
theorem sc_payment_by : FnScope ["kind", "keys", "amounts", "bill", "low", "high"] ["kind", "keys", "amounts", "bill"] (defScope st_payment_by) := ⟨rfl, rfl, rfl, by decide +kernel, rfl, by decide +kernel, by decide +kernel⟩
abbrev st_Drain_share : Stmt := (sub (top 75) 5)
def d_Drain_share : DefP := ⟨.meth "Drain" "share", "share", "Rule.share", defArgs st_Drain_share, defBody st_Drain_share, defScope st_Drain_share⟩
theorem sc_Drain_share : FnScope ["self", "amounts", "bill"] ["self", "amounts", "bill"] (defScope st_Drain_share) := ⟨rfl, rfl, rfl, by decide +kernel, rfl, by decide +kernel, by decide +kernel⟩
abbrev st_Wallet_cards : Stmt := (sub (top 53) 3)
def d_Wallet_cards : DefP := ⟨.prop "Wallet" "cards", "cards", "Wallet.cards", defArgs st_Wallet_cards, defBody st_Wallet_cards, defScope st_Wallet_cards⟩
theorem sc_Wallet_cards : FnScope ["self", "name", "card"] ["self"] (defScope st_Wallet_cards) := ⟨rfl, rfl, rfl, by decide +kernel, rfl, by decide +kernel, by decide +kernel⟩
abbrev st_Card_limit : Stmt := (sub (top 50) 3)
def d_Card_limit : DefP := ⟨.prop "Card" "limit", "limit", "Card.limit", defArgs st_Card_limit, defBody st_Card_limit, defScope st_Card_limit⟩
theorem sc_Card_limit : FnScope ["self"] ["self"] (defScope st_Card_limit) := ⟨rfl, rfl, rfl, by decide +kernel, rfl, by decide +kernel, by decide +kernel⟩
abbrev st_Card_balance : Stmt := (sub (top 50) 2)
def d_Card_balance : DefP := ⟨.prop "Card" "balance", "balance", "Card.balance", defArgs st_Card_balance, defBody st_Card_balance, defScope st_Card_balance⟩
theorem sc_Card_balance : FnScope ["self"] ["self"] (defScope st_Card_balance) := ⟨rfl, rfl, rfl, by decide +kernel, rfl, by decide +kernel, by decide +kernel⟩
abbrev st_amounts_of : Stmt := (top 61)
def d_amounts_of : DefP := ⟨.glob "amounts_of", "amounts_of", "amounts_of", defArgs st_amounts_of, defBody st_amounts_of, defScope st_amounts_of⟩
theorem sc_amounts_of : FnScope ["wallet", "card"] ["wallet"] (defScope st_amounts_of) := ⟨rfl, rfl, rfl, by decide +kernel, rfl, by decide +kernel, by decide +kernel⟩
abbrev st_Drain___call__ : Stmt := (sub (top 75) 4)
def d_Drain___call__ : DefP := ⟨.meth "Drain" "__call__", "__call__", "Rule.__call__", defArgs st_Drain___call__, defBody st_Drain___call__, defScope st_Drain___call__⟩
theorem sc_Drain___call__ : FnScope ["self", "wallet", "bill"] ["self", "wallet", "bill"] (defScope st_Drain___call__) := ⟨rfl, rfl, rfl, by decide +kernel, rfl, by decide +kernel, by decide +kernel⟩
abbrev st_wrong_key : Stmt := (top 68)
def d_wrong_key : DefP := ⟨.glob "wrong_key", "wrong_key", "wrong_key", defArgs st_wrong_key, defBody st_wrong_key, defScope st_wrong_key⟩
theorem sc_wrong_key : FnScope ["keys", "index", "key"] ["keys"] (defScope st_wrong_key) := ⟨rfl, rfl, rfl, by decide +kernel, rfl, by decide +kernel, by decide +kernel⟩
abbrev st_Drain___base__ : Stmt := (sub (top 75) 1)
def d_Drain___base__ : DefP := ⟨.meth "Rule" "__init__", "__init__", "Rule.__init__", defArgs st_Drain___base__, defBody st_Drain___base__, defScope st_Drain___base__⟩
theorem sc_Drain___base__ : FnScope ["self", "keys", "wrong"] ["self", "keys"] (defScope st_Drain___base__) := ⟨rfl, rfl, rfl, by decide +kernel, rfl, by decide +kernel, by decide +kernel⟩
abbrev st_Units_share : Stmt := (sub (top 75) 5)
def d_Units_share : DefP := ⟨.meth "Units" "share", "share", "Rule.share", defArgs st_Units_share, defBody st_Units_share, defScope st_Units_share⟩
theorem sc_Units_share : FnScope ["self", "amounts", "bill"] ["self", "amounts", "bill"] (defScope st_Units_share) := ⟨rfl, rfl, rfl, by decide +kernel, rfl, by decide +kernel, by decide +kernel⟩
abbrev st_Units___call__ : Stmt := (sub (top 75) 4)
def d_Units___call__ : DefP := ⟨.meth "Units" "__call__", "__call__", "Rule.__call__", defArgs st_Units___call__, defBody st_Units___call__, defScope st_Units___call__⟩
theorem sc_Units___call__ : FnScope ["self", "wallet", "bill"] ["self", "wallet", "bill"] (defScope st_Units___call__) := ⟨rfl, rfl, rfl, by decide +kernel, rfl, by decide +kernel, by decide +kernel⟩
abbrev st_Spare_share : Stmt := (sub (top 75) 5)
def d_Spare_share : DefP := ⟨.meth "Spare" "share", "share", "Rule.share", defArgs st_Spare_share, defBody st_Spare_share, defScope st_Spare_share⟩
theorem sc_Spare_share : FnScope ["self", "amounts", "bill"] ["self", "amounts", "bill"] (defScope st_Spare_share) := ⟨rfl, rfl, rfl, by decide +kernel, rfl, by decide +kernel, by decide +kernel⟩
abbrev st_Spare___call__ : Stmt := (sub (top 75) 4)
def d_Spare___call__ : DefP := ⟨.meth "Spare" "__call__", "__call__", "Rule.__call__", defArgs st_Spare___call__, defBody st_Spare___call__, defScope st_Spare___call__⟩
theorem sc_Spare___call__ : FnScope ["self", "wallet", "bill"] ["self", "wallet", "bill"] (defScope st_Spare___call__) := ⟨rfl, rfl, rfl, by decide +kernel, rfl, by decide +kernel, by decide +kernel⟩
abbrev st__law_by_hand : Stmt := (top 112)
def d__law_by_hand : DefP := ⟨.glob "_law_by_hand", "_law_by_hand", "_law_by_hand", defArgs st__law_by_hand, defBody st__law_by_hand, defScope st__law_by_hand⟩
theorem sc__law_by_hand : FnScope ["_law_shutet", "_law_some", "_law_word", "_law_due", "_law_rule"] [] (defScope st__law_by_hand) := ⟨rfl, rfl, rfl, by decide +kernel, rfl, by decide +kernel, by decide +kernel⟩
abbrev st__law_draw : Stmt := (top 83)
def d__law_draw : DefP := ⟨.glob "_law_draw", "_law_draw", "_law_draw", defArgs st__law_draw, defBody st__law_draw, defScope st__law_draw⟩
theorem sc__law_draw : FnScope ["_law_pool", "_law_many", "_law_digit"] ["_law_pool", "_law_many"] (defScope st__law_draw) := ⟨rfl, rfl, rfl, by decide +kernel, rfl, by decide +kernel, by decide +kernel⟩
abbrev st__law_some_alike : Stmt := (top 108)
def d__law_some_alike : DefP := ⟨.glob "_law_some_alike", "_law_some_alike", "_law_some_alike", defArgs st__law_some_alike, defBody st__law_some_alike, defScope st__law_some_alike⟩
theorem sc__law_some_alike : FnScope ["_law_pool", "_law_amounts", "_law_near", "_law_far", "_law_way", "_law_mixed"] ["_law_pool", "_law_amounts"] (defScope st__law_some_alike) := ⟨rfl, rfl, rfl, by decide +kernel, rfl, by decide +kernel, by decide +kernel⟩
abbrev st__law_drawn_small : Stmt := (top 88)
def d__law_drawn_small : DefP := ⟨.glob "_law_drawn_small", "_law_drawn_small", "_law_drawn_small", defArgs st__law_drawn_small, defBody st__law_drawn_small, defScope st__law_drawn_small⟩
theorem sc__law_drawn_small : FnScope ["_law_pool", "_law_many", "_law_most", "_law_found", "_law_rest", "_law_k", "_law_balance"] ["_law_pool", "_law_many", "_law_most"] (defScope st__law_drawn_small) := ⟨rfl, rfl, rfl, by decide +kernel, rfl, by decide +kernel, by decide +kernel⟩
abbrev st__law_drawn_large : Stmt := (top 85)
def d__law_drawn_large : DefP := ⟨.glob "_law_drawn_large", "_law_drawn_large", "_law_drawn_large", defArgs st__law_drawn_large, defBody st__law_drawn_large, defScope st__law_drawn_large⟩
theorem sc__law_drawn_large : FnScope ["_law_pool", "_law_found", "_law_turn"] ["_law_pool"] (defScope st__law_drawn_large) := ⟨rfl, rfl, rfl, by decide +kernel, rfl, by decide +kernel, by decide +kernel⟩
abbrev st__law_drawn_great : Stmt := (top 89)
def d__law_drawn_great : DefP := ⟨.glob "_law_drawn_great", "_law_drawn_great", "_law_drawn_great", defArgs st__law_drawn_great, defBody st__law_drawn_great, defScope st__law_drawn_great⟩
theorem sc__law_drawn_great : FnScope ["_law_pool", "_law_many", "_law_found", "_law_k", "_law_limit", "_law_more"] ["_law_pool", "_law_many"] (defScope st__law_drawn_great) := ⟨rfl, rfl, rfl, by decide +kernel, rfl, by decide +kernel, by decide +kernel⟩
abbrev st__law_pick : Stmt := (top 84)
def d__law_pick : DefP := ⟨.glob "_law_pick", "_law_pick", "_law_pick", defArgs st__law_pick, defBody st__law_pick, defScope st__law_pick⟩
theorem sc__law_pick : FnScope ["_law_pool", "_law_menu"] ["_law_pool", "_law_menu"] (defScope st__law_pick) := ⟨rfl, rfl, rfl, by decide +kernel, rfl, by decide +kernel, by decide +kernel⟩
abbrev st__law_drawn_amounts : Stmt := (top 107)
def d__law_drawn_amounts : DefP := ⟨.glob "_law_drawn_amounts", "_law_drawn_amounts", "_law_drawn_amounts", defArgs st__law_drawn_amounts, defBody st__law_drawn_amounts, defScope st__law_drawn_amounts⟩
theorem sc__law_drawn_amounts : FnScope ["_law_pool"] ["_law_pool"] (defScope st__law_drawn_amounts) := ⟨rfl, rfl, rfl, by decide +kernel, rfl, by decide +kernel, by decide +kernel⟩
abbrev st__law_drawn_name : Stmt := (top 86)
def d__law_drawn_name : DefP := ⟨.glob "_law_drawn_name", "_law_drawn_name", "_law_drawn_name", defArgs st__law_drawn_name, defBody st__law_drawn_name, defScope st__law_drawn_name⟩
theorem sc__law_drawn_name : FnScope ["_law_pool", "_law_signs", "_law_found", "_law_turn"] ["_law_pool"] (defScope st__law_drawn_name) := ⟨rfl, rfl, rfl, by decide +kernel, rfl, by decide +kernel, by decide +kernel⟩
abbrev st__law_drawn_names : Stmt := (top 87)
def d__law_drawn_names : DefP := ⟨.glob "_law_drawn_names", "_law_drawn_names", "_law_drawn_names", defArgs st__law_drawn_names, defBody st__law_drawn_names, defScope st__law_drawn_names⟩
theorem sc__law_drawn_names : FnScope ["_law_pool", "_law_many", "_law_found", "_law_k", "_law_name", "_law_spare", "_law_sign"] ["_law_pool", "_law_many"] (defScope st__law_drawn_names) := ⟨rfl, rfl, rfl, by decide +kernel, rfl, by decide +kernel, by decide +kernel⟩
abbrev st__law_drawn_keys : Stmt := (top 102)
def d__law_drawn_keys : DefP := ⟨.glob "_law_drawn_keys", "_law_drawn_keys", "_law_drawn_keys", defArgs st__law_drawn_keys, defBody st__law_drawn_keys, defScope st__law_drawn_keys⟩
theorem sc__law_drawn_keys : FnScope ["_law_pool", "_law_many", "_law_words", "_law_found", "_law_k"] ["_law_pool", "_law_many"] (defScope st__law_drawn_keys) := ⟨rfl, rfl, rfl, by decide +kernel, rfl, by decide +kernel, by decide +kernel⟩
abbrev st__law_made_shutet : Stmt := (top 90)
def d__law_made_shutet : DefP := ⟨.glob "_law_made_shutet", "_law_made_shutet", "_law_made_shutet", defArgs st__law_made_shutet, defBody st__law_made_shutet, defScope st__law_made_shutet⟩
theorem sc__law_made_shutet : FnScope ["_law_names", "_law_amounts", "_law_k"] ["_law_names", "_law_amounts"] (defScope st__law_made_shutet) := ⟨rfl, rfl, rfl, by decide +kernel, rfl, by decide +kernel, by decide +kernel⟩
abbrev st__law_worth_of : Stmt := (top 92)
def d__law_worth_of : DefP := ⟨.glob "_law_worth_of", "_law_worth_of", "_law_worth_of", defArgs st__law_worth_of, defBody st__law_worth_of, defScope st__law_worth_of⟩
theorem sc__law_worth_of : FnScope ["_law_pair", "_law_days"] ["_law_pair", "_law_days"] (defScope st__law_worth_of) := ⟨rfl, rfl, rfl, by decide +kernel, rfl, by decide +kernel, by decide +kernel⟩
abbrev st__law_room_of : Stmt := (top 94)
def d__law_room_of : DefP := ⟨.glob "_law_room_of", "_law_room_of", "_law_room_of", defArgs st__law_room_of, defBody st__law_room_of, defScope st__law_room_of⟩
theorem sc__law_room_of : FnScope ["_law_amounts", "_law_days", "_law_pair"] ["_law_amounts", "_law_days"] (defScope st__law_room_of) := ⟨rfl, rfl, rfl, by decide +kernel, rfl, by decide +kernel, by decide +kernel⟩
abbrev st__law_drawn_bill : Stmt := (top 106)
def d__law_drawn_bill : DefP := ⟨.glob "_law_drawn_bill", "_law_drawn_bill", "_law_drawn_bill", defArgs st__law_drawn_bill, defBody st__law_drawn_bill, defScope st__law_drawn_bill⟩
theorem sc__law_drawn_bill : FnScope ["_law_pool", "_law_amounts", "_law_most", "_law_room", "_law_way"] ["_law_pool", "_law_amounts", "_law_most"] (defScope st__law_drawn_bill) := ⟨rfl, rfl, rfl, by decide +kernel, rfl, by decide +kernel, by decide +kernel⟩
abbrev st__law_pairs_left : Stmt := (top 95)
def d__law_pairs_left : DefP := ⟨.glob "_law_pairs_left", "_law_pairs_left", "_law_pairs_left", defArgs st__law_pairs_left, defBody st__law_pairs_left, defScope st__law_pairs_left⟩
theorem sc__law_pairs_left : FnScope ["_law_amounts", "_law_payment", "_law_k"] ["_law_amounts", "_law_payment"] (defScope st__law_pairs_left) := ⟨rfl, rfl, rfl, by decide +kernel, rfl, by decide +kernel, by decide +kernel⟩
abbrev st__law_rank_of : Stmt := (top 96)
def d__law_rank_of : DefP := ⟨.glob "_law_rank_of", "_law_rank_of", "_law_rank_of", defArgs st__law_rank_of, defBody st__law_rank_of, defScope st__law_rank_of⟩
theorem sc__law_rank_of : FnScope ["_law_word", "_law_pair", "_law_place", "_law_whole", "_law_days"] ["_law_word", "_law_pair", "_law_place", "_law_whole"] (defScope st__law_rank_of) := ⟨rfl, rfl, rfl, by decide +kernel, rfl, by decide +kernel, by decide +kernel⟩
abbrev st__law_places_of : Stmt := (top 97)
def d__law_places_of : DefP := ⟨.glob "_law_places_of", "_law_places_of", "_law_places_of", defArgs st__law_places_of, defBody st__law_places_of, defScope st__law_places_of⟩
theorem sc__law_places_of : FnScope ["_law_words", "_law_amounts", "_law_whole", "_law_balance", "_law_limit", "_law_ranks", "_law_place", "_law_word", "_law_rank"] ["_law_words", "_law_amounts"] (defScope st__law_places_of) := ⟨rfl, rfl, rfl, by decide +kernel, rfl, by decide +kernel, by decide +kernel⟩
abbrev st__law_units_of : Stmt := (top 99)
def d__law_units_of : DefP := ⟨.glob "_law_units_of", "_law_units_of", "_law_units_of", defArgs st__law_units_of, defBody st__law_units_of, defScope st__law_units_of⟩
theorem sc__law_units_of : FnScope ["_law_words", "_law_amounts", "_law_bill", "_law_told", "_law_unit", "_law_left", "_law_free", "_law_pair", "_law_k"] ["_law_words", "_law_amounts", "_law_bill"] (defScope st__law_units_of) := ⟨rfl, rfl, rfl, by decide +kernel, rfl, by decide +kernel, by decide +kernel⟩
abbrev st__law_part_of : Stmt := (top 93)
def d__law_part_of : DefP := ⟨.glob "_law_part_of", "_law_part_of", "_law_part_of", defArgs st__law_part_of, defBody st__law_part_of, defScope st__law_part_of⟩
theorem sc__law_part_of : FnScope ["_law_pair", "_law_level"] ["_law_pair", "_law_level"] (defScope st__law_part_of) := ⟨rfl, rfl, rfl, by decide +kernel, rfl, by decide +kernel, by decide +kernel⟩
abbrev st__law_bounds_of : Stmt := (top 100)
def d__law_bounds_of : DefP := ⟨.glob "_law_bounds_of", "_law_bounds_of", "_law_bounds_of", defArgs st__law_bounds_of, defBody st__law_bounds_of, defScope st__law_bounds_of⟩
theorem sc__law_bounds_of : FnScope ["_law_amounts", "_law_bill", "_law_level", "_law_pair", "_law_k"] ["_law_amounts", "_law_bill"] (defScope st__law_bounds_of) := ⟨rfl, rfl, rfl, by decide +kernel, rfl, by decide +kernel, by decide +kernel⟩
abbrev st__law_filled_by : Stmt := (top 98)
def d__law_filled_by : DefP := ⟨.glob "_law_filled_by", "_law_filled_by", "_law_filled_by", defArgs st__law_filled_by, defBody st__law_filled_by, defScope st__law_filled_by⟩
theorem sc__law_filled_by : FnScope ["_law_words", "_law_amounts", "_law_low", "_law_high", "_law_bill", "_law_told", "_law_rest", "_law_place", "_law_more"] ["_law_words", "_law_amounts", "_law_low", "_law_high", "_law_bill"] (defScope st__law_filled_by) := ⟨rfl, rfl, rfl, by decide +kernel, rfl, by decide +kernel, by decide +kernel⟩
abbrev st__law_due_of : Stmt := (top 101)
def d__law_due_of : DefP := ⟨.glob "_law_due_of", "_law_due_of", "_law_due_of", defArgs st__law_due_of, defBody st__law_due_of, defScope st__law_due_of⟩
theorem sc__law_due_of : FnScope ["_law_kind", "_law_words", "_law_amounts", "_law_bill", "_law_low", "_law_high", "_law_pair"] ["_law_kind", "_law_words", "_law_amounts", "_law_bill"] (defScope st__law_due_of) := ⟨rfl, rfl, rfl, by decide +kernel, rfl, by decide +kernel, by decide +kernel⟩
abbrev st_Units___base__ : Stmt := (sub (top 75) 1)
def d_Units___base__ : DefP := ⟨.meth "Rule" "__init__", "__init__", "Rule.__init__", defArgs st_Units___base__, defBody st_Units___base__, defScope st_Units___base__⟩
theorem sc_Units___base__ : FnScope ["self", "keys", "wrong"] ["self", "keys"] (defScope st_Units___base__) := ⟨rfl, rfl, rfl, by decide +kernel, rfl, by decide +kernel, by decide +kernel⟩
abbrev st_Spare___base__ : Stmt := (sub (top 75) 1)
def d_Spare___base__ : DefP := ⟨.meth "Rule" "__init__", "__init__", "Rule.__init__", defArgs st_Spare___base__, defBody st_Spare___base__, defScope st_Spare___base__⟩
theorem sc_Spare___base__ : FnScope ["self", "keys", "wrong"] ["self", "keys"] (defScope st_Spare___base__) := ⟨rfl, rfl, rfl, by decide +kernel, rfl, by decide +kernel, by decide +kernel⟩
abbrev st_rule_of : Stmt := (top 79)
def d_rule_of : DefP := ⟨.glob "rule_of", "rule_of", "rule_of", defArgs st_rule_of, defBody st_rule_of, defScope st_rule_of⟩
theorem sc_rule_of : FnScope ["text", "words", "keys"] ["text"] (defScope st_rule_of) := ⟨rfl, rfl, rfl, by decide +kernel, rfl, by decide +kernel, by decide +kernel⟩
abbrev st_Rule_read : Stmt := (sub (top 75) 2)
def d_Rule_read : DefP := ⟨.stat "Rule" "read", "read", "Rule.read", defArgs st_Rule_read, defBody st_Rule_read, defScope st_Rule_read⟩
theorem sc_Rule_read : FnScope ["text", "found"] ["text"] (defScope st_Rule_read) := ⟨rfl, rfl, rfl, by decide +kernel, rfl, by decide +kernel, by decide +kernel⟩
abbrev st__law_made_rule : Stmt := (top 103)
def d__law_made_rule : DefP := ⟨.glob "_law_made_rule", "_law_made_rule", "_law_made_rule", defArgs st__law_made_rule, defBody st__law_made_rule, defScope st__law_made_rule⟩
theorem sc__law_made_rule : FnScope ["_law_kind", "_law_words"] ["_law_kind", "_law_words"] (defScope st__law_made_rule) := ⟨rfl, rfl, rfl, by decide +kernel, rfl, by decide +kernel, by decide +kernel⟩
abbrev st__law_is_whole : Stmt := (top 104)
def d__law_is_whole : DefP := ⟨.glob "_law_is_whole", "_law_is_whole", "_law_is_whole", defArgs st__law_is_whole, defBody st__law_is_whole, defScope st__law_is_whole⟩
theorem sc__law_is_whole : FnScope ["_law_thing"] ["_law_thing"] (defScope st__law_is_whole) := ⟨rfl, rfl, rfl, by decide +kernel, rfl, by decide +kernel, by decide +kernel⟩
abbrev st__law_is_row_of : Stmt := (top 105)
def d__law_is_row_of : DefP := ⟨.glob "_law_is_row_of", "_law_is_row_of", "_law_is_row_of", defArgs st__law_is_row_of, defBody st__law_is_row_of, defScope st__law_is_row_of⟩
theorem sc__law_is_row_of : FnScope ["_law_thing", "_law_part_here"] ["_law_thing"] (defScope st__law_is_row_of) := ⟨rfl, rfl, rfl, by decide +kernel, rfl, by decide +kernel, by decide +kernel⟩
abbrev st__law_is_told : Stmt := (top 109)
def d__law_is_told : DefP := ⟨.glob "_law_is_told", "_law_is_told", "_law_is_told", defArgs st__law_is_told, defBody st__law_is_told, defScope st__law_is_told⟩
theorem sc__law_is_told : FnScope ["_law_rule", "_law_shutet", "_law_bill", "_law_due", "_law_told"] ["_law_rule", "_law_shutet", "_law_bill", "_law_due"] (defScope st__law_is_told) := ⟨rfl, rfl, rfl, by decide +kernel, rfl, by decide +kernel, by decide +kernel⟩
abbrev st__law_times : Stmt := (top 110)
def d__law_times : DefP := ⟨.glob "_law_times", "_law_times", "_law_times", defArgs st__law_times, defBody st__law_times, defScope st__law_times⟩
theorem sc__law_times : FnScope ["_law_amounts", "_law_times_here", "_law_balance", "_law_limit"] ["_law_amounts", "_law_times_here"] (defScope st__law_times) := ⟨rfl, rfl, rfl, by decide +kernel, rfl, by decide +kernel, by decide +kernel⟩
abbrev st_Wallet___str__ : Stmt := (sub (top 53) 15)
def d_Wallet___str__ : DefP := ⟨.meth "Wallet" "__str__", "__str__", "Wallet.__str__", defArgs st_Wallet___str__, defBody st_Wallet___str__, defScope st_Wallet___str__⟩
theorem sc_Wallet___str__ : FnScope ["self", "name", "card"] ["self"] (defScope st_Wallet___str__) := ⟨rfl, rfl, rfl, by decide +kernel, rfl, by decide +kernel, by decide +kernel⟩
abbrev st__law_shutet_text : Stmt := (top 91)
def d__law_shutet_text : DefP := ⟨.glob "_law_shutet_text", "_law_shutet_text", "_law_shutet_text", defArgs st__law_shutet_text, defBody st__law_shutet_text, defScope st__law_shutet_text⟩
theorem sc__law_shutet_text : FnScope ["_law_names", "_law_amounts", "_law_words", "_law_k", "_law_balance", "_law_limit"] ["_law_names", "_law_amounts"] (defScope st__law_shutet_text) := ⟨rfl, rfl, rfl, by decide +kernel, rfl, by decide +kernel, by decide +kernel⟩
abbrev st__law_right : Stmt := (top 111)
def d__law_right : DefP := ⟨.glob "_law_right", "_law_right", "_law_right", defArgs st__law_right, defBody st__law_right, defScope st__law_right⟩
theorem sc__law_right : FnScope ["_law_pool", "_law_turn", "_law_amounts", "_law_names", "_law_shutet", "_law_words", "_law_bill", "_law_due", "_law_rule", "_law_ends", "_law_same", "_law_times_here", "_law_greater", "_law_k", "_law_part_here"] ["_law_pool"] (defScope st__law_right) := ⟨rfl, rfl, rfl, by decide +kernel, rfl, by decide +kernel, by decide +kernel⟩
abbrev st__law_made_pool : Stmt := (top 82)
def d__law_made_pool : DefP := ⟨.glob "_law_made_pool", "_law_made_pool", "_law_made_pool", defArgs st__law_made_pool, defBody st__law_made_pool, defScope st__law_made_pool⟩
theorem sc__law_made_pool : FnScope ["_law_cell", "_law_digits"] ["_law_cell"] (defScope st__law_made_pool) := ⟨rfl, rfl, rfl, by decide +kernel, rfl, by decide +kernel, by decide +kernel⟩
abbrev st__law_cell_at : Stmt := (top 81)
def d__law_cell_at : DefP := ⟨.glob "_law_cell_at", "_law_cell_at", "_law_cell_at", defArgs st__law_cell_at, defBody st__law_cell_at, defScope st__law_cell_at⟩
theorem sc__law_cell_at : FnScope ["_law_cells", "_law_k", "_law_mixed", "_law_cell"] ["_law_cells", "_law_k"] (defScope st__law_cell_at) := ⟨rfl, rfl, rfl, by decide +kernel, rfl, by decide +kernel, by decide +kernel⟩
abbrev st_law : Stmt := (top 113)
def d_law : DefP := ⟨.glob "law", "law", "law", defArgs st_law, defBody st_law, defScope st_law⟩
theorem sc_law : FnScope ["_law_script", "_law_k"] ["_law_script"] (defScope st_law) := ⟨rfl, rfl, rfl, by decide +kernel, rfl, by decide +kernel, by decide +kernel⟩
def fa : List Ft := [
  .isi cs,
  .b (.free "str"),
  .b (.free "isinstance"),
  .b (.str "DIGITS" "0123456789"),
  .b (.free "all"),
  .b (.free "int"),
  .b (.glo "number_of"),
  .b (.free "len"),
  .b (.int "MOST_DAYS" 24),
  .b (.free "bool"),
  .b (.glo "is_integer"),
  .b (.glo "is_natural"),
  .b (.noat "Card" "held"),
  .b (.cls "Card"),
  .b (.noat "Card" "daily"),
  .b (.mkr "Card"),
  .b (.glo "Card"),
  .b (.glo "card_of"),
  .b (.glo "pair_of"),
  .b (.free "tuple"),
  .b (.free "enumerate"),
  .b (.int "MOST_CARDS" 12),
  .b (.int "LONGEST_NAME" 8),
  .b (.str "LETTERS" "abcdefghijklmnopqrstuvwxyz"),
  .b (.glo "is_name"),
  .b (.glo "wrong_pair"),
  .b (.noat "Wallet" "pairs"),
  .b (.cls "Wallet"),
  .b (.mkr "Wallet"),
  .b (.glo "Wallet"),
  .b (.glo "wallet_of"),
  .clsm "Wallet" "read",
  .b (.glo "check_wallet"),
  .b (.glo "check_bill"),
  .b (.noat "Form" "numbers"),
  .b (.cls "Form"),
  .b (.free "sum"),
  .b (.meth "Form" "sum_of"),
  .b (.glo "wrong_number"),
  .b (.mkr "Form"),
  .b (.free "min"),
  .b (.glo "worth"),
  .b (.glo "part"),
  .b (.glo "row_of"),
  .b (.glo "Form"),
  .prop "Wallet" "form",
  .b (.glo "check_payable"),
  .raw (conB "Drain" "KIND" "drain"),
  .b (.cls "Drain"),
  .b (.int "UNITS_AT_ONCE" 1000),
  .b (.free "range"),
  .raw (txtsB "BACKWARD" ["least", "narrow", "short", "late"]),
  .b (.glo "lead_by"),
  .b (.glo "is_ahead"),
  .b (.glo "one_by_one"),
  .b (.glo "parts"),
  .b (.glo "bounds"),
  .b (.free "list"),
  .b (.glo "placed_by"),
  .b (.glo "filled_by"),
  .b (.noat "Drain" "wishes"),
  .b (.glo "payment_by"),
  .b (.meth "Drain" "share"),
  .prop "Wallet" "cards",
  .prop "Card" "limit",
  .prop "Card" "balance",
  .b (.glo "amounts_of"),
  .raw (callB "Drain"),
  .raw (txtsB "KEYS" ["most", "least", "wide", "narrow", "long", "short", "early", "late"]),
  .b (.glo "wrong_key"),
  .raw (supB supF "Drain" "Rule" "__init__"),
  .b (.free "super"),
  .b (.mkr "Drain"),
  .b (.glo "Drain"),
  .raw (conB "Units" "KIND" "units"),
  .b (.cls "Units"),
  .b (.noat "Units" "wishes"),
  .b (.meth "Units" "share"),
  .raw (callB "Units"),
  .raw (conB "Spare" "KIND" "spare"),
  .b (.cls "Spare"),
  .b (.noat "Spare" "wishes"),
  .b (.meth "Spare" "share"),
  .raw (callB "Spare"),
  .b (.glo "_law_by_hand"),
  .b (.free "max"),
  .b (.free "divmod"),
  .b (.glo "_law_draw"),
  .b (.glo "_law_drawn_small"),
  .b (.glo "_law_drawn_large"),
  .b (.glo "_law_pick"),
  .b (.glo "_law_drawn_great"),
  .b (.glo "_law_drawn_amounts"),
  .b (.glo "_law_some_alike"),
  .b (.glo "_law_drawn_name"),
  .b (.glo "_law_drawn_names"),
  .b (.glo "_law_drawn_keys"),
  .b (.glo "_law_made_shutet"),
  .b (.glo "_law_worth_of"),
  .b (.glo "_law_room_of"),
  .b (.glo "_law_drawn_bill"),
  .b (.glo "_law_pairs_left"),
  .b (.glo "_law_rank_of"),
  .b (.free "sorted"),
  .b (.glo "_law_places_of"),
  .b (.glo "_law_units_of"),
  .b (.glo "_law_part_of"),
  .b (.glo "_law_bounds_of"),
  .b (.glo "_law_filled_by"),
  .b (.glo "_law_due_of"),
  .b (.glo "Units"),
  .raw (supB supF "Units" "Rule" "__init__"),
  .b (.mkr "Units"),
  .b (.glo "Spare"),
  .raw (supB supF "Spare" "Rule" "__init__"),
  .b (.mkr "Spare"),
  .b (.glo "rule_of"),
  .stat "Rule" "read",
  .b (.glo "Rule"),
  .b (.glo "_law_made_rule"),
  .b (.glo "_law_is_whole"),
  .b (.glo "_law_is_row_of"),
  .b (.glo "_law_is_told"),
  .b (.glo "_law_times"),
  .raw (ownB "Wallet" "__str__"),
  .b (.glo "_law_shutet_text"),
  .b (.free "abs"),
  .b (.glo "_law_cell_at"),
  .b (.glo "_law_made_pool"),
  .b (.glo "_law_right"),
  .b (.glo "law"),
  .raw noListsB]
def fn : List DefP := [d_number_of, d_is_integer, d_is_natural, d_Card___init__, d_card_of, d_pair_of, d_is_name, d_wrong_pair, d_Wallet___init__, d_wallet_of, d_Wallet_read, d_check_wallet, d_check_bill, d_Form_sum_of, d_wrong_number, d_Form___init__, d_worth, d_part, d_row_of, d_Wallet_form, d_check_payable, d_lead_by, d_is_ahead, d_one_by_one, d_parts, d_bounds, d_placed_by, d_filled_by, d_payment_by, d_Drain_share, d_Wallet_cards, d_Card_limit, d_Card_balance, d_amounts_of, d_Drain___call__, d_wrong_key, d_Drain___base__, d_Units_share, d_Units___call__, d_Spare_share, d_Spare___call__, d__law_by_hand, d__law_draw, d__law_some_alike, d__law_drawn_small, d__law_drawn_large, d__law_drawn_great, d__law_pick, d__law_drawn_amounts, d__law_drawn_name, d__law_drawn_names, d__law_drawn_keys, d__law_made_shutet, d__law_worth_of, d__law_room_of, d__law_drawn_bill, d__law_pairs_left, d__law_rank_of, d__law_places_of, d__law_units_of, d__law_part_of, d__law_bounds_of, d__law_filled_by, d__law_due_of, d_Units___base__, d_Spare___base__, d_rule_of, d_Rule_read, d__law_made_rule, d__law_is_whole, d__law_is_row_of, d__law_is_told, d__law_times, d_Wallet___str__, d__law_shutet_text, d__law_right, d__law_made_pool, d__law_cell_at, d_law]
end G64
set_option Elab.async false
set_option linter.all false
set_option maxRecDepth 100000
set_option maxHeartbeats 4000000
/-! Mf: names looked up by their codes, code places by a machine of five states; the top's executor over them. -/
noncomputable section
namespace Hop
open PySem PySem.W
/-- a text of these signs -/
def eqC (s : Str) (k : Nat) (l : List Nat) : Bool := @Bool.rec (fun _ => Bool) false (@Bool.rec (fun _ => Bool) false (Nat.beq s.cps.size k) (Fast.lEq s.cps.toList l)) (Nat.beq (Fast.code s.cps.toList) (Fast.code l))
theorem eqC_is (s : Str) (k : Nat) (l : List Nat) : eqC s k l = (s.cps.size == k && s.cps.toList == l) := by
  unfold eqC
  cases h : Nat.beq (Fast.code s.cps.toList) (Fast.code l) with
  | false =>
    have : s.cps.toList ≠ l := fun e => by rw [e] at h; exact absurd rfl (Nat.ne_of_beq_eq_false h)
    rw [beq_eq_false_iff_ne.mpr this, Bool.and_false]
  | true =>
    cases q : Fast.lEq s.cps.toList l with
    | false =>
      have : s.cps.toList ≠ l := fun e => by rw [Fast.lEq_iff.mpr e] at q; cases q
      rw [beq_eq_false_iff_ne.mpr this, Bool.and_false]
    | true =>
      rw [beq_iff_eq.mpr (Fast.lEq_iff.mp q), Bool.and_true]
      show Nat.beq s.cps.size k = _
      rw [Bool.eq_iff_iff, beq_iff_eq]
      exact ⟨Nat.eq_of_beq_eq_true, fun e => by rw [e]; exact Nat.beq_refl _⟩
def nm (k : Nat) (l : List Nat) (es : List DictEntry) : Bool → Option DictEntry × Bool :=
  @List.rec DictEntry (fun _ => Bool → Option DictEntry × Bool) (fun b => (none, b))
    (fun e _ ih b => @Value.rec (fun _ => Option DictEntry × Bool) (ih b) (ih b) (ih b) (fun _ => ih b) (fun _ _ => ih b) (fun _ _ => ih b)
      (fun s _ => @Bool.rec (fun _ => Option DictEntry × Bool) (ih b) (some e, b) (eqC s k l)) (fun _ _ => ih b) (fun _ => ih b) (fun _ => ih b) (fun _ => ih true) e.key) es
theorem nm_eq : @nsNameIn = nm := by
  funext k l es
  induction es with
  | nil => rfl
  | cons e r ih =>
    funext b
    obtain ⟨h, key, v⟩ := e
    rw [nsNameIn, ih]
    cases key with
    | str s t =>
      show (if (s.cps.size == k && s.cps.toList == l) = true then _ else _) = @Bool.rec (fun _ => Option DictEntry × Bool) (nm k l r b) (some ⟨h, .str s t, v⟩, b) (eqC s k l)
      rw [eqC_is]
      cases (s.cps.size == k && s.cps.toList == l) with
      | true => rfl
      | false => exact congrArg (nm k l r) (Bool.or_false b)
    | ref a => exact congrArg (nm k l r) (Bool.or_true b)
    | _ => exact congrArg (nm k l r) (Bool.or_false b)
def putIn (k : Nat) (l : List Nat) (f : Option DictEntry → DictEntry) (es : List DictEntry) : List DictEntry × Bool :=
  @List.rec DictEntry (fun _ => List DictEntry × Bool) ([f none], true)
    (fun e r ih => @Value.rec (fun _ => List DictEntry × Bool → List DictEntry × Bool) (fun z => z) (fun z => z) (fun z => z) (fun _ z => z) (fun _ _ z => z) (fun _ _ z => z)
      (fun s _ z => @Bool.rec (fun _ => List DictEntry × Bool) z (f (some e) :: r, false) (eqC s k l)) (fun _ _ z => z) (fun _ z => z) (fun _ z => z) (fun _ z => z) e.key
      (@Prod.rec (List DictEntry) Bool (fun _ => List DictEntry × Bool) (fun r' a => (e :: r', a)) ih)) es
theorem putIn_eq : @nsPutIn = putIn := by
  funext k l f es
  induction es with
  | nil => rfl
  | cons e r ih =>
    obtain ⟨h, key, v⟩ := e
    rw [nsPutIn, ih]
    cases key with
    | str s t =>
      show (if (s.cps.size == k && s.cps.toList == l) = true then _ else _) = @Bool.rec (fun _ => List DictEntry × Bool) (@Prod.rec (List DictEntry) Bool (fun _ => List DictEntry × Bool) (fun r' a => (⟨h, .str s t, v⟩ :: r', a)) (putIn k l f r)) (f (some ⟨h, .str s t, v⟩) :: r, false) (eqC s k l)
      rw [eqC_is]
      cases (s.cps.size == k && s.cps.toList == l) with
      | true => rfl
      | false => rfl
    | _ => rfl
def lk (n : Str) (l : List (Str × NameKind)) : Option NameKind := @List.rec (Str × NameKind) (fun _ => Option NameKind) none
  (fun p _ ih => @Prod.rec Str NameKind (fun _ => Option NameKind) (fun k v => @Bool.rec (fun _ => Option NameKind) ih (@Bool.rec (fun _ => Option NameKind) ih (some v) (Fast.lEq n.cps.toList k.cps.toList)) (Nat.beq (Fast.code n.cps.toList) (Fast.code k.cps.toList))) p) l
theorem lk_eq (n : Str) : ∀ l : List (Str × NameKind), l.lookup n = lk n l
  | [] => rfl
  | (k, v) :: r => by
    rw [List.lookup_cons, lk_eq n r]
    show _ = @Bool.rec (fun _ => Option NameKind) (lk n r) (@Bool.rec (fun _ => Option NameKind) (lk n r) (some v) (Fast.lEq n.cps.toList k.cps.toList)) (Nat.beq (Fast.code n.cps.toList) (Fast.code k.cps.toList))
    have e : (n == k) = Fast.sEq n k := by rw [Bool.eq_iff_iff, beq_iff_eq, Fast.sEq_iff]
    rw [e]
    unfold Fast.sEq
    cases Nat.beq (Fast.code n.cps.toList) (Fast.code k.cps.toList) with
    | false => rfl
    | true => cases Fast.lEq n.cps.toList k.cps.toList <;> rfl
def kindS (env : Env) (name : Str) : Option NameKind := lk name env.scope.names
theorem kind_eq : @Env.kindOf = kindS := by
  funext env name
  exact lk_eq _ _
/-! code places -/
inductive Ph where
  | li | co | va | cx | vx
def ifI (v : Value) (n : Nat) (yes no : Option Value) : Option Value := @Value.rec (fun _ => Option Value) none none none (fun _ => none)
  (fun i _ => @Int.rec (fun _ => Option Value) (fun m => @Bool.rec (fun _ => Option Value) no yes (Nat.beq m n)) (fun _ => no) i) (fun _ _ => none) (fun _ _ => none) (fun _ _ => none) (fun _ => none) (fun _ => none) (fun _ => none) v
def am (l c : Nat) (vs : List Value) : Ph → Option Value := @List.rec Value (fun _ => Ph → Option Value) (fun _ => none)
  (fun v _ ih ph => @Ph.rec (fun _ => Option Value) (ifI v l (ih .co) (ih .cx)) (ifI v c (ih .va) (ih .vx)) (some v) (ifI v 0 (ih .vx) (ih .vx)) (ih .li) ph) vs
theorem ifI_int (i : Int) (t : Tok) (n : Nat) (yes no : Option Value) : ifI (.int i t) n yes no = if i == (n : Int) then yes else no := by
  cases i with
  | ofNat m =>
    show @Bool.rec (fun _ => Option Value) no yes (Nat.beq m n) = _
    cases h : Nat.beq m n with
    | true => rw [Nat.eq_of_beq_eq_true h]; simp
    | false =>
      have := Nat.ne_of_beq_eq_false h
      have e : (Int.ofNat m == (n : Int)) = false := by rw [beq_eq_false_iff_ne]; intro q; exact this (Int.ofNat.inj q)
      rw [e]; rfl
  | negSucc m =>
    show no = _
    have e : (Int.negSucc m == (n : Int)) = false := by rw [beq_eq_false_iff_ne]; intro q; cases q
    rw [e]; rfl
theorem ifI_non {v : Value} (h : ∀ i t, v ≠ .int i t) (n : Nat) (yes no : Option Value) : ifI v n yes no = none := by
  cases v with
  | int i t => exact absurd rfl (h i t)
  | _ => rfl
theorem am_nil (l c : Nat) (p : Ph) : am l c [] p = none := rfl
theorem am_is (pos : Pos) : ∀ vs : List Value, codeAmong pos vs = am pos.line pos.col vs .li
  | [] => rfl
  | [v] => by
    show _ = ifI v pos.line none none
    cases v with
    | int i t => rw [ifI_int]; split <;> rfl
    | _ => rfl
  | [v, w] => by
    show _ = ifI v pos.line (ifI w _ none none) (ifI w 0 none none)
    have hw : ∀ n, ifI w n none none = none := fun n => by
      cases w with
      | int i t => rw [ifI_int]; split <;> rfl
      | _ => rfl
    rw [hw, hw]
    have e : codeAmong pos [v, w] = none := by
      cases v <;> first | rfl | (cases w <;> rfl)
    rw [e]
    cases v with
    | int i t => rw [ifI_int]; split <;> rfl
    | _ => rfl
  | v :: w :: x :: r => by
    show _ = ifI v pos.line (ifI w pos.col (some x) (am pos.line pos.col r .li)) (ifI w 0 (am pos.line pos.col r .li) (am pos.line pos.col r .li))
    cases v with
    | int i t =>
      cases w with
      | int j u =>
        rw [ifI_int, ifI_int, ifI_int]
        have e : codeAmong pos (.int i t :: .int j u :: x :: r) = if i == (pos.line : Int) && j == (pos.col : Int) then some x else codeAmong pos r := rfl
        rw [e, am_is pos r]
        cases (i == (pos.line : Int)) <;> cases (j == (pos.col : Int)) <;> (try rfl) <;> (simp)
      | _ => rw [ifI_int]; split <;> rfl
    | _ => rfl
def amS (pos : Pos) (vs : List Value) : Option Value := am pos.line pos.col vs .li
theorem am_eq : @codeAmong = amS := by
  funext pos vs
  exact am_is pos vs
/-! the library's twins over these -/
def aRefS : { t // @aRefKeyMayBeTheName = t } := ⟨_, by delta aRefKeyMayBeTheName; rw [nm_eq]⟩
def putS : { t // @Obj.putName = t } := ⟨_, by delta Obj.putName; rw [putIn_eq]⟩
def nsSetS : { t // @Fast.tw1291218889547360412 = t } := ⟨_, by delta Fast.tw1291218889547360412; rw [aRefS.2, putS.2]⟩
def nsLookS : { t // @Fast.tw12049290149238594875 = t } := ⟨_, by delta Fast.tw12049290149238594875; rw [nm_eq]⟩
def nsGetS : { t // @Fast.tw13143150168775219229 = t } := ⟨_, by delta Fast.tw13143150168775219229; rw [nsLookS.2]⟩
theorem kindT : @Fast.tw4777696345729990297 = kindS := Fast.te4777696345729990297.symm.trans kind_eq
def localSetS : { t // @Fast.tw15649517074672332891 = t } := ⟨_, by delta Fast.tw15649517074672332891; rw [nsSetS.2]⟩
def storeS : { t // @Fast.tw7998390705656384164 = t } := ⟨_, by delta Fast.tw7998390705656384164; rw [nsSetS.2, localSetS.2, kindT]⟩
def bindS : { t // @Fast.tw7536695828754713326 = t } := ⟨_, by delta Fast.tw7536695828754713326; rw [storeS.2]⟩
def qualS : { t // @Fast.tw17798618104000559429 = t } := ⟨_, by delta Fast.tw17798618104000559429; rw [kindT]⟩
def codeAtS : { t // @Fast.tw15821044387518864735 = t } := ⟨_, by delta Fast.tw15821044387518864735; rw [am_eq]⟩
def fcodeS : { t // @Fast.tw4592576987598556484 = t } := ⟨_, by delta Fast.tw4592576987598556484; rw [codeAtS.2]⟩
def mkFnS : { t // @Fast.tw8546552352650244325 = t } := ⟨_, by delta Fast.tw8546552352650244325; rw [fcodeS.2, nsGetS.2]⟩
def defS : { t // @Fast.tw10219693212109511274 = t } := ⟨_, by delta Fast.tw10219693212109511274; rw [mkFnS.2, bindS.2, qualS.2]⟩
def execF : { t // @Fast.tw16923920778897380256 = t } := ⟨_, by delta Fast.tw16923920778897380256; rw [defS.2]⟩
def execsS : { t // @Fast.tw12563942051412417395 = t } := ⟨_, by delta Fast.tw12563942051412417395; rw [execF.2]⟩
def denoteS : { t // @Fast.tw11892475500146522536 = t } := ⟨_, by delta Fast.tw11892475500146522536; rw [execsS.2]⟩
def denS : Code → Sem Fin := denoteS.1 HandSHeadRun.tabQ
theorem denS_eq : HandSHeadRun.denQ HandSHeadRun.tabQ = denS := congrFun denoteS.2 _
end Hop

set_option Elab.async false
set_option linter.all false
set_option maxRecDepth 100000
set_option maxHeartbeats 4000000
/-! Mh: the top run by one dispatch in each step (less time, less memory). -/
noncomputable section
namespace Hop
open PySem PySem.W PySem.Calls PyProof.Rows HandSHeadRun
abbrev Kt := SharedT → Sem Fin → Code → Pos → List Frame → Option SharedT
structure Ev where
  st : SharedT → Thread → Option (SharedT × Thread)
  den : Code → Sem Fin
  pr : Program
  wd : World
  n0 : Nat
  an : Option Value
abbrev Mo := Ev → Kt → SharedT → Code → Pos → List Frame → Option SharedT
def frd (d : Data) : Bool := match d with
  | .freed => true
  | _ => false
theorem frd_alive {o : Obj} (h : frd o.data = false) : alive o = some o := by
  obtain ⟨c, d, dt, sl⟩ := o
  cases dt <;> first | rfl | cases h
/-! the tree by its recursor -/
def gt (t : BT) : Nat → Option Obj := @BT.rec (fun _ => Nat → Option Obj) (fun _ => none)
  (fun v _ _ il ir i => @Bool.rec (fun _ => Option Obj) (@Bool.rec (fun _ => Option Obj) (ir (Nat.sub (Nat.div i 2) 1)) (il (Nat.div i 2)) (Nat.beq (Nat.mod i 2) 1)) (some v) (Nat.beq i 0)) t
def st (f : Obj → Obj) (t : BT) : Nat → BT := @BT.rec (fun _ => Nat → BT) (fun _ => .nil)
  (fun v l r il ir i => @Bool.rec (fun _ => BT) (@Bool.rec (fun _ => BT) (.node v l (ir (Nat.sub (Nat.div i 2) 1))) (.node v (il (Nat.div i 2)) r) (Nat.beq (Nat.mod i 2) 1)) (.node (f v) l r) (Nat.beq i 0)) t
def ins (o : Obj) (t : BT) : Nat → BT := @BT.rec (fun _ => Nat → BT) (fun _ => .node o .nil .nil)
  (fun v l r il ir i => @Bool.rec (fun _ => BT) (@Bool.rec (fun _ => BT) (.node v l (ir (Nat.sub (Nat.div i 2) 1))) (.node v (il (Nat.div i 2)) r) (Nat.beq (Nat.mod i 2) 1)) (.node o l r) (Nat.beq i 0)) t
theorem gt_eq : ∀ (t : BT) (i : Nat), gt t i = t.get i
  | .nil, _ => rfl
  | .node v l r, i => by
    have e : gt (.node v l r) i = @Bool.rec (fun _ => Option Obj) (@Bool.rec (fun _ => Option Obj) (gt r (Nat.sub (Nat.div i 2) 1)) (gt l (Nat.div i 2)) (Nat.beq (Nat.mod i 2) 1)) (some v) (Nat.beq i 0) := rfl
    rw [e, gt_eq r, gt_eq l]
    show _ = (match Nat.beq i 0 with | true => some v | false => match Nat.beq (i % 2) 1 with | true => l.get (i / 2) | false => r.get (i / 2 - 1))
    change _ = (match Nat.beq i 0 with | true => some v | false => match Nat.beq (Nat.mod i 2) 1 with | true => l.get (Nat.div i 2) | false => r.get (Nat.sub (Nat.div i 2) 1))
    cases Nat.beq i 0 <;> cases Nat.beq (Nat.mod i 2) 1 <;> rfl
theorem st_eq (f : Obj → Obj) : ∀ (t : BT) (i : Nat), st f t i = t.set i f
  | .nil, _ => rfl
  | .node v l r, i => by
    have e : st f (.node v l r) i = @Bool.rec (fun _ => BT) (@Bool.rec (fun _ => BT) (.node v l (st f r (Nat.sub (Nat.div i 2) 1))) (.node v (st f l (Nat.div i 2)) r) (Nat.beq (Nat.mod i 2) 1)) (.node (f v) l r) (Nat.beq i 0) := rfl
    rw [e, st_eq f r, st_eq f l]
    change _ = (match Nat.beq i 0 with | true => BT.node (f v) l r | false => match Nat.beq (Nat.mod i 2) 1 with | true => BT.node v (l.set (Nat.div i 2) f) r | false => BT.node v l (r.set (Nat.sub (Nat.div i 2) 1) f))
    cases Nat.beq i 0 <;> cases Nat.beq (Nat.mod i 2) 1 <;> rfl
theorem ins_eq (o : Obj) : ∀ (t : BT) (i : Nat), ins o t i = t.ins i o
  | .nil, _ => rfl
  | .node v l r, i => by
    have e : ins o (.node v l r) i = @Bool.rec (fun _ => BT) (@Bool.rec (fun _ => BT) (.node v l (ins o r (Nat.sub (Nat.div i 2) 1))) (.node v (ins o l (Nat.div i 2)) r) (Nat.beq (Nat.mod i 2) 1)) (.node o l r) (Nat.beq i 0) := rfl
    rw [e, ins_eq o r, ins_eq o l]
    change _ = (match Nat.beq i 0 with | true => BT.node o l r | false => match Nat.beq (Nat.mod i 2) 1 with | true => BT.node v (l.ins (Nat.div i 2) o) r | false => BT.node v l (r.ins (Nat.sub (Nat.div i 2) 1) o))
    cases Nat.beq i 0 <;> cases Nat.beq (Nat.mod i 2) 1 <;> rfl
/-- a step by the given executor -/
def bGen (t : Thread) (E : Ev) (K : Kt) (s : SharedT) : Option SharedT := match through t with
  | true => some s
  | false => match stepOk E.n0 E.an t with
    | false => none
    | true => match E.st s t with
      | none => none
      | some q => frS q.1 fun s2 => K s2 q.2.cur q.2.code q.2.pos q.2.stack
def bLoad (a : Addr) (z : Option Value) (k : Obj → Sem Fin) (_ : Obj → Mo) : Mo := fun _ K s code pos stack =>
  @Bool.rec (fun _ => Option SharedT) none (@Option.rec Obj (fun _ => Option SharedT) none (fun o => @Bool.rec (fun _ => Option SharedT) (K s (k o) code pos stack) none (frd o.data)) (gt s.tree a)) (Nat.blt a s.n)
def upd (a : Addr) (f : Obj → Obj) (cur : Sem Fin) (K : Kt) (s : SharedT) (code : Code) (pos : Pos) (stack : List Frame) : Option SharedT :=
  @SharedT.rec (fun _ => Option SharedT) (fun T n life gens drawn toks os => @Bool.rec (fun _ => Option SharedT) none (@Option.rec Obj (fun _ => Option SharedT) none (fun o => @Bool.rec (fun _ => Option SharedT) (K ⟨st f T a, n, life, gens, drawn, toks, os⟩ cur code pos stack) none (frd o.data)) (gt T a)) (Nat.blt a n)) s
def bUpdate (a : Addr) (z : Option Value) (f : Obj → Obj) (k : Unit → Sem Fin) (_ : Unit → Mo) : Mo := fun E K s code pos stack =>
  @Bool.rec (fun _ => Option SharedT)
    (@Bool.rec (fun _ => Option SharedT) (bGen ⟨.update a z f k, code, pos, stack⟩ E K s) (upd a f (k ()) K s code pos stack) (Nat.beq a mainNs))
    (upd a f (k ()) K s code pos stack) (Nat.ble E.n0 a)
def bAlloc (o : Obj) (k : Addr → Sem Fin) (_ : Addr → Mo) : Mo := fun _ K s code pos stack =>
  @SharedT.rec (fun _ => Option SharedT) (fun T n life gens drawn toks os => @Option.rec Obj (fun _ => Option SharedT) none (fun _ => frNat (n + 1) fun n1 => K ⟨ins o T n, n1, life, gens, drawn, toks, os⟩ (k n) code pos stack) (gt (ins o T n) n)) s
def bFresh (k : Tok → Sem Fin) (_ : Tok → Mo) : Mo := fun _ K s code pos stack =>
  @SharedT.rec (fun _ => Option SharedT) (fun T n life gens drawn toks os => frNat (toks + 1) fun t1 => K ⟨T, n, life, gens, drawn, t1, os⟩ (k toks) code pos stack) s
def bDone (f : Flow) : Mo := fun E K s code pos stack => match stack with
  | [] => some s
  | .ret k _ _ _ c p _ :: rest => K s (k (.ok f)) c p rest
  | x :: rest => bGen ⟨.pure (.done f), code, pos, x :: rest⟩ E K s
def bPure (f : Fin) : Mo := @PySem.Fin.rec (fun _ => Mo) bDone (fun c E K s code pos stack => bGen ⟨.pure (.again c), code, pos, stack⟩ E K s) f
def keptOf (c1 c2 : Code) (lv : List Value) : List Value := match c1, c2 with
  | .builtin _ x, _ => unmarked x.refs
  | .call g x, .builtin .. => unmarked (if lv.contains borrowed then x.refs else g :: x.refs)
  | .call g x, .call .. => unmarked (if lv.contains borrowed then x.refs else g :: x.refs)
  | _, _ => []
def bCall (c : Code) (h : Option Value) (g : Bool) (l : List Value) (k : Result → Sem Fin) (_ : Result → Mo) : Mo := fun E K s code pos stack =>
  K s (E.den c) c pos (.ret k h g l code pos (keptOf c code l) :: stack)
def disp : Sem Fin → Mo := @Sem.rec PySem.Fin (fun _ => Mo)
  bPure
  (fun e E K s code pos stack => bGen ⟨.raise e, code, pos, stack⟩ E K s)
  (fun e E K s code pos stack => bGen ⟨.unsupported e, code, pos, stack⟩ E K s)
  (fun e E K s code pos stack => bGen ⟨.finish e, code, pos, stack⟩ E K s)
  (fun _ k _ _ K s code pos stack => K s (k ()) code pos stack)
  (fun q k _ _ K s code _ stack => K s (k ()) code q stack)
  bLoad bUpdate bAlloc
  (fun a k _ E K s code pos stack => bGen ⟨.loadIfAlive a k, code, pos, stack⟩ E K s)
  (fun _ k _ _ K s code pos stack => K s (k ()) code pos stack)
  (fun a k _ E K s code pos stack => bGen ⟨.register a k, code, pos, stack⟩ E K s)
  bFresh
  (fun k _ E K s code pos stack => K s (k ⟨E.pr, E.wd.params⟩) code pos stack)
  (fun a b k _ E K s code pos stack => bGen ⟨.choose a b k, code, pos, stack⟩ E K s)
  (fun a b k _ E K s code pos stack => bGen ⟨.os a b k, code, pos, stack⟩ E K s)
  bCall
  (fun a k _ E K s code pos stack => bGen ⟨.handled a k, code, pos, stack⟩ E K s)
  (fun a k _ E K s code pos stack => bGen ⟨.newGen a k, code, pos, stack⟩ E K s)
  (fun a k _ E K s code pos stack => bGen ⟨.genState a k, code, pos, stack⟩ E K s)
  (fun a b c k _ E K s code pos stack => bGen ⟨.resume a b c k, code, pos, stack⟩ E K s)
  (fun a b c k _ E K s code pos stack => bGen ⟨.yield a b c k, code, pos, stack⟩ E K s)
  (fun k _ E K s code pos stack => bGen ⟨.stack k, code, pos, stack⟩ E K s)
  (fun a k _ E K s code pos stack => bGen ⟨.fork a k, code, pos, stack⟩ E K s)
  (fun k _ E K s code pos stack => bGen ⟨.thread k, code, pos, stack⟩ E K s)
  (fun a b c d k _ E K s code pos stack => bGen ⟨.await a b c d k, code, pos, stack⟩ E K s)
def goH (E : Ev) : Nat → Kt := @Nat.rec (fun _ => Kt) (fun _ _ _ _ _ => none) (fun _ K s cur code pos stack => disp cur E K s code pos stack)
/-- what a step says -/
def Goes (E : Ev) (K : Kt) (s : SharedT) (t : Thread) (r : SharedT) : Prop := (through t = true ∧ s = r) ∨ (through t = false ∧ stepOk E.n0 E.an t = true ∧ ∃ s2 t2, stepT E.den E.pr E.wd s t = some (s2, t2) ∧ K s2 t2.cur t2.code t2.pos t2.stack = some r)
theorem gen_goes {E : Ev} {K : Kt} {s : SharedT} {t : Thread} {r : SharedT} (hE : E.st = stepT E.den E.pr E.wd) (h : bGen t E K s = some r) : Goes E K s t r := by
  unfold bGen at h
  cases ht : through t with
  | true => rw [ht] at h; exact .inl ⟨ht, Option.some.inj h⟩
  | false =>
    rw [ht] at h
    cases hk : stepOk E.n0 E.an t with
    | false => rw [hk] at h; cases h
    | true =>
      rw [hk] at h
      cases hs : E.st s t with
      | none => rw [hs] at h; cases h
      | some q =>
        rw [hs] at h
        simp only [frS_eq] at h
        exact .inr ⟨ht, hk, q.1, q.2, by rw [← hE]; exact hs, h⟩
theorem load_goes {E : Ev} {K : Kt} {s : SharedT} {a : Addr} {z : Option Value} {k : Obj → Sem Fin} {code : Code} {pos : Pos} {stack : List Frame} {ih : Obj → Mo} {r : SharedT} (h : bLoad a z k ih E K s code pos stack = some r) : Goes E K s ⟨.load a z k, code, pos, stack⟩ r := by
  obtain ⟨T, n, life, gens, drawn, toks, os⟩ := s
  unfold bLoad at h
  simp only [gt_eq] at h
  cases hb : Nat.blt a n with
  | false => simp only [hb] at h; cases h
  | true =>
    simp only [hb] at h
    cases hg : T.get a with
    | none => simp only [hg] at h; cases h
    | some o =>
      simp only [hg] at h
      cases hf : frd o.data with
      | true => simp only [hf] at h; cases h
      | false =>
        simp only [hf] at h
        refine .inr ⟨?_, rfl, _, ⟨k o, code, pos, stack⟩, ?_, h⟩
        · unfold through; exact Bool.and_false _
        · unfold stepT
          simp only [hb, hg, frd_alive hf]
theorem upd_goes {E : Ev} {K : Kt} {s : SharedT} {a : Addr} {z : Option Value} {f : Obj → Obj} {k : Unit → Sem Fin} {code : Code} {pos : Pos} {stack : List Frame} {r : SharedT} (ho : stepOk E.n0 E.an ⟨.update a z f k, code, pos, stack⟩ = true) (h : upd a f (k ()) K s code pos stack = some r) : Goes E K s ⟨.update a z f k, code, pos, stack⟩ r := by
  obtain ⟨T, n, life, gens, drawn, toks, os⟩ := s
  unfold upd at h
  simp only [gt_eq, st_eq] at h
  cases hb : Nat.blt a n with
  | false => simp only [hb] at h; cases h
  | true =>
    simp only [hb] at h
    cases hg : T.get a with
    | none => simp only [hg] at h; cases h
    | some o =>
      simp only [hg] at h
      cases hf : frd o.data with
      | true => simp only [hf] at h; cases h
      | false =>
        simp only [hf] at h
        refine .inr ⟨?_, ho, _, ⟨k (), code, pos, stack⟩, ?_, h⟩
        · unfold through; exact Bool.and_false _
        · unfold stepT
          simp only [hb, hg, frd_alive hf]
theorem disp_goes {E : Ev} (hE : E.st = stepT E.den E.pr E.wd) {K : Kt} {s : SharedT} {cur : Sem Fin} {code : Code} {pos : Pos} {stack : List Frame} {r : SharedT} (h : disp cur E K s code pos stack = some r) : Goes E K s ⟨cur, code, pos, stack⟩ r := by
  cases cur with
  | pure f =>
    cases f with
    | done f =>
      have h : bDone f E K s code pos stack = some r := h
      cases stack with
      | nil => exact .inl ⟨rfl, Option.some.inj h⟩
      | cons x rest =>
        cases x with
        | ret k a b c d e g =>
          obtain ⟨T, n, life, gens, drawn, toks, os⟩ := s
          exact .inr ⟨rfl, rfl, _, ⟨k (.ok f), d, e, rest⟩, rfl, h⟩
        | gen => exact gen_goes hE h
    | again c => exact gen_goes hE h
  | load a z k => exact load_goes (ih := fun x => disp (k x)) h
  | update a z f k =>
    have h : bUpdate a z f k (fun _ => disp (k ())) E K s code pos stack = some r := h
    unfold bUpdate at h
    cases h1 : Nat.ble E.n0 a with
    | true =>
      simp only [h1] at h
      refine upd_goes ?_ h
      show (true && (Nat.ble E.n0 a || a == mainNs || a == cStatics || E.an == some (.ref a))) = true
      rw [h1]; rfl
    | false =>
      simp only [h1] at h
      cases h2 : Nat.beq a mainNs with
      | true =>
        simp only [h2] at h
        refine upd_goes ?_ h
        show (true && (Nat.ble E.n0 a || a == mainNs || a == cStatics || E.an == some (.ref a))) = true
        have : (a == mainNs) = true := by rw [Nat.eq_of_beq_eq_true h2]; exact beq_self_eq_true _
        rw [h1, this]; rfl
      | false =>
        simp only [h2] at h
        exact gen_goes hE h
  | alloc o k =>
    obtain ⟨T, n, life, gens, drawn, toks, os⟩ := s
    have h : bAlloc o k (fun x => disp (k x)) E K ⟨T, n, life, gens, drawn, toks, os⟩ code pos stack = some r := h
    unfold bAlloc at h
    simp only [gt_eq, ins_eq] at h
    cases hg : (T.ins n o).get n with
    | none => simp only [hg] at h; cases h
    | some q =>
      simp only [hg, frNat_eq] at h
      refine .inr ⟨by unfold through; exact Bool.and_false _, rfl, _, ⟨k n, code, pos, stack⟩, ?_, h⟩
      unfold stepT
      simp only [hg]
      rfl
  | fresh k =>
    obtain ⟨T, n, life, gens, drawn, toks, os⟩ := s
    have h : bFresh k (fun x => disp (k x)) E K ⟨T, n, life, gens, drawn, toks, os⟩ code pos stack = some r := h
    unfold bFresh at h
    simp only [frNat_eq] at h
    exact .inr ⟨by unfold through; exact Bool.and_false _, rfl, _, ⟨k toks, code, pos, stack⟩, rfl, h⟩
  | rule q k =>
    obtain ⟨T, n, life, gens, drawn, toks, os⟩ := s
    exact .inr ⟨by unfold through; exact Bool.and_false _, rfl, _, ⟨k (), code, pos, stack⟩, rfl, h⟩
  | «at» q k =>
    obtain ⟨T, n, life, gens, drawn, toks, os⟩ := s
    exact .inr ⟨by unfold through; exact Bool.and_false _, rfl, _, ⟨k (), code, q, stack⟩, rfl, h⟩
  | point q k =>
    obtain ⟨T, n, life, gens, drawn, toks, os⟩ := s
    exact .inr ⟨by unfold through; exact Bool.and_false _, rfl, _, ⟨k (), code, pos, stack⟩, rfl, h⟩
  | ask k =>
    obtain ⟨T, n, life, gens, drawn, toks, os⟩ := s
    exact .inr ⟨by unfold through; exact Bool.and_false _, rfl, _, ⟨k ⟨E.pr, E.wd.params⟩, code, pos, stack⟩, rfl, h⟩
  | call c h0 g l k =>
    obtain ⟨T, n, life, gens, drawn, toks, os⟩ := s
    have e : keptOf c code l = _ := rfl
    refine .inr ⟨by unfold through; exact Bool.and_false _, rfl, _, ⟨E.den c, c, pos, .ret k h0 g l code pos (keptOf c code l) :: stack⟩, ?_, h⟩
    cases c <;> cases code <;> rfl
  | _ => exact gen_goes hE h
theorem go_ok {E : Ev} (hE : E.st = stepT E.den E.pr E.wd) : ∀ {m : Nat} {s r : SharedT} {t : Thread}, goH E m s t.cur t.code t.pos t.stack = some r → goF E.st E.n0 E.an m s t = some r
  | 0, _, _, _, h => by cases h
  | m + 1, s, r, t, h => by
    have h1 : disp t.cur E (goH E m) s t.code t.pos t.stack = some r := h
    have key := disp_goes hE h1
    unfold goF
    rcases key with ⟨k1, rfl⟩ | ⟨k1, k2, s2, t2, k3, k4⟩
    · obtain ⟨cur, code, pos, stack⟩ := t
      rw [k1]
    · obtain ⟨cur, code, pos, stack⟩ := t
      rw [k1]
      simp only [k2]
      rw [hE, k3]
      simp only [frS_eq]
      rw [← hE]
      exact go_ok hE k4
/-- the state behind the top -/
def endH (st : SharedT → Thread → Option (SharedT × Thread)) (den : Code → Sem Fin) (M : Nat) (p : Program) (w : World) (os : OsState) : Option SharedT := match putAll (boot_heap w.params).objs.toList .nil 0 with
  | some (t, n) => frNat n fun n0 => goH ⟨st, den, p, w, n0, bootAnn w⟩ M (bootT w os (t, n0)) (topStub p).cur (topStub p).code (topStub p).pos (topStub p).stack
  | none => none
theorem end_ok {M : Nat} {p : Program} {w : World} {os : OsState} {s : SharedT} (h : endH (stepQ denS p w) denS M p w os = some s) : endF (stepQ (denQ tabQ) p w) M p w os = some s := by
  rw [denS_eq]
  unfold endH at h
  unfold endF
  cases e : putAll (boot_heap w.params).objs.toList .nil 0 with
  | none => rw [e] at h; cases h
  | some r =>
    obtain ⟨t, n⟩ := r
    rw [e] at h
    simp only [frNat_eq] at h ⊢
    exact go_ok (E := ⟨stepQ denS p w, denS, p, w, n, bootAnn w⟩) (by show stepQ denS p w = stepT denS p w; rw [← stepQ_eq]) h
theorem map_ok {α : Type} {f : SharedT → α} {v : α} {M : Nat} {p : Program} {w : World} {os : OsState} (h : (endH (stepQ denS p w) denS M p w os).map f = some v) : (endF (stepQ (denQ tabQ) p w) M p w os).map f = some v := by
  obtain ⟨s, h1, h2⟩ := Option.map_eq_some_iff.mp h
  rw [end_ok h1]
  exact congrArg some h2
end Hop

set_option maxHeartbeats 0
section
namespace G64
open PySem PySem.Spec PyProof.Rows L2 Mi He
abbrev RR : PySem.W.OpenRow := PySem.W.OpenLaw.row PySem.Challenge.rw_sparepay_k64_drains_by_own_order
def loose : List Str := [("_wall" : Str), ("WrongValue" : Str), ("InvalidText" : Str), ("InvalidAmount" : Str), ("InvalidBill" : Str), ("InvalidIndex" : Str), ("NotAWallet" : Str), ("NotAForm" : Str), ("InvalidCards" : Str), ("InvalidRow" : Str), ("InvalidPayment" : Str), ("InvalidKeys" : Str), ("WrongName" : Str), ("UnknownName" : Str), ("InUse" : Str), ("NoAnswer" : Str), ("CannotPay" : Str), ("Full" : Str), ("TooMany" : Str), ("MOST_CARDS" : Str), ("MOST_DAYS" : Str), ("UNITS_AT_ONCE" : Str), ("DIGITS" : Str), ("LETTERS" : Str), ("LONGEST_NAME" : Str), ("is_integer" : Str), ("is_natural" : Str), ("is_bills" : Str), ("is_name" : Str), ("number_of" : Str), ("check_bill" : Str), ("number_at" : Str), ("sums_of" : Str), ("sums_for" : Str), ("row_with" : Str), ("both_sums" : Str), ("least_row" : Str), ("added" : Str), ("taken" : Str), ("pays_bills" : Str), ("wrong_number" : Str), ("Form" : Str), ("check_form" : Str), ("worth" : Str), ("part" : Str), ("row_of" : Str), ("Card" : Str), ("card_of" : Str), ("wrong_pair" : Str), ("Wallet" : Str), ("pair_of" : Str), ("wallet_of" : Str), ("check_wallet" : Str), ("check_room" : Str), ("check_known" : Str), ("check_payment" : Str), ("amounts_of" : Str), ("parts" : Str), ("bounds" : Str), ("check_payable" : Str), ("KEYS" : Str), ("BACKWARD" : Str), ("wrong_key" : Str), ("lead_by" : Str), ("is_ahead" : Str), ("placed_by" : Str), ("filled_by" : Str), ("one_by_one" : Str), ("payment_by" : Str), ("Rule" : Str), ("Drain" : Str), ("Units" : Str), ("Spare" : Str), ("rule_of" : Str), ("_law_cell_at" : Str), ("_law_made_pool" : Str), ("_law_draw" : Str), ("_law_pick" : Str), ("_law_drawn_large" : Str), ("_law_drawn_name" : Str), ("_law_drawn_names" : Str), ("_law_drawn_small" : Str), ("_law_drawn_great" : Str), ("_law_made_shutet" : Str), ("_law_shutet_text" : Str), ("_law_worth_of" : Str), ("_law_part_of" : Str), ("_law_room_of" : Str), ("_law_pairs_left" : Str), ("_law_rank_of" : Str), ("_law_places_of" : Str), ("_law_filled_by" : Str), ("_law_units_of" : Str), ("_law_bounds_of" : Str), ("_law_due_of" : Str), ("_law_drawn_keys" : Str), ("_law_made_rule" : Str), ("_law_is_whole" : Str), ("_law_is_row_of" : Str), ("_law_drawn_bill" : Str), ("_law_drawn_amounts" : Str), ("_law_some_alike" : Str), ("_law_is_told" : Str), ("_law_times" : Str), ("_law_right" : Str), ("_law_by_hand" : Str)]
abbrev hk : PySem.W.Hook := hookP 5 fa fn
def ob (s : PySem.W.SharedT) : AlP := obsPG 5 fa fn (HandSHeadRun.getT s)
theorem ob_eq (s : PySem.W.SharedT) : ob s = hk.obs s.abs := obsPG_eq (HandSHeadRun.getT_eq s)
open PySem PySem.W PySem.Calls PyProof.Rows HandSHeadRun in
theorem run1 (w : World) (os : OsState) : (HandSHeadRun.endF (HandSHeadRun.stepQ (HandSHeadRun.denQ HandSHeadRun.tabQ) RR.prog w) 20000 RR.prog w os).map (fun s => looksF RR.prog (boot_heap w.params) s.abs) = some true := Hop.map_ok (by kernel_rfl)
open PySem PySem.W PySem.Calls PyProof.Rows HandSHeadRun in
theorem run2 (w : World) (os : OsState) : (HandSHeadRun.endF (HandSHeadRun.stepQ (HandSHeadRun.denQ HandSHeadRun.tabQ) RR.prog w) 20000 RR.prog w os).map (fun s => HandSHeadRun.seenQ (PySem.W.view RR.prog [113]) loose (importedModules RR.prog.main.body) (fun s => xlAt (PySem.W.view RR.prog [113]) [] s && recOk RR.toRowW.records s) s.abs) = some (openGood (PySem.W.view RR.prog [113]) loose) := Hop.map_ok (by kernel_rfl)
def fa_0 : List Ft := (fa.drop 0).take 132
def fn_0 : List DefP := (fn.drop 0).take 40
def fn_1 : List DefP := (fn.drop 40).take 40
open PySem PySem.W PySem.Calls PyProof.Rows HandSHeadRun in
theorem runp0 (w : World) (os : OsState) : (HandSHeadRun.endF (HandSHeadRun.stepQ (HandSHeadRun.denQ HandSHeadRun.tabQ) RR.prog w) 20000 RR.prog w os).map (fun s => obsPG 5 fa_0 [] (HandSHeadRun.getT s)) = some (valP []) := Hop.map_ok (by kernel_rfl)
open PySem PySem.W PySem.Calls PyProof.Rows HandSHeadRun in
theorem runp1 (w : World) (os : OsState) : (HandSHeadRun.endF (HandSHeadRun.stepQ (HandSHeadRun.denQ HandSHeadRun.tabQ) RR.prog w) 20000 RR.prog w os).map (fun s => obsPG 5 [] fn_0 (HandSHeadRun.getT s)) = some (valP fn_0) := Hop.map_ok (by kernel_rfl)
open PySem PySem.W PySem.Calls PyProof.Rows HandSHeadRun in
theorem runp2 (w : World) (os : OsState) : (HandSHeadRun.endF (HandSHeadRun.stepQ (HandSHeadRun.denQ HandSHeadRun.tabQ) RR.prog w) 20000 RR.prog w os).map (fun s => obsPG 5 [] fn_1 (HandSHeadRun.getT s)) = some (valP fn_1) := Hop.map_ok (by kernel_rfl)
theorem obs_app {fa1 fa2 : List Ft} {fn1 fn2 : List DefP} {g : Addr → Option Obj} (h1 : obsPG 5 fa1 fn1 g = valP fn1) (h2 : obsPG 5 fa2 fn2 g = valP fn2) : obsPG 5 (fa1 ++ fa2) (fn1 ++ fn2) g = valP (fn1 ++ fn2) := by
  unfold obsPG obsP valP at *
  generalize frG g (asM g 5) = K at *
  have a1 := congrArg Prod.fst h1
  have a2 := congrArg Prod.fst h2
  have c1 : (fn1.map fun d => fnP K (d.at_.ad K)) = fn1.map DefP.val := congrArg Prod.snd h1
  have c2 : (fn2.map fun d => fnP K (d.at_.ad K)) = fn2.map DefP.val := congrArg Prod.snd h2
  simp only [Bool.and_eq_true] at a1 a2
  rw [List.all_append, List.all_append, List.map_append, List.map_append, a1.1, a1.2, a2.1, a2.2, c1, c2]
  rfl
theorem obs_two {x : Option PySem.W.SharedT} {fa1 fa2 : List Ft} {fn1 fn2 : List DefP} (h1 : x.map (fun s => obsPG 5 fa1 fn1 (HandSHeadRun.getT s)) = some (valP fn1)) (h2 : x.map (fun s => obsPG 5 fa2 fn2 (HandSHeadRun.getT s)) = some (valP fn2)) : x.map (fun s => obsPG 5 (fa1 ++ fa2) (fn1 ++ fn2) (HandSHeadRun.getT s)) = some (valP (fn1 ++ fn2)) := by
  cases x with
  | none => cases h1
  | some s => exact congrArg some (obs_app (Option.some.inj h1) (Option.some.inj h2))
theorem map_fst {α β γ : Type} {x : Option α} {f : α → β} {g : α → γ} {a : β} {b : γ} (h : x.map (fun s => (f s, g s)) = some (a, b)) : x.map f = some a := by
  cases x with
  | none => cases h
  | some s => exact congrArg some (congrArg Prod.fst (Option.some.inj h))
theorem map_snd {α β γ : Type} {x : Option α} {f : α → β} {g : α → γ} {a : β} {b : γ} (h : x.map (fun s => (f s, g s)) = some (a, b)) : x.map g = some b := by
  cases x with
  | none => cases h
  | some s => exact congrArg some (congrArg Prod.snd (Option.some.inj h))
theorem map_pr {α β γ : Type} {x : Option α} {f : α → β} {g : α → γ} {a : β} {b : γ} (e1 : x.map f = some a) (e2 : x.map g = some b) : x.map (fun s => (f s, g s)) = some (a, b) := by
  cases x with
  | none => cases e1
  | some s =>
    have q1 := Option.some.inj e1
    have q2 := Option.some.inj e2
    show some (f s, g s) = _
    rw [q1, q2]
theorem efa : (fa_0 ++ ([] ++ [])) = fa := rfl
theorem efn : ([] ++ (fn_0 ++ fn_1)) = fn := rfl
theorem runop (w : World) (os : OsState) : (HandSHeadRun.endF (HandSHeadRun.stepQ (HandSHeadRun.denQ HandSHeadRun.tabQ) RR.prog w) 20000 RR.prog w os).map (fun s => obsPG 5 fa fn (HandSHeadRun.getT s)) = some (valP fn) := by
  have h := (obs_two (runp0 w os) (obs_two (runp1 w os) (runp2 w os)))
  rw [efa, efn] at h
  exact h
theorem runob (w : World) (os : OsState) : (HandSHeadRun.endF (HandSHeadRun.stepQ (HandSHeadRun.denQ HandSHeadRun.tabQ) RR.prog w) 20000 RR.prog w os).map (fun s => ob s) = some (valP fn) := runop w os
theorem run (w : World) : HandSHeadRun.RunEq RR (PySem.W.view RR.prog [113]) hk ob 20000 loose w := fun os => map_pr (run1 w os) (map_pr (run2 w os) (runob w os))
open PySem PySem.W PySem.Calls PyProof.Rows in
theorem bare0 : (OpenLaw.row PySem.Challenge.rw_sparepay_k64_drains_by_own_order).prog.bare := ⟨rfl, rfl, rfl, rfl, rfl, by decide +kernel⟩
open PySem PySem.W PySem.Calls PyProof.Rows in
theorem pre (call : WalkO (view (OpenLaw.row PySem.Challenge.rw_sparepay_k64_drains_by_own_order).prog [113]) loose (XL (view (OpenLaw.row PySem.Challenge.rw_sparepay_k64_drains_by_own_order).prog [113]) []) hk.says (OpenLaw.row PySem.Challenge.rw_sparepay_k64_drains_by_own_order).toRowW (HandSHeadRun.topDef (OpenLaw.row PySem.Challenge.rw_sparepay_k64_drains_by_own_order).prog 113) [] fun f vs => PySem.call f vs) : PySem.Challenge.rw_sparepay_k64_drains_by_own_order.Holds := by
  w_on; o_law
  refine HandSHeadRun.head_any (r := OpenLaw.row PySem.Challenge.rw_sparepay_k64_drains_by_own_order) (q := view (OpenLaw.row PySem.Challenge.rw_sparepay_k64_drains_by_own_order).prog [113]) (H := hk) (ob := ob) (M := 20000) (loose := loose) (d := HandSHeadRun.topDef (OpenLaw.row PySem.Challenge.rw_sparepay_k64_drains_by_own_order).prog 113) (kwd := []) ob_eq
    (by kernel_rfl) (fun s => by kernel_rfl) run (by kernel_rfl) (by kernel_rfl) (by kernel_rfl) (by rfl) (by first | assumption | decide +kernel) (by decide +kernel) bare0 ?hw call
  case hw => w_witness2
end G64

end
set_option maxHeartbeats 4000000
set_option Elab.async false
set_option linter.all false
set_option maxRecDepth 100000
set_option maxHeartbeats 2000000
/-! Mi0: a mirror of Python code as plain functions on data, over the hand layer. Data D, how data lie in the abstract heap (Rep), steps of the heap (Stp, Gd), slots (Env, Sta), readings of mirrors (rdE, rdT, rdA, rdS, rdI, rdG, spM). -/
namespace Mi
open PySem PySem.Spec PyProof.Rows L2

/-- data -/
inductive D where
  | non | bl (b : Bool) | int (i : Int) | str (x : Str)
  | tup (ds : List D) | lst (ds : List D)
  | obj (c : Str) (ks : List Str) (ds : List D)
  | pur | ty (n : String) | cls (c : Str) | scr (ns : List Int)
  /-- an error that was caught; a dict with texts as keys -/
  | exc (c : Str) (ks : List Str) (ds : List D) | dct (ks : List Str) (ds : List D) | ecl (c : Str)
  /-- a dict whose keys are nested tuples of numbers -/
  | ndc (ks : List D) (ds : List D)
/-- the tables of code objects that lambdas are written into -/
class Tabl where
  T : List (Addr × Str)
  loose : Bool
variable [TB : Tabl]

/-- the one list that changes through calls (a purse of drawn numbers); idle: none is in use -/
inductive PuS where
  | real (l : List Int) | idle (o : HO)
def PuS.ho : PuS → HO
  | .real l => .lst (l.map V.int)
  | .idle o => o

/-- what is fixed: the written part, the classes by name -/
structure Wo where
  K : PySem.W.Frag
  cl : Str → Addr
  cs : List Str

/-- the object at a is just this one -/
def dxO (a : Addr) (o : Obj) : HO := .ext fun h => h.get? a = some o
/-- a dict's object: keys, where they stand, values -/
def DxO (a : Addr) (o : Obj) (xs : List (NestedKey × Addr × Value)) : Prop := (a == sysModules) = false ∧ o.ExactDict ∧ xs.length ≤ sizeLine ∧ (xs.map (·.1)).Nodup ∧
  ∃ es ep, o.data = .dict es ep ∧ ∀ (P : Program) (w : World), es.toList = xs.map (entryOfKey (nestedKind P w))
mutual
/-- data as a key -/
def keyN : D → Option NestedKey
  | .int i => some (.num i)
  | .tup ds => (keyNs ds).map .tup
  | _ => none
def keyNs : List D → Option (List NestedKey)
  | [] => some []
  | d :: r => match keyN d, keyNs r with
    | some k, some ks => some (k :: ks)
    | _, _ => none
end
inductive Rep (W : Wo) (p : Addr) (F : Hp) : V → D → Prop
  | non : Rep W p F .non .non
  | bl (b : Bool) : Rep W p F (.bl b) (.bl b)
  | int (i : Int) : Rep W p F (.int i) (.int i)
  | str (x : Str) : Rep W p F (.str x) (.str x)
  | ty (n : String) : Rep W p F (.ty n) (.ty n)
  | cls (c : Str) (hc : c ∈ W.cs) : Rep W p F (.ref (W.cl c)) (.cls c)
  | pur : Rep W p F (.ref p) .pur
  | scr {a : Addr} {ns : List Int} (h : SqL W.K F a (ns.map V.int)) : Rep W p F (.ref a) (.scr ns)
  | tup {a : Addr} {vs : List V} {ds : List D} (h : SqT W.K F a vs) (l : vs.length = ds.length) (r : ∀ (i : Nat) (v : V) (d : D), vs[i]? = some v → ds[i]? = some d → Rep W p F v d) : Rep W p F (.ref a) (.tup ds)
  | lst {a : Addr} {vs : List V} {ds : List D} (h : F a = some (.lst vs)) (l : vs.length = ds.length) (r : ∀ (i : Nat) (v : V) (d : D), vs[i]? = some v → ds[i]? = some d → Rep W p F v d) : Rep W p F (.ref a) (.lst ds)
  | obj {a dx : Addr} {c : Str} {ks : List Str} {vs : List V} {ds : List D} (hc : c ∈ W.cs) (h : F a = some (.ins (W.cl c) dx (ks.zip vs))) (lk : ks.length = vs.length) (l : vs.length = ds.length)
      (r : ∀ (i : Nat) (v : V) (d : D), vs[i]? = some v → ds[i]? = some d → Rep W p F v d) : Rep W p F (.ref a) (.obj c ks ds)
  | exc {a dx : Addr} {oe : Obj} {u : HO} {fs : Array Value} {c : Str} {ks : List Str} {vs : List V} {ds : List D} (hc : c ∈ errs) (h : F a = some (.frz oe u)) (hk : oe.cls = .ref (W.cl c)) (hf : oe.data = .fields fs) (h2 : fs[2]? = some .none)
      (hx : (oe.dict = some dx ∧ F dx = some (.xd (ks.zip vs))) ∨ (oe.dict = none ∧ ks = [])) (lk : ks.length = vs.length) (l : vs.length = ds.length) (r : ∀ (i : Nat) (v : V) (d : D), vs[i]? = some v → ds[i]? = some d → Rep W p F v d) : Rep W p F (.ref a) (.exc c ks ds)
  | ecl (c : Str) (hc : c ∈ errs) : Rep W p F (.ref (W.cl c)) (.ecl c)
  | dct {a : Addr} {ks : List Str} {vs : List V} {ds : List D} (h : F a = some (.dK ((ks.map Sum.inr).zip vs))) (lk : ks.length = vs.length) (l : vs.length = ds.length)
      (r : ∀ (i : Nat) (v : V) (d : D), vs[i]? = some v → ds[i]? = some d → Rep W p F v d) : Rep W p F (.ref a) (.dct ks ds)
  | ndc {a : Addr} {o : Obj} {xs : List (NestedKey × Addr × Value)} {vs : List V} {ks ds : List D} (h : F a = some (dxO a o)) (hx : DxO a o xs) (lk : xs.length = ks.length) (lv : xs.length = vs.length) (l : vs.length = ds.length)
      (hk : ∀ (i : Nat) (x : NestedKey × Addr × Value) (d : D), xs[i]? = some x → ks[i]? = some d → keyN d = some x.1 ∧ x.1.depth ≤ 8)
      (rv : ∀ (i : Nat) (x : NestedKey × Addr × Value) (v : V), xs[i]? = some x → vs[i]? = some v → RelV v x.2.2)
      (rk : ∀ (i : Nat) (x : NestedKey × Addr × Value) (d : D), xs[i]? = some x → ks[i]? = some d → Rep W p F (.ref x.2.1) d)
      (r : ∀ (i : Nat) (v : V) (d : D), vs[i]? = some v → ds[i]? = some d → Rep W p F v d) : Rep W p F (.ref a) (.ndc ks ds)

/-- keys and values of a dict -/
structure DctR (W : Wo) (p : Addr) (F : Hp) (xs : List (NestedKey × Addr × Value)) (vs : List V) (ks ds : List D) : Prop where
  lk : xs.length = ks.length
  lv : xs.length = vs.length
  l : vs.length = ds.length
  hk : ∀ (i : Nat) (x : NestedKey × Addr × Value) (d : D), xs[i]? = some x → ks[i]? = some d → keyN d = some x.1 ∧ x.1.depth ≤ 8
  rv : ∀ (i : Nat) (x : NestedKey × Addr × Value) (v : V), xs[i]? = some x → vs[i]? = some v → RelV v x.2.2
  rk : ∀ (i : Nat) (x : NestedKey × Addr × Value) (d : D), xs[i]? = some x → ks[i]? = some d → Rep W p F (.ref x.2.1) d
  r : ∀ (i : Nat) (v : V) (d : D), vs[i]? = some v → ds[i]? = some d → Rep W p F v d
def Reps (W : Wo) (p : Addr) (F : Hp) (vs : List V) (ds : List D) : Prop := vs.length = ds.length ∧ ∀ (i : Nat) (v : V) (d : D), vs[i]? = some v → ds[i]? = some d → Rep W p F v d

theorem sq_t {K : PySem.W.Frag} {H H' : Hp} {a : Addr} {xs : List V} (e : Same H H') (h : SqT K H a xs) : SqT K H' a xs := by
  rcases h with (h | ⟨o, h⟩) | h
  · exact .inl (.inl (e _ _ h))
  · exact .inl (.inr ⟨o, e _ _ h⟩)
  · exact .inr h

theorem sq_l {K : PySem.W.Frag} {H H' : Hp} {a : Addr} {xs : List V} (e : Same H H') (h : SqL K H a xs) : SqL K H' a xs := by
  rcases h with (h | ⟨o, h⟩) | h
  · exact .inl (.inl (e _ _ h))
  · exact .inl (.inr ⟨o, e _ _ h⟩)
  · exact .inr h

section
variable {W : Wo} {p : Addr} {F F' H H' F1 H1 F2 H2 : Hp} {u u1 u2 : PuS}
theorem Rep.mono {v : V} {d : D} (e : Same F F') (h : Rep W p F v d) : Rep W p F' v d := by
  induction h with
  | non => exact .non
  | bl b => exact .bl b
  | int i => exact .int i
  | str x => exact .str x
  | ty n => exact .ty n
  | cls c hc => exact .cls c hc
  | pur => exact .pur
  | scr h => exact .scr (sq_l e h)
  | tup h l r ih => exact .tup (sq_t e h) l ih
  | lst h l r ih => exact .lst (e _ _ h) l ih
  | obj hc h lk l r ih => exact .obj hc (e _ _ h) lk l ih
  | exc hc h hk hf h2 hx lk l r ih => exact .exc hc (e _ _ h) hk hf h2 (hx.imp (fun z => ⟨z.1, e _ _ z.2⟩) id) lk l ih
  | dct h lk l r ih => exact .dct (e _ _ h) lk l ih
  | ecl c hc => exact .ecl c hc
  | ndc h hx lk lv l hk rv rk r ihk ih => exact .ndc (e _ _ h) hx lk lv l hk rv ihk ih
theorem Reps.mono {vs : List V} {ds : List D} (e : Same F F') (h : Reps W p F vs ds) : Reps W p F' vs ds := ⟨h.1, fun i v d a b => (h.2 i v d a b).mono e⟩
theorem DctR.mono {xs : List (NestedKey × Addr × Value)} {vs : List V} {ks ds : List D} (e : Same F F') (h : DctR W p F xs vs ks ds) : DctR W p F' xs vs ks ds := ⟨h.lk, h.lv, h.l, h.hk, h.rv, fun i x d a b => (h.rk i x d a b).mono e, fun i v d a b => (h.r i v d a b).mono e⟩
theorem Reps.nil : Reps W p F [] [] := ⟨rfl, fun i v d a _ => by simp at a⟩
theorem Reps.cons {v : V} {d : D} {vs : List V} {ds : List D} (h : Rep W p F v d) (r : Reps W p F vs ds) : Reps W p F (v :: vs) (d :: ds) := by
  refine ⟨by simp [r.1], fun i x y a b => ?_⟩
  cases i with
  | zero =>
    simp at a b
    subst a; subst b
    exact h
  | succ i =>
    simp at a b
    exact r.2 i x y a b
theorem Reps.uncons {vs : List V} {d : D} {ds : List D} (r : Reps W p F vs (d :: ds)) : ∃ v vr, vs = v :: vr ∧ Rep W p F v d ∧ Reps W p F vr ds := by
  obtain ⟨l, r⟩ := r
  cases vs with
  | nil => simp at l
  | cons v vr => exact ⟨v, vr, rfl, r 0 v d rfl rfl, by simpa using l, fun i x y a b => r (i + 1) x y (by simpa using a) (by simpa using b)⟩
theorem Reps.none {vs : List V} (r : Reps W p F vs []) : vs = [] := by
  cases vs with
  | nil => rfl
  | cons v vr => have := r.1; simp at this
theorem Reps.append {vs ws : List V} {ds es : List D} (a : Reps W p F vs ds) (b : Reps W p F ws es) : Reps W p F (vs ++ ws) (ds ++ es) := by
  refine ⟨by simp [a.1, b.1], fun i v d h1 h2 => ?_⟩
  by_cases hi : i < vs.length
  · rw [List.getElem?_append_left hi] at h1
    rw [List.getElem?_append_left (by rw [← a.1]; exact hi)] at h2
    exact a.2 i v d h1 h2
  · rw [List.getElem?_append_right (by omega)] at h1
    rw [List.getElem?_append_right (by rw [← a.1]; omega)] at h2
    rw [a.1] at h1
    exact b.2 _ v d h1 h2
theorem Reps.get {vs : List V} {ds : List D} {i : Nat} {d : D} (a : Reps W p F vs ds) (h : ds[i]? = some d) : ∃ v, vs[i]? = some v ∧ Rep W p F v d := by
  have hi : i < vs.length := by
    have := (List.getElem?_eq_some_iff.mp h).1
    rw [a.1]; exact this
  exact ⟨vs[i], List.getElem?_eq_getElem hi, a.2 i _ d (List.getElem?_eq_getElem hi) h⟩

/-! ### steps of the heap -/
structure Stp (p : Addr) (F H F' H' : Hp) : Prop where
  ef : Same F F'
  eh : ∀ a o, a ≠ p → H a = some o → (TB.loose = false ∨ ∀ ps, o ≠ .tbl ps) → H' a = some o
  et : ∀ a ps, a ≠ p → H a = some (.tbl ps) → ∃ qs, H' a = some (.tbl qs)
  nw : ∀ a o, F' a = some o → F a = some o ∨ H a = none
structure Gd (p : Addr) (u : PuS) (F H : Hp) : Prop where
  ex : Same F H
  pu : H p = some u.ho
  off : ∀ l, u = .real l → F p = none
  nt : ∀ a ps, F a ≠ some (.tbl ps)
  tb : LamX.Tabs TB.T H
  hp : ∀ ps, u.ho ≠ .tbl ps
theorem tbl_or (o : HO) : (∃ ps, o = .tbl ps) ∨ ∀ ps, o ≠ .tbl ps := by
  cases o with
  | tbl ps => exact .inl ⟨ps, rfl⟩
  | _ => exact .inr fun ps z => by cases z
theorem Stp.kept (s : Stp p F H F1 H1) {a : Addr} (ha : a ≠ p) (h : H a ≠ none) : H1 a ≠ none := by
  cases q : H a with
  | none => exact absurd q h
  | some o =>
    rcases tbl_or o with ⟨ps, rfl⟩ | n
    · obtain ⟨qs, e⟩ := s.et a ps ha q
      rw [e]; simp
    · rw [s.eh a o ha q (.inr n)]; simp
theorem Stp.refl : Stp p F H F H := ⟨fun _ _ h => h, fun _ _ _ h _ => h, fun _ ps _ h => ⟨ps, h⟩, fun _ _ h => .inl h⟩
theorem Stp.trans (s : Stp p F H F1 H1) (g : H1 p ≠ none) (t : Stp p F1 H1 F2 H2) : Stp p F H F2 H2 := by
  refine ⟨s.ef.trans t.ef, fun a o h e n => t.eh a o h (s.eh a o h e n) n, fun a ps h e => ?_, fun a o e => ?_⟩
  · obtain ⟨qs, e1⟩ := s.et a ps h e
    exact t.et a qs h e1
  rcases t.nw a o e with h | h
  · exact s.nw a o h
  · right
    cases q : H a with
    | none => rfl
    | some x =>
      by_cases ha : a = p
      · subst ha; exact absurd h g
      · exact absurd h (s.kept ha (by rw [q]; simp))
theorem Gd.ne (g : Gd p u F H) : H p ≠ none := by rw [g.pu]; simp
theorem grow {q : Addr} {o : HO} (h : H q = none) : ∀ b x, H b = some x → upd H q o b = some x := fun b x e => by rw [upd_ne (ne_of_none e h)]; exact e
/-- what is written over an object that is neither a table nor a code object leaves the tables -/
theorem tabs_over {T : List (Addr × Str)} {q : Addr} {o : HO} {xs : List V} (hq : H q = some (.lst xs)) (t : LamX.Tabs T H) : LamX.Tabs T (upd H q o) := fun P hP => by
  obtain ⟨ps, h1, h2, h3⟩ := t P hP
  refine ⟨ps, by rw [upd_ne (fun z => by rw [z, hq] at h1; cases h1)]; exact h1, h2, fun ps2 cv e => ?_⟩
  obtain ⟨c, e1, e2⟩ := h3 ps2 cv e
  exact ⟨c, e1, by rw [upd_ne (fun z => by rw [z, hq] at e2; have := Option.some.inj e2; unfold LamX.CodeO at this; cases this)]; exact e2⟩
theorem tabs_overI {T : List (Addr × Str)} {q : Addr} {o : HO} {C dx : Addr} {fs : List (Str × V)} (hq : H q = some (.ins C dx fs)) (t : LamX.Tabs T H) : LamX.Tabs T (upd H q o) := fun P hP => by
  obtain ⟨ps, h1, h2, h3⟩ := t P hP
  refine ⟨ps, by rw [upd_ne (fun z => by rw [z, hq] at h1; cases h1)]; exact h1, h2, fun ps2 cv e => ?_⟩
  obtain ⟨c, e1, e2⟩ := h3 ps2 cv e
  exact ⟨c, e1, by rw [upd_ne (fun z => by rw [z, hq] at e2; have := Option.some.inj e2; unfold LamX.CodeO at this; cases this)]; exact e2⟩
theorem nt_upd {q : Addr} {o : HO} (g : ∀ a ps, F a ≠ some (.tbl ps)) (no : ∀ ps, o ≠ .tbl ps) : ∀ a ps, upd F q o a ≠ some (.tbl ps) := fun a ps z => by
  by_cases ha : a = q
  · subst ha; rw [upd_same] at z; exact no ps (Option.some.inj z)
  · rw [upd_ne ha] at z; exact g a ps z
theorem Gd.new {q : Addr} {o : HO} (g : Gd p u F H) (h : H q = none) (no : ∀ ps, o ≠ .tbl ps := by intro _ z; cases z) : Gd p u (upd F q o) (upd H q o) := by
  have hq : p ≠ q := fun e => g.ne (e ▸ h)
  refine ⟨fun a x e => ?_, by rw [upd_ne hq]; exact g.pu, fun l e => by rw [upd_ne hq]; exact g.off l e, nt_upd g.nt no, g.tb.ext (grow h), g.hp⟩
  by_cases ha : a = q
  · subst ha; rw [upd_same] at e ⊢; exact e
  · rw [upd_ne ha] at e ⊢; exact g.ex a x e
theorem Stp.new {q : Addr} {o : HO} (g : Gd p u F H) (h : H q = none) : Stp p F H (upd F q o) (upd H q o) := by
  refine ⟨fun a x e => ?_, fun a x _ e _ => ?_, fun a ps _ e => ⟨ps, grow h a _ e⟩, fun a x e => ?_⟩
  · rw [upd_ne (ne_of_none (g.ex a x e) h)]; exact e
  · rw [upd_ne (ne_of_none e h)]; exact e
  · by_cases ha : a = q
    · subst ha; exact .inr h
    · rw [upd_ne ha] at e; exact .inl e
/-- a new object that is not frozen -/
theorem Gd.own {q : Addr} {o : HO} (g : Gd p u F H) (h : H q = none) : Gd p u F (upd H q o) := by
  have hq : p ≠ q := fun e => g.ne (e ▸ h)
  exact ⟨fun a x e => by rw [upd_ne (ne_of_none (g.ex a x e) h)]; exact g.ex a x e, by rw [upd_ne hq]; exact g.pu, g.off, g.nt, g.tb.ext (grow h), g.hp⟩
theorem Stp.own {q : Addr} {o : HO} (h : H q = none) : Stp p F H F (upd H q o) :=
  ⟨fun _ _ e => e, fun a x _ e _ => by rw [upd_ne (ne_of_none e h)]; exact e, fun a ps _ e => ⟨ps, grow h a _ e⟩, fun _ _ e => .inl e⟩
theorem Gd.fresh {q : Addr} (g : Gd p u F H) (h : H q = none) : F q = none := by
  cases e : F q with
  | none => rfl
  | some o => rw [g.ex q o e] at h; cases h
theorem Stp.off {q : Addr} (s : Stp p F H F' H') (h : F q = none) (h' : H q ≠ none) : F' q = none := by
  cases e : F' q with
  | none => rfl
  | some o =>
    rcases s.nw q o e with z | z
    · rw [h] at z; cases z
    · exact absurd z h'
end

/-! ### slots -/
inductive Sd where
  | un | sh (d : D) | ow (ds : List D) | oi (c : Str) (ks : List Str) (ds : List D) | od (ks ds : List D)
  /-- an own dict whose keys are numbers -/
  | oz (ks : List Int) (ds : List D)
abbrev Env := List Sd
def Sd.own : Sd → Bool
  | .ow _ => true
  | .oi _ _ _ => true
  | .od _ _ => true
  | .oz _ _ => true
  | _ => false
/-- where a body runs: entered at F0, H0; sf: the object that is being made -/
structure Cf where
  W : Wo
  p : Addr
  F0 : Hp
  H0 : Hp
  sf : Addr
  xw : WX
def SdOk (c : Cf) (F H : Hp) (x : Option (Option V)) : Sd → Prop
  | .un => True
  | .sh d => ∃ v, x = some (some v) ∧ Rep c.W c.p F v d
  | .ow ds => ∃ q vs, x = some (some (.ref q)) ∧ H q = some (.lst vs) ∧ F q = none ∧ q ≠ c.p ∧ c.H0 q = none ∧ Reps c.W c.p F vs ds
  | .oi k ks ds => ∃ dx vs, x = some (some (.ref c.sf)) ∧ H c.sf = some (.ins (c.W.cl k) dx (ks.zip vs)) ∧ F c.sf = none ∧ c.sf ≠ c.p ∧ c.H0 c.sf = none ∧ ks.length = vs.length ∧ Reps c.W c.p F vs ds
  | .od ks ds => ∃ q o xs vs, x = some (some (.ref q)) ∧ H q = some (dxO q o) ∧ F q = none ∧ q ≠ c.p ∧ c.H0 q = none ∧ DxO q o xs ∧ DctR c.W c.p F xs vs ks ds
  | .oz ks ds => ∃ q vs, x = some (some (.ref q)) ∧ H q = some (.dK ((ks.map Sum.inl).zip vs)) ∧ F q = none ∧ q ≠ c.p ∧ c.H0 q = none ∧ (ks.length = vs.length ∧ ks.Nodup) ∧ Reps c.W c.p F vs ds
structure EnvOk (c : Cf) (F H : Hp) (σ : L2.St) (ρ : Env) : Prop where
  len : σ.length = ρ.length
  at_ : ∀ (i : Nat) (s : Sd), ρ[i]? = some s → SdOk c F H σ[i]? s
  ne : ∀ (i j : Nat) (s t : Sd), i ≠ j → ρ[i]? = some s → ρ[j]? = some t → s.own = true → t.own = true → σ[i]? ≠ σ[j]?
structure Sta (c : Cf) (u : PuS) (F H : Hp) (σ : L2.St) (ρ : Env) : Prop where
  ent : Stp c.p c.F0 c.H0 F H
  gd : Gd c.p u F H
  env : EnvOk c F H σ ρ
section
variable {c : Cf} {u u' : PuS} {F H F' H' : Hp} {σ : L2.St} {ρ : Env}
theorem SdOk.step {x : Option (Option V)} {s : Sd} (h : SdOk c F H x s) (t : Stp c.p F H F' H') : SdOk c F' H' x s := by
  cases s with
  | un => trivial
  | sh d => obtain ⟨v, e, r⟩ := h; exact ⟨v, e, r.mono t.ef⟩
  | ow ds => obtain ⟨q, vs, e, hq, hf, hp, h0, r⟩ := h; exact ⟨q, vs, e, t.eh q _ hp hq (.inr (by intro _ z; cases z)), t.off hf (by rw [hq]; simp), hp, h0, r.mono t.ef⟩
  | oi k ks ds => obtain ⟨dx, vs, e, hq, hf, hp, h0, hl, r⟩ := h; exact ⟨dx, vs, e, t.eh _ _ hp hq (.inr (by intro _ z; cases z)), t.off hf (by rw [hq]; simp), hp, h0, hl, r.mono t.ef⟩
  | od ks ds => obtain ⟨q, o, xs, vs, e, hq, hf, hp, h0, hx, r⟩ := h; exact ⟨q, o, xs, vs, e, t.eh _ _ hp hq (.inr (by intro _ z; cases z)), t.off hf (by rw [hq]; simp), hp, h0, hx, r.mono t.ef⟩
  | oz ks ds => obtain ⟨q, vs, e, hq, hf, hp, h0, hl, r⟩ := h; exact ⟨q, vs, e, t.eh q _ hp hq (.inr (by intro _ z; cases z)), t.off hf (by rw [hq]; simp), hp, h0, hl, r.mono t.ef⟩
theorem Sta.step (s : Sta c u F H σ ρ) (t : Stp c.p F H F' H') (g : Gd c.p u' F' H') : Sta c u' F' H' σ ρ :=
  ⟨s.ent.trans s.gd.ne t, g, s.env.len, fun i x e => (s.env.at_ i x e).step t, s.env.ne⟩
end

/-! ### mirrors -/
abbrev M (α : Type) := PuS → Option (α × PuS)
def M.pure {α : Type} (a : α) : M α := fun u => some (a, u)
def M.bind {α β : Type} (m : M α) (f : α → M β) : M β := fun u => match m u with
  | some (a, u') => f a u'
  | none => none
def lft {α : Type} (o : Option α) : M α := fun u => o.map fun a => (a, u)
instance : Monad M where
  pure := M.pure
  bind := M.bind
/-- what is wanted behind a mirror's step -/
def After {α : Type} (p : Addr) (F H : Hp) (r : Option (α × PuS)) (Φ : α → PuS → Hp → Hp → Prop) : Prop := match r with
  | some (a, u') => ∀ F' H', Stp p F H F' H' → Gd p u' F' H' → Φ a u' F' H'
  | none => False
section
variable {α β : Type} {p : Addr} {F H : Hp} {u : PuS}
theorem After.imp {r : Option (α × PuS)} {Φ Ψ : α → PuS → Hp → Hp → Prop} (h : After p F H r Φ) (k : ∀ a u' F' H', r = some (a, u') → Stp p F H F' H' → Gd p u' F' H' → Φ a u' F' H' → Ψ a u' F' H') : After p F H r Ψ := by
  cases r with
  | none => exact h
  | some x => obtain ⟨a, u'⟩ := x; exact fun F' H' s g => k a u' F' H' rfl s g (h F' H' s g)
theorem After.split {m : M α} {f : α → M β} {Φ : β → PuS → Hp → Hp → Prop} (h : After p F H (M.bind m f u) Φ) : After p F H (m u) fun a u1 F1 H1 => After p F1 H1 (f a u1) Φ := by
  unfold M.bind at h
  cases e : m u with
  | none => rw [e] at h; exact h
  | some x =>
    obtain ⟨a, u1⟩ := x
    rw [e] at h
    intro F1 H1 s g
    show After p F1 H1 (f a u1) Φ
    have h2 : After p F H (f a u1) Φ := h
    cases e2 : f a u1 with
    | none => rw [e2] at h2; exact h2
    | some y =>
      obtain ⟨b, u2⟩ := y
      rw [e2] at h2
      exact fun F2 H2 s2 g2 => h2 F2 H2 (s.trans g.ne s2) g2
theorem After.now {a : α} {Φ : α → PuS → Hp → Hp → Prop} (g : Gd p u F H) (h : After p F H (some (a, u)) Φ) : Φ a u F H := h F H Stp.refl g
end

abbrev ME := Env → M D
abbrev MT := Env → M Bool
abbrev MA := Env → M (List D)
inductive Fl where
  | nx (ρ : Env) | rt (d : D) | bk (ρ : Env) | ct (ρ : Env) | rl (ds : List D)
  | ex (ρ : Env) (c : Str) (ks : List Str) (ds : List D)
abbrev MS := Env → M Fl
abbrev MG := D → Env → Option Env

def rdE (c : Cf) (m : ME) : TE := fun σ H Q => ∃ F u ρ, Sta c u F H σ ρ ∧ After c.p F H (m ρ u) fun d _ F' H' => ∀ v, Rep c.W c.p F' v d → Q v H'
def rdT (c : Cf) (m : MT) : TT := fun σ H Q => ∃ F u ρ, Sta c u F H σ ρ ∧ After c.p F H (m ρ u) fun b _ _ H' => Q b H'
def rdA (c : Cf) (m : MA) : TA := fun σ H Q => ∃ F u ρ, Sta c u F H σ ρ ∧ After c.p F H (m ρ u) fun ds _ F' H' => ∀ vs, Reps c.W c.p F' vs ds → Q vs H'
/-- a fresh list, not frozen -/
def rdL (c : Cf) (m : MA) : TE := fun σ H Q => ∃ F u ρ, Sta c u F H σ ρ ∧ After c.p F H (m ρ u) fun ds _ F' H' => ∀ q vs, F' q = none → H q = none → H' q = some (.lst vs) → Reps c.W c.p F' vs ds → Q (.ref q) H'
/-- what is known of an error in flight: its class, its dict -/
def ExRep (W : Wo) (p : Addr) (F : Hp) (k : Str) (ks : List Str) (ds : List D) (cls : Value) (od : Option Addr) : Prop :=
  cls = .ref (W.cl k) ∧ k ∈ errs ∧ ∃ vs, ks.length = vs.length ∧ Reps W p F vs ds ∧ ((∃ dx, od = some dx ∧ F dx = some (.xd (ks.zip vs))) ∨ (od = none ∧ ks = []))
/-- no error is let out -/
abbrev noX : WX := fun _ _ _ _ => False
def flow (c : Cf) (F : Hp) (Dn : Ends) : Fl → PuS → Prop := fun f u' => match f with
  | .nx ρ' => ∀ σ' F' H', Same F F' → Sta c u' F' H' σ' ρ' → Dn.nx σ' H'
  | .bk ρ' => ∀ σ' F' H', Same F F' → Sta c u' F' H' σ' ρ' → Dn.bk σ' H'
  | .ct ρ' => ∀ σ' F' H', Same F F' → Sta c u' F' H' σ' ρ' → Dn.ct σ' H'
  | .rt d => ∀ v F' H', Stp c.p c.F0 c.H0 F' H' → Gd c.p u' F' H' → Rep c.W c.p F' v d → Dn.rt v H'
  | .rl ds => ∀ q vs F' H', Stp c.p c.F0 c.H0 F' H' → Gd c.p u' F' H' → F' q = none → c.H0 q = none → H' q = some (.lst vs) → Reps c.W c.p F' vs ds → Dn.rt (.ref q) H'
  | .ex ρ' k ks ds => ∀ σ' F' H' cls od, Same F F' → Sta c u' F' H' σ' ρ' → ExRep c.W c.p F' k ks ds cls od → c.xw cls od σ' H'
def flowO (c : Cf) (F : Hp) (Dn : Ends) : Option (Fl × PuS) → Prop
  | some (f, u') => flow c F Dn f u'
  | none => False
def rdS (c : Cf) (m : MS) : TS := fun Dn σ H => ∃ F u ρ, Sta c u F H σ ρ ∧ flowO c F Dn (m ρ u)
/-- two slot lists that differ at most at these places -/
def Agr (is : List Nat) (σ σ' : L2.St) : Prop := σ'.length = σ.length ∧ ∀ j, j ∉ is → σ'[j]? = σ[j]?
def rdG (c : Cf) (is : List Nat) (m : MG) : TG := fun v σ H Q => ∃ F u ρ d, Sta c u F H σ ρ ∧ Rep c.W c.p F v d ∧ match m d ρ with
  | some ρ' => ∀ σ', Sta c u F H σ' ρ' → Agr is σ σ' → Q σ' H
  | none => False
def rdGs (c : Cf) (is : List Nat) (m : List D → Env → Option Env) : TGs := fun vs σ H Q => ∃ F u ρ ds, Sta c u F H σ ρ ∧ Reps c.W c.p F vs ds ∧ match m ds ρ with
  | some ρ' => ∀ σ', Sta c u F H σ' ρ' → Agr is σ σ' → Q σ' H
  | none => False
/-- what a walk over data gives -/
def WalkD (W : Wo) (p : Addr) (J : It) (F : Hp) (ds : List D) : Prop := ∃ (G : Hp → Prop) (Y : Nat → Hp → V → Hp → Prop), Walk J ds.length G Y ∧ (∀ H, Same F H → G H) ∧
  ∀ (i : Nat) (H : Hp) (x : V) (H' F2 : Hp) (u : PuS) (d : D), ds[i]? = some d → Same F F2 → Gd p u F2 H → Y i H x H' → ∃ F3, Stp p F2 H F3 H' ∧ Gd p u F3 H' ∧ Rep W p F3 x d
def rdI (c : Cf) (m : MA) : TI := fun σ H R => ∃ F u ρ, Sta c u F H σ ρ ∧ After c.p F H (m ρ u) fun ds _ F' H' => ∀ J, WalkD c.W c.p J F' ds → R J H'
/-- a def's promise by its mirror -/
def spM (W : Wo) (n : Nat) (mf : List D → M D) : Sp := fun vs H Q _ => vs.length = n ∧ ∃ p F u ds, Gd p u F H ∧ Reps W p F vs ds ∧ After p F H (mf ds u) fun d _ F' H' => ∀ v, Rep W p F' v d → Q v H'

/-! ### the judgements -/
theorem _root_.L2.PE.imp {X : Cx} {e : Expr} {t t' : TE} (h : PE X e t) (k : ∀ σ H Q, t' σ H Q → t σ H Q) : PE X e t' := ⟨fun pins s σ H Q I q => h.run pins s σ H Q I (k σ H Q q)⟩
theorem _root_.L2.PT.imp {X : Cx} {e : Expr} {t t' : TT} (h : PT X e t) (k : ∀ σ H Q, t' σ H Q → t σ H Q) : PT X e t' := ⟨fun pins s σ H Q I q => h.run pins s σ H Q I (k σ H Q q)⟩
theorem _root_.L2.PW.imp {X : Cx} {e : Expr} {t t' : TT} (h : PW X e t) (k : ∀ σ H Q, t' σ H Q → t σ H Q) : PW X e t' := ⟨fun wh pins s σ H Q I q => h.run wh pins s σ H Q I (k σ H Q q)⟩
theorem _root_.L2.PA.imp {X : Cx} {e : List Expr} {t t' : TA} (h : PA X e t) (k : ∀ σ H Q, t' σ H Q → t σ H Q) : PA X e t' := ⟨fun pos pins s σ H Q I q => h.run pos pins s σ H Q I (k σ H Q q)⟩
theorem _root_.L2.PS.imp {X : Cx} {e : Stmt} {t t' : TS} (h : PS X e t) (k : ∀ Dn σ H, t' Dn σ H → t Dn σ H) : PS X e t' := ⟨fun pins s σ H Dn I q => h.run pins s σ H Dn I (k Dn σ H q)⟩
theorem _root_.L2.PSs.imp {X : Cx} {e : List Stmt} {t t' : TS} (h : PSs X e t) (k : ∀ Dn σ H, t' Dn σ H → t Dn σ H) : PSs X e t' := ⟨fun pins s σ H Dn I q => h.run pins s σ H Dn I (k Dn σ H q)⟩
theorem _root_.L2.PG.imp {X : Cx} {e : Expr} {t t' : TG} (h : PG X e t) (k : ∀ v σ H Q, t' v σ H Q → t v σ H Q) : PG X e t' := ⟨fun pins s σ H v u Q I r q => h.run pins s σ H v u Q I r (k v σ H Q q)⟩
theorem _root_.L2.PGs.imp {X : Cx} {e : List Expr} {t t' : TGs} (h : PGs X e t) (k : ∀ v σ H Q, t' v σ H Q → t v σ H Q) : PGs X e t' := ⟨fun pins s σ H v u Q I r q => h.run pins s σ H v u Q I r (k v σ H Q q)⟩
theorem _root_.L2.PI.imp {X : Cx} {tg e : Expr} {t t' : TI} (h : PI X tg e t) (k : ∀ σ H R, t' σ H R → t σ H R) : PI X tg e t' := ⟨fun pins s σ H R I q => h.run pins s σ H R I (k σ H R q)⟩
theorem _root_.L2.PTs.imp {X : Cx} {e : List Expr} {t t' : TT} (h : PTs X e t) (k : ∀ σ H Q, t' σ H Q → t σ H Q) : PTs X e t' := ⟨fun pins s σ H Q I q => h.run pins s σ H Q I (k σ H Q q)⟩

abbrev DE (X : Cx) (c : Cf) (e : Expr) (m : ME) : Prop := PE X e (rdE c m)
abbrev DT (X : Cx) (c : Cf) (e : Expr) (m : MT) : Prop := PT X e (rdT c m)
abbrev DA (X : Cx) (c : Cf) (e : List Expr) (m : MA) : Prop := PA X e (rdA c m)
abbrev DL (X : Cx) (c : Cf) (e : Expr) (m : MA) : Prop := PE X e (rdL c m)
abbrev DS (X : Cx) (c : Cf) (e : Stmt) (m : MS) : Prop := PS X e (rdS c m)
abbrev DB (X : Cx) (c : Cf) (e : List Stmt) (m : MS) : Prop := PSs X e (rdS c m)
end Mi

set_option Elab.async false
set_option linter.all false
set_option maxRecDepth 100000
set_option maxHeartbeats 2000000
/-! Mi1: expressions. -/
namespace Mi
open PySem PySem.Spec PyProof.Rows L2
variable [TB : Tabl]

section
variable {W : Wo} {p : Addr} {F H : Hp}
theorem Rep.int_ {v : V} {i : Int} (h : Rep W p F v (.int i)) : v = .int i := by cases h; rfl
theorem Rep.bl_ {v : V} {i : Bool} (h : Rep W p F v (.bl i)) : v = .bl i := by cases h; rfl
theorem Rep.str_ {v : V} {i : Str} (h : Rep W p F v (.str i)) : v = .str i := by cases h; rfl
theorem Rep.non_ {v : V} (h : Rep W p F v .non) : v = .non := by cases h; rfl
theorem Rep.ty_ {v : V} {n : String} (h : Rep W p F v (.ty n)) : v = .ty n := by cases h; rfl
theorem Rep.tup_ {v : V} {ds : List D} (h : Rep W p F v (.tup ds)) : ∃ a vs, v = .ref a ∧ SqT W.K F a vs ∧ Reps W p F vs ds := by
  cases h with
  | tup h l r => exact ⟨_, _, rfl, h, l, r⟩
theorem Rep.lst_ {v : V} {ds : List D} (h : Rep W p F v (.lst ds)) : ∃ a vs, v = .ref a ∧ F a = some (.lst vs) ∧ Reps W p F vs ds := by
  cases h with
  | lst h l r => exact ⟨_, _, rfl, h, l, r⟩
theorem Rep.obj_ {v : V} {c : Str} {ks : List Str} {ds : List D} (h : Rep W p F v (.obj c ks ds)) : ∃ a dx vs, v = .ref a ∧ F a = some (.ins (W.cl c) dx (ks.zip vs)) ∧ ks.length = vs.length ∧ Reps W p F vs ds := by
  cases h with
  | obj hc h lk l r => exact ⟨_, _, _, rfl, h, lk, l, r⟩
theorem Rep.objc {v : V} {c : Str} {ks : List Str} {ds : List D} (h : Rep W p F v (.obj c ks ds)) : c ∈ W.cs := by
  cases h with
  | obj hc h lk l r => exact hc
theorem Rep.cls_ {v : V} {c : Str} (h : Rep W p F v (.cls c)) : v = .ref (W.cl c) ∧ c ∈ W.cs := by
  cases h with
  | cls _ hc => exact ⟨rfl, hc⟩
theorem Rep.scr_ {v : V} {ns : List Int} (h : Rep W p F v (.scr ns)) : ∃ a, v = .ref a ∧ SqL W.K F a (ns.map V.int) := by
  cases h with
  | scr h => exact ⟨_, rfl, h⟩
theorem Rep.mkT {a : Addr} {vs : List V} {ds : List D} (h : F a = some (.tup vs)) (r : Reps W p F vs ds) : Rep W p F (.ref a) (.tup ds) := .tup (SqT.of h) r.1 r.2
theorem Rep.mkL {a : Addr} {vs : List V} {ds : List D} (h : F a = some (.lst vs)) (r : Reps W p F vs ds) : Rep W p F (.ref a) (.lst ds) := .lst h r.1 r.2
end

/-! ### names, constants -/
def vSh (ρ : Env) (i : Nat) : Option D := match ρ[i]? with
  | some (.sh d) => some d
  | _ => none
def mVar (i : Nat) : ME := fun ρ => lft (vSh ρ i)
def mC (d : D) : ME := fun _ => M.pure d
section
variable {X : Cx} {c : Cf} {pos : Pos}
theorem lft_some {α : Type} {o : Option α} {u : PuS} {p : Addr} {F H : Hp} {Φ : α → PuS → Hp → Hp → Prop} (h : After p F H (lft o u) Φ) : ∃ a, o = some a ∧ After p F H (some (a, u)) Φ := by
  cases o with
  | none => exact absurd h (by intro z; exact z)
  | some a => exact ⟨a, rfl, h⟩
theorem Sta.var {u : PuS} {F H : Hp} {σ : L2.St} {ρ : Env} {i : Nat} {d : D} (S : Sta c u F H σ ρ) (e : vSh ρ i = some d) : ∃ v, σ[i]? = some (some v) ∧ Rep c.W c.p F v d := by
  unfold vSh at e
  cases q : ρ[i]? with
  | none => rw [q] at e; cases e
  | some s =>
    rw [q] at e
    cases s with
    | sh d' => cases e; exact S.env.at_ i _ q
    | _ => cases e
theorem dVar (i : Nat) {x : Str} (hN : X.N[i]? = some x := by rfl) (hv : Vis X.env.scope x := by first | exact Or.inl rfl | exact Or.inr (Or.inl rfl) | exact Or.inr (Or.inr rfl)) (hd : (x == ("__debug__" : Str)) = false := by decide)
    (hcd : (x == ("__classdict__" : Str)) = false := by decide) : DE X c (.Name x pos) (mVar i) :=
  (pe_var hN hv hd hcd).imp fun σ H Q ⟨F, u, ρ, S, h⟩ => by
    obtain ⟨d, e, h⟩ := lft_some h
    obtain ⟨v, e1, r⟩ := S.var e
    exact ⟨v, e1, After.now S.gd h v r⟩
theorem dC_of {e : Expr} {v : V} {d : D} (h : PE X e (tC v)) (r : ∀ F, Rep c.W c.p F v d) : DE X c e (mC d) := h.imp fun σ H Q ⟨F, u, ρ, S, q⟩ => After.now S.gd q v (r F)
theorem dInt {i : Int} {j} : DE X c (.Constant (.int i) j pos) (mC (.int i)) := dC_of pe_int fun _ => .int i
theorem dBl {b : Bool} {j} : DE X c (.Constant (.bool b) j pos) (mC (.bl b)) := dC_of pe_bl fun _ => .bl b
theorem dNon {j} : DE X c (.Constant .none j pos) (mC .non) := dC_of pe_non fun _ => .non
theorem dStr {x : Str} {j} : DE X c (.Constant (.str x) j pos) (mC (.str x)) := dC_of pe_str fun _ => .str x
/-- a module's constant -/
theorem dGI {x : Str} {i : Int} {t : Tok} (hg : Gl X x) (hm : X.mg x = some (.int i t)) (hd : (x == ("__debug__" : Str)) = false := by decide) : DE X c (.Name x pos) (mC (.int i)) := dC_of (pe_glob (v := .int i) hg hm ⟨t, rfl⟩ hd) fun _ => .int i
theorem dGS {x : Str} {i : Str} {t : Tok} (hg : Gl X x) (hm : X.mg x = some (.str i t)) (hd : (x == ("__debug__" : Str)) = false := by decide) : DE X c (.Name x pos) (mC (.str i)) := dC_of (pe_glob (v := .str i) hg hm ⟨t, rfl⟩ hd) fun _ => .str i
theorem dGC {x k : Str} (hc : k ∈ c.W.cs) (hg : Gl X x) (hm : X.mg x = some (.ref (c.W.cl k))) (hd : (x == ("__debug__" : Str)) = false := by decide) : DE X c (.Name x pos) (mC (.cls k)) := dC_of (pe_glob (v := .ref (c.W.cl k)) hg hm rfl hd) fun _ => .cls k hc
theorem dTy {x : Str} {n : String} (hg : Gl X x) (hm : X.mg x = none) (hv : bootBuiltins x = some (.type n)) (hn : x ≠ "__name__" := by decide) (hd : (x == ("__debug__" : Str)) = false := by decide) : DE X c (.Name x pos) (mC (.ty n)) :=
  dC_of (pe_bltn (v := .ty n) hg hm hv rfl hn hd) fun _ => .ty n
end

/-! ### operators -/
/-- a mirror of an operator on values -/
def OpM (W : Wo) (r : R2) (f : D → D → Option D) : Prop := ∀ (p : Addr) (F H : Hp) (u : PuS) (x y : V) (a b : D) (Q : VK), Gd p u F H → Rep W p F x a → Rep W p F y b →
  After p F H (lft (f a b) u) (fun d _ F' H' => ∀ v, Rep W p F' v d → Q v H') → r x y H Q
def UnM (W : Wo) (r : V → Hp → VK → Prop) (f : D → Option D) : Prop := ∀ (p : Addr) (F H : Hp) (u : PuS) (x : V) (a : D) (Q : VK), Gd p u F H → Rep W p F x a →
  After p F H (lft (f a) u) (fun d _ F' H' => ∀ v, Rep W p F' v d → Q v H') → r x H Q
def CallM (W : Wo) (r : List V → Hp → VK → Prop) (f : List D → Option D) : Prop := ∀ (p : Addr) (F H : Hp) (u : PuS) (xs : List V) (as : List D) (Q : VK), Gd p u F H → Reps W p F xs as →
  After p F H (lft (f as) u) (fun d _ F' H' => ∀ v, Rep W p F' v d → Q v H') → r xs H Q
def mBin (f : D → D → Option D) (ma mb : ME) : ME := fun ρ => M.bind (ma ρ) fun x => M.bind (mb ρ) fun y => lft (f x y)
def mUn (f : D → Option D) (ma : ME) : ME := fun ρ => M.bind (ma ρ) fun x => lft (f x)
def mCB (f : List D → Option D) (ms : MA) : ME := fun ρ => M.bind (ms ρ) fun xs => lft (f xs)
def mNil : MA := fun _ => M.pure []
def mCons (m : ME) (ms : MA) : MA := fun ρ => M.bind (m ρ) fun x => M.bind (ms ρ) fun xs => M.pure (x :: xs)
section
variable {X : Cx} {c : Cf} {pos : Pos} {a b e : Expr} {es : List Expr} {ma mb m : ME} {ms : MA} {r : R2}
theorem rd2 {f : D → D → Option D} (hm : OpM c.W r f) : ∀ σ H Q, rdE c (mBin f ma mb) σ H Q → tOp r (rdE c ma) (rdE c mb) σ H Q := fun σ H Q ⟨F, u, ρ, S, h⟩ =>
  ⟨F, u, ρ, S, (After.split h).imp fun x u1 F1 H1 _ s1 g1 h1 v rv => ⟨F1, u1, ρ, S.step s1 g1, (After.split h1).imp fun y u2 F2 H2 _ s2 g2 h2 w rw => hm c.p F2 H2 u2 v w x y Q g2 (rv.mono s2.ef) rw h2⟩⟩
theorem dBin {op : Operator} {f : D → D → Option D} (ho : OpR X (binaryOp op) r) (hm : OpM c.W r f) (ha : DE X c a ma) (hb : DE X c b mb) : DE X c (.BinOp a op b pos) (mBin f ma mb) := (pe_op ho ha hb).imp (rd2 hm)
theorem dCmp {op : CmpOp} {f : D → D → Option D} (ho : OpR X (compareOp op) r) (hm : OpM c.W r f) (ha : DE X c a ma) (hb : DE X c b mb) (hk : behindInMarks op b = false) : DE X c (.Compare a [op] [b] pos) (mBin f ma mb) := (pe_cmpR ho ha hb hk).imp (rd2 hm)
theorem dIx {f : D → D → Option D} (ho : IxR X r) (hm : OpM c.W r f) (ha : DE X c a ma) (hb : DE X c b mb) (hs : PlainIx b := by exact fun _ _ => rfl) : DE X c (.Subscript a b pos) (mBin f ma mb) := (pe_ix ho ha hb hs).imp (rd2 hm)
theorem dUn {op : UnaryOp} {ru : V → Hp → VK → Prop} {f : D → Option D} (ho : UnR X (unaryOp op) ru) (hm : UnM c.W ru f) (ha : DE X c a ma) : DE X c (.UnaryOp op a pos) (mUn f ma) :=
  (pe_un ho ha).imp fun σ H Q ⟨F, u, ρ, S, h⟩ => ⟨F, u, ρ, S, (After.split h).imp fun x u1 F1 H1 _ s1 g1 h1 v rv => hm c.p F1 H1 u1 v x Q g1 rv h1⟩
theorem dNil : DA X c [] mNil := pa_nil.imp fun σ H Q ⟨F, u, ρ, S, h⟩ => After.now S.gd h [] Reps.nil
theorem dCons (ha : DE X c e m) (hr : DA X c es ms) (hs : starEach (e :: es) X.env = (false, eval e X.env) :: starEach es X.env := by rfl) : DA X c (e :: es) (mCons m ms) :=
  (pa_cons ha hr hs).imp fun σ H Q ⟨F, u, ρ, S, h⟩ => ⟨F, u, ρ, S, (After.split h).imp fun x u1 F1 H1 _ s1 g1 h1 v rv => ⟨F1, u1, ρ, S.step s1 g1, (After.split h1).imp fun xs u2 F2 H2 _ s2 g2 h2 vs rvs =>
    After.now g2 h2 (v :: vs) (Reps.cons (rv.mono s2.ef) rvs)⟩⟩
theorem rdCB {rc : List V → Hp → VK → Prop} {f : List D → Option D} (hm : CallM c.W rc f) : ∀ σ H Q, rdE c (mCB f ms) σ H Q → tCB rc (rdA c ms) σ H Q := fun σ H Q ⟨F, u, ρ, S, h⟩ =>
  ⟨F, u, ρ, S, (After.split h).imp fun xs u1 F1 H1 _ s1 g1 h1 vs rvs => hm c.p F1 H1 u1 vs xs Q g1 rvs h1⟩
theorem dCallB {rc : List V → Hp → VK → Prop} {f : List D → Option D} {id : String} {x : Str} {p : Pos} (hm : CallM c.W rc f) (hc : CallR X (.builtin id) rc) (hg : Gl X x) (hmg : X.mg x = none) (hv : bootBuiltins x = some (.builtin id)) (ha : DA X c (e :: es) ms)
    (hn : x ≠ "__name__" := by decide) (hdb : (x == ("__debug__" : Str)) = false := by decide)
    (he : starEach (e :: es) X.env = (false, eval e X.env) :: starEach es X.env := by rfl) (hpl : (backTo pos (starEach es X.env)).any (·.1) = false := by rfl) : DE X c (.Call (.Name x p) (e :: es) [] pos) (mCB f ms) :=
  (pe_callB hc hg hmg hv ha hn hdb he hpl).imp (rdCB hm)
theorem dCallT {rc : List V → Hp → VK → Prop} {f : List D → Option D} {id : String} {x : Str} {p : Pos} (hm : CallM c.W rc f) (hc : CallR X (.type id) rc) (hg : Gl X x) (hmg : X.mg x = none) (hv : bootBuiltins x = some (.type id)) (ha : DA X c (e :: es) ms)
    (hn : x ≠ "__name__" := by decide) (hdb : (x == ("__debug__" : Str)) = false := by decide)
    (he : starEach (e :: es) X.env = (false, eval e X.env) :: starEach es X.env := by rfl) (hpl : (backTo pos (starEach es X.env)).any (·.1) = false := by rfl) : DE X c (.Call (.Name x p) (e :: es) [] pos) (mCB f ms) :=
  (pe_callTy hc hg hmg hv ha hn hdb he hpl).imp (rdCB hm)
end

/-! ### displays -/
def mTup (ms : MA) : ME := fun ρ => M.bind (ms ρ) fun xs => lft (if xs.length ≤ 100000 then some (.tup xs) else none)
def mLstO (ms : MA) : MA := fun ρ => M.bind (ms ρ) fun xs => lft (if xs.length ≤ 100000 then some xs else none)
theorem sz5 {n : Nat} (h : n ≤ 100000) : n ≤ sizeLine := Nat.le_trans h (by decide)
theorem sz5l {n : Nat} (h : n ≤ 100000) : n < sizeLine := Nat.lt_of_le_of_lt h (by decide)
theorem lft_if {α : Type} {b : Prop} [Decidable b] {a : α} {u : PuS} {p : Addr} {F H : Hp} {Φ : α → PuS → Hp → Hp → Prop} (h : After p F H (lft (if b then some a else none) u) Φ) : b ∧ After p F H (some (a, u)) Φ := by
  obtain ⟨a', e, h⟩ := lft_some h
  by_cases hb : b
  · rw [if_pos hb] at e; cases e; exact ⟨hb, h⟩
  · rw [if_neg hb] at e; cases e
section
variable {X : Cx} {c : Cf} {pos : Pos} {es : List Expr} {ms : MA}
theorem dTup {x1} (h : DA X c es ms) : DE X c (.Tuple es x1 pos) (mTup ms) :=
  (pe_tup h).imp fun σ H Q ⟨F, u, ρ, S, h⟩ => ⟨F, u, ρ, S, (After.split h).imp fun xs u1 F1 H1 _ s1 g1 h1 vs rvs => by
    obtain ⟨hl, h2⟩ := lft_if h1
    refine ⟨sz5 (by rw [rvs.1]; exact hl), fun q hq => ?_⟩
    exact h2 _ _ (Stp.new g1 hq) (g1.new hq) _ (Rep.mkT upd_same (rvs.mono (Stp.new g1 hq).ef))⟩
theorem Stp.back {p q : Addr} {F H F' H' : Hp} (s : Stp p F H F' H') (hp : H' p ≠ none) (h : H' q = none) : H q = none := by
  cases e : H q with
  | none => rfl
  | some o =>
    by_cases hq : q = p
    · subst hq; exact absurd h hp
    · exact absurd h (s.kept hq (by rw [e]; simp))
theorem dLstO (h : DA X c es ms) : DL X c (.List es pos) (mLstO ms) :=
  (pe_lst h).imp fun σ H Q ⟨F, u, ρ, S, h⟩ => ⟨F, u, ρ, S, (After.split h).imp fun xs u1 F1 H1 _ s1 g1 h1 vs rvs => by
    obtain ⟨hl, h2⟩ := lft_if h1
    refine ⟨sz5 (by rw [rvs.1]; exact hl), fun q hq => ?_⟩
    exact h2 _ _ (Stp.own hq) (g1.own hq) q vs (g1.fresh hq) (s1.back g1.ne hq) upd_same rvs⟩
end

/-! ### tests -/
def mB (m : ME) : MT := fun ρ => M.bind (m ρ) fun d => match d with
  | .bl b => M.pure b
  | _ => lft none
def mAnd (t v : MT) : MT := fun ρ => M.bind (t ρ) fun b => if b = true then v ρ else M.pure false
def mOr (t v : MT) : MT := fun ρ => M.bind (t ρ) fun b => if b = true then M.pure true else v ρ
def mNot (t : MT) : MT := fun ρ => M.bind (t ρ) fun b => M.pure (!b)
def mIf (t : MT) (ma mb : ME) : ME := fun ρ => M.bind (t ρ) fun b => if b = true then ma ρ else mb ρ
def mAndV (ma mb : ME) : ME := fun ρ => M.bind (ma ρ) fun d => match d with
  | .bl b => if b = true then mb ρ else M.pure (.bl false)
  | _ => lft none
def mOrV (ma mb : ME) : ME := fun ρ => M.bind (ma ρ) fun d => match d with
  | .bl b => if b = true then M.pure (.bl true) else mb ρ
  | _ => lft none
def mNotV (ma : ME) : ME := fun ρ => M.bind (ma ρ) fun d => match d with
  | .bl b => M.pure (.bl (!b))
  | _ => lft none
section
variable {X : Cx} {c : Cf} {pos : Pos} {a b e : Expr} {rest : List Expr} {ma mb m : ME} {t v : MT} {r : R2}
theorem rdB : ∀ σ H Q, rdT c (mB m) σ H Q → tB (rdE c m) σ H Q := fun σ H Q ⟨F, u, ρ, S, h⟩ =>
  ⟨F, u, ρ, S, (After.split h).imp fun d u1 F1 H1 _ s1 g1 h1 w rw => by
    cases d with
    | bl k =>
      have h2 : After c.p F1 H1 (some (k, u1)) (fun b _ _ H' => Q b H') := h1
      exact ⟨k, rw.bl_, After.now g1 h2⟩
    | _ => exact False.elim h1⟩
theorem dTst (h : DE X c e m) (he : ∀ whole, isTrue e X.env whole = (do let v ← whole; standAt e.pos; holding [v] (truthy v)) := by intro _; rfl) : DT X c e (mB m) := (pt_val h he).imp rdB
theorem dTcmp {op : CmpOp} {f : D → D → Option D} (ho : OpR X (compareOp op) r) (hm : OpM c.W r f) (ha : DE X c a ma) (hb : DE X c b mb) (hk : behindInMarks op b = false) : DT X c (.Compare a [op] [b] pos) (mB (mBin f ma mb)) :=
  (pt_cmpR ho ha hb hk).imp fun σ H Q h => by
    obtain ⟨F, u, ρ, S, h⟩ := h
    refine rd2 hm σ H _ ⟨F, u, ρ, S, (After.split h).imp fun d u1 F1 H1 _ s1 g1 h1 w rw => ?_⟩
    cases d with
    | bl k =>
      have h2 : After c.p F1 H1 (some (k, u1)) (fun b _ _ H' => Q b H') := h1
      exact ⟨k, rw.bl_, After.now g1 h2⟩
    | _ => exact False.elim h1
theorem dNotT (h : DT X c e t) : DT X c (.UnaryOp .Not e pos) (mNot t) :=
  (pt_not h).imp fun σ H Q ⟨F, u, ρ, S, h⟩ => ⟨F, u, ρ, S, (After.split h).imp fun b u1 F1 H1 _ s1 g1 h1 => After.now g1 h1⟩
theorem dAnd1 (h : DT X c e t) : PW X (.BoolOp .And [e] pos) (rdT c t) := pw_and1 h
theorem dOr1 (h : DT X c e t) : PW X (.BoolOp .Or [e] pos) (rdT c t) := pw_or1 h
theorem dAndT (h : DT X c a t) (hb : PW X (.BoolOp .And (b :: rest) pos) (rdT c v)) : PW X (.BoolOp .And (a :: b :: rest) pos) (rdT c (mAnd t v)) :=
  (pw_and h hb).imp fun σ H Q ⟨F, u, ρ, S, h⟩ => ⟨F, u, ρ, S, (After.split h).imp fun b u1 F1 H1 _ s1 g1 h1 => by
    cases b with
    | true => exact ⟨F1, u1, ρ, S.step s1 g1, h1⟩
    | false =>
      have h2 : After c.p F1 H1 (some (false, u1)) (fun b _ _ H' => Q b H') := h1
      exact After.now g1 h2⟩
theorem dOrT (h : DT X c a t) (hb : PW X (.BoolOp .Or (b :: rest) pos) (rdT c v)) : PW X (.BoolOp .Or (a :: b :: rest) pos) (rdT c (mOr t v)) :=
  (pw_or h hb).imp fun σ H Q ⟨F, u, ρ, S, h⟩ => ⟨F, u, ρ, S, (After.split h).imp fun b u1 F1 H1 _ s1 g1 h1 => by
    cases b with
    | false => exact ⟨F1, u1, ρ, S.step s1 g1, h1⟩
    | true =>
      have h2 : After c.p F1 H1 (some (true, u1)) (fun b _ _ H' => Q b H') := h1
      exact After.now g1 h2⟩
theorem dIf {k : Expr} (hk : DT X c k t) (ha : DE X c a ma) (hb : DE X c b mb) : DE X c (.IfExp k a b pos) (mIf t ma mb) :=
  (pe_ifExp hk ha hb).imp fun σ H Q ⟨F, u, ρ, S, h⟩ => ⟨F, u, ρ, S, (After.split h).imp fun b u1 F1 H1 _ s1 g1 h1 => by
    cases b with
    | true => exact ⟨F1, u1, ρ, S.step s1 g1, h1⟩
    | false => exact ⟨F1, u1, ρ, S.step s1 g1, h1⟩⟩
theorem dOneV {op} (h : DE X c e m) : DE X c (.BoolOp op [e] pos) m := pe_one h
theorem dAndV (ha : DE X c a ma) (hb : DE X c (.BoolOp .And (b :: rest) pos) mb) : DE X c (.BoolOp .And (a :: b :: rest) pos) (mAndV ma mb) :=
  (pe_and ha hb).imp fun σ H Q ⟨F, u, ρ, S, h⟩ => ⟨F, u, ρ, S, (After.split h).imp fun d u1 F1 H1 _ s1 g1 h1 w rw => by
    cases d with
    | bl k =>
      refine ⟨k, rw.bl_, ?_⟩
      cases k with
      | true => exact ⟨F1, u1, ρ, S.step s1 g1, h1⟩
      | false =>
        have h2 : After c.p F1 H1 (some (D.bl false, u1)) (fun d _ F' H' => ∀ v, Rep c.W c.p F' v d → Q v H') := h1
        exact After.now g1 h2 _ (.bl false)
    | _ => exact False.elim h1⟩
theorem dOrV (ha : DE X c a ma) (hb : DE X c (.BoolOp .Or (b :: rest) pos) mb) : DE X c (.BoolOp .Or (a :: b :: rest) pos) (mOrV ma mb) :=
  (pe_or ha hb).imp fun σ H Q ⟨F, u, ρ, S, h⟩ => ⟨F, u, ρ, S, (After.split h).imp fun d u1 F1 H1 _ s1 g1 h1 w rw => by
    cases d with
    | bl k =>
      refine ⟨k, rw.bl_, ?_⟩
      cases k with
      | false => exact ⟨F1, u1, ρ, S.step s1 g1, h1⟩
      | true =>
        have h2 : After c.p F1 H1 (some (D.bl true, u1)) (fun d _ F' H' => ∀ v, Rep c.W c.p F' v d → Q v H') := h1
        exact After.now g1 h2 _ (.bl true)
    | _ => exact False.elim h1⟩
theorem dNotV (ha : DE X c a ma) : DE X c (.UnaryOp .Not a pos) (mNotV ma) :=
  (pe_not ha).imp fun σ H Q ⟨F, u, ρ, S, h⟩ => ⟨F, u, ρ, S, (After.split h).imp fun d u1 F1 H1 _ s1 g1 h1 w rw => by
    cases d with
    | bl k =>
      have h2 : After c.p F1 H1 (some (D.bl (!k), u1)) (fun d _ F' H' => ∀ v, Rep c.W c.p F' v d → Q v H') := h1
      exact ⟨k, rw.bl_, After.now g1 h2 _ (.bl (!k))⟩
    | _ => exact False.elim h1⟩
end
end Mi

set_option Elab.async false
set_option linter.all false
set_option maxRecDepth 100000
set_option maxHeartbeats 2000000
/-! Mi2: statements, loops, comprehensions. -/
namespace Mi
open PySem PySem.Spec PyProof.Rows L2
variable [TB : Tabl]

/-! ### slots are set -/
section
variable {c : Cf} {u : PuS} {F H : Hp} {σ : L2.St} {ρ : Env}
theorem set_get {α : Type} {l : List α} {i j : Nat} {a b : α} (h : (l.set i a)[j]? = some b) : (i = j ∧ b = a ∧ i < l.length) ∨ (i ≠ j ∧ l[j]? = some b) := by
  by_cases e : i = j
  · subst e
    rw [List.getElem?_set] at h
    simp only [if_true] at h
    split at h
    · rename_i hl
      cases h
      exact .inl ⟨rfl, rfl, hl⟩
    · cases h
  · rw [List.getElem?_set_ne e] at h
    exact .inr ⟨e, h⟩
theorem Sta.set {i : Nat} {v : V} {d : D} (S : Sta c u F H σ ρ) (r : Rep c.W c.p F v d) : Sta c u F H (σ.set i (some v)) (ρ.set i (.sh d)) := by
  refine ⟨S.ent, S.gd, by simpa using S.env.len, fun j s e => ?_, fun j k s t h e1 e2 o1 o2 => ?_⟩
  · rcases set_get e with ⟨rfl, rfl, hl⟩ | ⟨ne, e⟩
    · exact ⟨v, List.getElem?_set_self (by rw [S.env.len]; exact hl), r⟩
    · rw [List.getElem?_set_ne ne]; exact S.env.at_ j s e
  · rcases set_get e1 with ⟨rfl, rfl, _⟩ | ⟨n1, e1⟩
    · cases o1
    · rcases set_get e2 with ⟨rfl, rfl, _⟩ | ⟨n2, e2⟩
      · cases o2
      · rw [List.getElem?_set_ne n1, List.getElem?_set_ne n2]; exact S.env.ne j k s t h e1 e2 o1 o2
theorem SdOk.ref {x : Option (Option V)} {s : Sd} (h : SdOk c F H x s) (o : s.own = true) : ∃ q, x = some (some (.ref q)) ∧ H q ≠ none ∧ F q = none := by
  cases s with
  | un => cases o
  | sh d => cases o
  | ow ds => obtain ⟨q, vs, e, hq, hf, _⟩ := h; exact ⟨q, e, by rw [hq]; simp, hf⟩
  | oi k ks ds => obtain ⟨dx, vs, e, hq, hf, _⟩ := h; exact ⟨_, e, by rw [hq]; simp, hf⟩
  | od ks ds => obtain ⟨q, o, xs, vs, e, hq, hf, _⟩ := h; exact ⟨_, e, by rw [hq]; simp, hf⟩
  | oz ks ds => obtain ⟨q, vs, e, hq, hf, _⟩ := h; exact ⟨q, e, by rw [hq]; simp, hf⟩
/-- a fresh list at q is owned by the slot i -/
theorem Sta.setO {H1 : Hp} {i : Nat} {q : Addr} {vs : List V} {ds : List D} {u1 : PuS} {F1 : Hp} (S : Sta c u F H σ ρ) (s : Stp c.p F H F1 H1) (g : Gd c.p u1 F1 H1) (hF : F1 q = none) (hn : H q = none) (h1 : H1 q = some (.lst vs)) (r : Reps c.W c.p F1 vs ds) :
    Sta c u1 F1 H1 (σ.set i (some (.ref q))) (ρ.set i (.ow ds)) := by
  have S1 := S.step s g
  have hp : q ≠ c.p := fun e => S.gd.ne (e ▸ hn)
  have h0 : c.H0 q = none := S.ent.back S.gd.ne hn
  have nq : ∀ {j : Nat} {t : Sd}, ρ[j]? = some t → t.own = true → σ[j]? ≠ some (some (.ref q)) := fun {j t} e o z => by
    obtain ⟨q', e', hq', _⟩ := (S.env.at_ j t e).ref o
    rw [z] at e'
    injection e' with e'
    injection e' with e'
    injection e' with e'
    subst e'
    exact hq' hn
  refine ⟨S1.ent, S1.gd, by simpa using S.env.len, fun j t e => ?_, fun j k t t' h e1 e2 o1 o2 => ?_⟩
  · rcases set_get e with ⟨rfl, rfl, hl⟩ | ⟨ne, e⟩
    · exact ⟨q, vs, List.getElem?_set_self (by rw [S.env.len]; exact hl), h1, hF, hp, h0, r⟩
    · rw [List.getElem?_set_ne ne]; exact S1.env.at_ j t e
  · rcases set_get e1 with ⟨rfl, rfl, hl⟩ | ⟨n1, e1⟩
    · rcases set_get e2 with ⟨e, _, _⟩ | ⟨n2, e2⟩
      · exact absurd e h
      · rw [List.getElem?_set_self (by rw [S.env.len]; exact hl), List.getElem?_set_ne n2]; exact fun z => nq e2 o2 z.symm
    · rcases set_get e2 with ⟨rfl, rfl, hl⟩ | ⟨n2, e2⟩
      · rw [List.getElem?_set_self (by rw [S.env.len]; exact hl), List.getElem?_set_ne n1]; exact nq e1 o1
      · rw [List.getElem?_set_ne n1, List.getElem?_set_ne n2]; exact S.env.ne j k t t' h e1 e2 o1 o2
/-- the owned list of the slot i is changed -/
theorem Sta.put {i : Nat} {q : Addr} {vs : List V} {ds es : List D} (S : Sta c u F H σ ρ) (e : ρ[i]? = some (.ow ds)) (hq : σ[i]? = some (some (.ref q))) (r : Reps c.W c.p F vs es) :
    Sta c u F (upd H q (.lst vs)) σ (ρ.set i (.ow es)) := by
  obtain ⟨q', ws, e1, h1, hf, hp, h0, _⟩ := S.env.at_ i _ e
  rw [hq] at e1
  injection e1 with e1; injection e1 with e1; injection e1 with e1
  subst e1
  have qs : ∀ {j : Nat} {t : Sd} {a : Addr}, i ≠ j → ρ[j]? = some t → t.own = true → σ[j]? = some (some (.ref a)) → a ≠ q := fun {j t a} ne e2 o z h => by
    subst h
    exact S.env.ne i j _ t ne e e2 rfl o (hq.trans z.symm)
  refine ⟨⟨S.ent.ef, fun a o ha e n => ?_, fun a ps ha e => by
    obtain ⟨qs, e1⟩ := S.ent.et a ps ha e
    exact ⟨qs, by rw [upd_ne (fun z => by rw [z, h1] at e1; cases e1)]; exact e1⟩, S.ent.nw⟩, ⟨fun a o e => ?_, by rw [upd_ne (Ne.symm hp)]; exact S.gd.pu, S.gd.off, S.gd.nt, tabs_over h1 S.gd.tb, S.gd.hp⟩, by simpa using S.env.len, fun j t e2 => ?_, fun j k t t' h e1 e2 o1 o2 => ?_⟩
  · rw [upd_ne (fun z => by rw [z, h0] at e; cases e)]; exact S.ent.eh a o ha e n
  · rw [upd_ne (fun z => by rw [z, hf] at e; cases e)]; exact S.gd.ex a o e
  · rcases set_get e2 with ⟨rfl, rfl, hl⟩ | ⟨ne, e2⟩
    · exact ⟨q, vs, hq, upd_same, hf, hp, h0, r⟩
    · have k := S.env.at_ j t e2
      cases t with
      | un => trivial
      | sh d => exact k
      | ow ds' => obtain ⟨a, xs, z, ha, rest⟩ := k; exact ⟨a, xs, z, by rw [upd_ne (qs ne e2 rfl z)]; exact ha, rest⟩
      | oi kk ks ds' => obtain ⟨dx, xs, z, ha, rest⟩ := k; exact ⟨dx, xs, z, by rw [upd_ne (qs ne e2 rfl z)]; exact ha, rest⟩
      | od ks ds' => obtain ⟨a, ob, xs, ws, z, ha, rest⟩ := k; exact ⟨a, ob, xs, ws, z, by rw [upd_ne (qs ne e2 rfl z)]; exact ha, rest⟩
      | oz ks ds' => obtain ⟨a, xs, z, ha, rest⟩ := k; exact ⟨a, xs, z, by rw [upd_ne (qs ne e2 rfl z)]; exact ha, rest⟩
  · have back : ∀ {m : Nat} {y : Sd}, (ρ.set i (.ow es))[m]? = some y → y.own = true → ∃ y', ρ[m]? = some y' ∧ y'.own = true := fun {m y} z o => by
      rcases set_get z with ⟨rfl, rfl, _⟩ | ⟨_, z⟩
      · exact ⟨_, e, rfl⟩
      · exact ⟨y, z, o⟩
    obtain ⟨y1, z1, p1⟩ := back e1 o1
    obtain ⟨y2, z2, p2⟩ := back e2 o2
    exact S.env.ne j k y1 y2 h z1 z2 p1 p2
end

/-! ### blocks and small statements -/
def mNext : MS := fun ρ => M.pure (.nx ρ)
def mSeq (m n : MS) : MS := fun ρ => M.bind (m ρ) fun f => match f with
  | .nx ρ' => n ρ'
  | .rt d => M.pure (.rt d)
  | .rl d => M.pure (.rl d)
  | .bk ρ' => M.pure (.bk ρ')
  | .ct ρ' => M.pure (.ct ρ')
  | .ex ρ' k ks ds => M.pure (.ex ρ' k ks ds)
def mDrop (m : ME) : MS := fun ρ => M.bind (m ρ) fun _ => M.pure (.nx ρ)
def mRet (m : ME) : MS := fun ρ => M.bind (m ρ) fun d => M.pure (.rt d)
def mIfS (t : MT) (m n : MS) : MS := fun ρ => M.bind (t ρ) fun b => if b = true then m ρ else n ρ
def mSet (i : Nat) (m : ME) : MS := fun ρ => M.bind (m ρ) fun d => M.pure (.nx (ρ.set i (.sh d)))
def mSetO (i : Nat) (m : MA) : MS := fun ρ => M.bind (m ρ) fun ds => M.pure (.nx (ρ.set i (.ow ds)))
def mStuck : MS := fun _ => lft none
section
variable {X : Cx} {c : Cf} {pos : Pos} {st : Stmt} {rest : List Stmt} {e : Expr} {m n : MS} {me : ME} {ml : MA} {t : MT}
theorem flowO.split {F : Hp} {Dn : Ends} {u : PuS} {ρ : Env} (h : flowO c F Dn (mSeq m n ρ u)) : flowO c F { Dn with nx := rdS c n Dn } (m ρ u) := by
  unfold mSeq M.bind at h
  cases e : m ρ u with
  | none => rw [e] at h; exact h
  | some x =>
    obtain ⟨f, u1⟩ := x
    rw [e] at h
    cases f with
    | nx ρ1 =>
      intro σ' F' H' sm S'
      have h2 : flowO c F Dn (n ρ1 u1) := h
      refine ⟨F', u1, ρ1, S', ?_⟩
      cases e2 : n ρ1 u1 with
      | none => rw [e2] at h2; exact h2
      | some y =>
        obtain ⟨f2, u2⟩ := y
        rw [e2] at h2
        cases f2 with
        | nx ρ2 => exact fun σ2 F2 H2 s2 => h2 σ2 F2 H2 (sm.trans s2)
        | bk ρ2 => exact fun σ2 F2 H2 s2 => h2 σ2 F2 H2 (sm.trans s2)
        | ct ρ2 => exact fun σ2 F2 H2 s2 => h2 σ2 F2 H2 (sm.trans s2)
        | ex ρ2 k ks ds => exact fun σ2 F2 H2 cls od s2 => h2 σ2 F2 H2 cls od (sm.trans s2)
        | rt d => exact h2
        | rl d => exact h2
    | rt d => exact h
    | rl d => exact h
    | bk ρ1 => exact h
    | ct ρ1 => exact h
    | ex ρ1 k ks ds => exact h
theorem dBnil : DB X c [] mNext := pss_nil.imp fun Dn σ H ⟨F, u, ρ, S, h⟩ => h σ F H (Same.refl F) S
theorem dBcons (h1 : DS X c st m) (h2 : DB X c rest n) : DB X c (st :: rest) (mSeq m n) := (pss_cons h1 h2).imp fun Dn σ H ⟨F, u, ρ, S, h⟩ => ⟨F, u, ρ, S, h.split⟩
theorem dBone (h1 : DS X c st m) : DB X c [st] m := pss_one h1
theorem dNever : DS X c st mStuck := ps_never.imp fun Dn σ H ⟨F, u, ρ, S, h⟩ => h
/-- an expression's end, from a statement's -/
theorem flowO.after {α : Type} {F H : Hp} {Dn : Ends} {u : PuS} {ρ : Env} {σ : L2.St} {k : M α} {f : α → M Fl} (S : Sta c u F H σ ρ) (h : flowO c F Dn (M.bind k f u)) :
    After c.p F H (k u) fun a u1 F1 H1 => Sta c u1 F1 H1 σ ρ ∧ flowO c F1 Dn (f a u1) := by
  unfold M.bind at h
  cases e : k u with
  | none => rw [e] at h; exact h
  | some x =>
    obtain ⟨a, u1⟩ := x
    rw [e] at h
    intro F1 H1 s g
    refine ⟨S.step s g, ?_⟩
    have h2 : flowO c F Dn (f a u1) := h
    cases e2 : f a u1 with
    | none => rw [e2] at h2; exact h2
    | some y =>
      obtain ⟨f2, u2⟩ := y
      rw [e2] at h2
      cases f2 with
      | nx ρ2 => exact fun σ2 F2 H2 s2 => h2 σ2 F2 H2 (s.ef.trans s2)
      | bk ρ2 => exact fun σ2 F2 H2 s2 => h2 σ2 F2 H2 (s.ef.trans s2)
      | ct ρ2 => exact fun σ2 F2 H2 s2 => h2 σ2 F2 H2 (s.ef.trans s2)
      | ex ρ2 k ks ds => exact fun σ2 F2 H2 cls od s2 => h2 σ2 F2 H2 cls od (s.ef.trans s2)
      | rt d => exact h2
      | rl d => exact h2
theorem dExpr (he : DE X c e me) (hs : swapsWith e none pos.line X.env = pure false := by rfl) : DS X c (.Expr e pos) (mDrop me) :=
  (ps_expr he hs).imp fun Dn σ H ⟨F, u, ρ, S, h⟩ => ⟨F, u, ρ, S, (flowO.after S h).imp fun d u1 F1 H1 _ s1 g1 h1 v rv => h1.2 σ F1 H1 (Same.refl _) h1.1⟩
theorem dRet (he : DE X c e me) : DS X c (.Return (some e) pos) (mRet me) :=
  (ps_ret he).imp fun Dn σ H ⟨F, u, ρ, S, h⟩ => ⟨F, u, ρ, S, (flowO.after S h).imp fun d u1 F1 H1 _ s1 g1 h1 v rv => h1.2 v F1 H1 h1.1.ent g1 rv⟩
theorem dIfS {k : Expr} {a b : List Stmt} (hk : DT X c k t) (ha : DB X c a m) (hb : DB X c b n) : DS X c (.If k a b pos) (mIfS t m n) :=
  (ps_if hk ha hb).imp fun Dn σ H ⟨F, u, ρ, S, h⟩ => ⟨F, u, ρ, S, (flowO.after S h).imp fun b u1 F1 H1 _ s1 g1 h1 => by
    cases b with
    | true => exact ⟨F1, u1, ρ, h1.1, h1.2⟩
    | false => exact ⟨F1, u1, ρ, h1.1, h1.2⟩⟩
theorem dSet {i : Nat} {x : Str} {pos' : Pos} (hN : X.N.Nodup) (hi : X.N[i]? = some x) (hx : Loc X.env.scope x) (he : DE X c e me) (hs : swapsWith e (some (.Name x pos')) pos.line X.env = pure false := by rfl)
    (hf : X.fn x = true ∨ X.env.scope.names.lookup x = some .local := by first | exact .inl rfl | exact .inr rfl | assumption) : DS X c (.Assign [.Name x pos'] e pos) (mSet i me) :=
  (ps_set hN hi hx he hs hf).imp fun Dn σ H ⟨F, u, ρ, S, h⟩ => ⟨F, u, ρ, S, (flowO.after S h).imp fun d u1 F1 H1 _ s1 g1 h1 v rv => h1.2 _ F1 H1 (Same.refl _) (h1.1.set rv)⟩
theorem dSetO {i : Nat} {x : Str} {pos' : Pos} (hN : X.N.Nodup) (hi : X.N[i]? = some x) (hx : Loc X.env.scope x) (he : DL X c e ml) (hs : swapsWith e (some (.Name x pos')) pos.line X.env = pure false := by rfl)
    (hf : X.fn x = true ∨ X.env.scope.names.lookup x = some .local := by first | exact .inl rfl | exact .inr rfl | assumption) : DS X c (.Assign [.Name x pos'] e pos) (mSetO i ml) :=
  (ps_set hN hi hx he hs hf).imp fun Dn σ H ⟨F, u, ρ, S, h⟩ => ⟨F, u, ρ, S, (flowO.after S h).imp fun d u1 F1 H1 _ s1 g1 h1 q vs hF hn h3 r => h1.2 _ F1 H1 (Same.refl _) (S.setO s1 g1 hF hn h3 r)⟩
end

/-! ### targets -/
def mGn (i : Nat) : MG := fun d ρ => some (ρ.set i (.sh d))
def mGnil : List D → Env → Option Env := fun ds ρ => match ds with
  | [] => some ρ
  | _ => none
def mGcons (g : MG) (gs : List D → Env → Option Env) : List D → Env → Option Env := fun ds ρ => match ds with
  | d :: r => (g d ρ).bind fun ρ' => gs r ρ'
  | [] => none
def mGt (n : Nat) (gs : List D → Env → Option Env) : MG := fun d ρ => match d with
  | .tup ds => if ds.length = n then gs ds ρ else none
  | _ => none
def mAsg (m : ME) (g : MG) : MS := fun ρ => M.bind (m ρ) fun d => lft ((g d ρ).map Fl.nx)
abbrev DG (X : Cx) (c : Cf) (e : Expr) (is : List Nat) (g : MG) : Prop := PG X e (rdG c is g)
abbrev DGs (X : Cx) (c : Cf) (e : List Expr) (is : List Nat) (g : List D → Env → Option Env) : Prop := PGs X e (rdGs c is g)
section
variable {X : Cx} {c : Cf} {pos : Pos} {e : Expr} {es : List Expr} {g : MG} {gs : List D → Env → Option Env} {is js : List Nat}
theorem Agr.refl {σ : L2.St} : Agr is σ σ := ⟨rfl, fun _ _ => rfl⟩
theorem Agr.trans {σ σ1 σ2 : L2.St} (a : Agr is σ σ1) (b : Agr js σ1 σ2) : Agr (is ++ js) σ σ2 :=
  ⟨b.1.trans a.1, fun j hj => (b.2 j fun z => hj (List.mem_append_right _ z)).trans (a.2 j fun z => hj (List.mem_append_left _ z))⟩
theorem Agr.set {σ : L2.St} {i : Nat} {x : Option V} : Agr [i] σ (σ.set i x) := ⟨by simp, fun j hj => List.getElem?_set_ne (fun z => hj (by simp [z]))⟩
theorem dGn {i : Nat} {x : Str} (hN : X.N.Nodup) (hi : X.N[i]? = some x) (hx : Loc X.env.scope x) (hf : X.fn x = true ∨ X.env.scope.names.lookup x = some .local := by first | exact .inl rfl | exact .inr rfl | assumption) : DG X c (.Name x pos) [i] (mGn i) :=
  (pg_name hN hi hx hf).imp fun v σ H Q ⟨F, u, ρ, d, S, r, h⟩ => h _ (S.set r) Agr.set
theorem dGnil : DGs X c [] [] mGnil := pgs_nil.imp fun vs σ H Q ⟨F, u, ρ, ds, S, r, h⟩ => by
  cases ds with
  | nil => exact ⟨r.none, h σ S Agr.refl⟩
  | cons d ds => exact False.elim h
theorem dGcons (h1 : DG X c e is g) (h2 : DGs X c es js gs) (hs : (assignEach (e :: es) X.env).map (·.2) = assign e X.env :: (assignEach es X.env).map (·.2) := by rfl) : DGs X c (e :: es) (is ++ js) (mGcons g gs) :=
  (pgs_cons h1 h2 hs).imp fun vs σ H Q ⟨F, u, ρ, ds, S, r, h⟩ => by
    cases ds with
    | nil => exact False.elim h
    | cons d ds =>
      obtain ⟨v, vr, rfl, r1, r2⟩ := r.uncons
      refine ⟨v, vr, rfl, F, u, ρ, d, S, r1, ?_⟩
      have h' : match (g d ρ).bind fun ρ' => gs ds ρ' with
        | some ρ' => ∀ σ', Sta c u F H σ' ρ' → Agr (is ++ js) σ σ' → Q σ' H
        | none => False := h
      cases e1 : g d ρ with
      | none => rw [e1] at h'; exact h'
      | some ρ1 =>
        rw [e1] at h'
        intro σ1 S1 a1
        refine ⟨F, u, ρ1, ds, S1, r2, ?_⟩
        have h3 : match gs ds ρ1 with
          | some ρ' => ∀ σ', Sta c u F H σ' ρ' → Agr (is ++ js) σ σ' → Q σ' H
          | none => False := h'
        cases e2 : gs ds ρ1 with
        | none => rw [e2] at h3; exact h3
        | some ρ2 =>
          rw [e2] at h3
          exact fun σ2 S2 a2 => h3 σ2 S2 (a1.trans a2)
theorem dGt {k n : Nat} (hc : X.calm = true) (h : DGs X c es is gs) (hn : (assignEach es X.env).length = n := by rfl) (hst : (assignEach es X.env).findIdx? (·.1) = none := by rfl) (hK : X.K = c.W.K := by rfl) : DG X c (.Tuple es k pos) is (mGt n gs) :=
  (pg_tup hc h hn hst).imp fun v σ H Q ⟨F, u, ρ, d, S, r, h⟩ => by
    cases d with
    | tup ds =>
      obtain ⟨a, vs, rfl, ht, rs⟩ := r.tup_
      have h' : match (if ds.length = n then gs ds ρ else none) with
        | some ρ' => ∀ σ', Sta c u F H σ' ρ' → Agr is σ σ' → Q σ' H
        | none => False := h
      by_cases hl : ds.length = n
      · rw [if_pos hl] at h'
        exact ⟨a, vs, rfl, by rw [hK]; exact sq_t S.gd.ex ht, rs.1.trans hl, F, u, ρ, ds, S, rs, h'⟩
      · rw [if_neg hl] at h'; exact False.elim h'
    | _ => exact False.elim h
theorem dAsg {tg : Expr} {me : ME} (he : DE X c e me) (hg : DG X c tg is g) (hs : swapsWithSole [tg] e pos.line X.env = pure false := by rfl) (hw : swappedStores [tg] e X.env = pure none := by rfl)
    (h1 : (assignEach [tg] X.env).map (·.2) = [assign tg X.env] := by rfl) : DS X c (.Assign [tg] e pos) (mAsg me g) :=
  (ps_asg he hg hs hw h1).imp fun Dn σ H ⟨F, u, ρ, S, h⟩ => ⟨F, u, ρ, S, (flowO.after S h).imp fun d u1 F1 H1 _ s1 g1 h1 v rv => by
    refine ⟨F1, u1, ρ, d, h1.1, rv, ?_⟩
    have h2 := h1.2
    cases e1 : g d ρ with
    | none => rw [e1] at h2; exact h2
    | some ρ1 =>
      rw [e1] at h2
      exact fun σ' S' _ => h2 σ' F1 H1 (Same.refl _) S'⟩
end

/-! ### augmented assignment to a name -/
def IpM (W : Wo) (r : TIp) (f : D → D → Option D) : Prop := OpM W r f
def mAug (i : Nat) (f : D → D → Option D) (m : ME) : MS := fun ρ => M.bind (lft (vSh ρ i)) fun x => M.bind (m ρ) fun y => M.bind (lft (f x y)) fun z => M.pure (.nx (ρ.set i (.sh z)))
section
variable {X : Cx} {c : Cf} {pos : Pos} {e : Expr} {me : ME}
theorem flowO.lft {α : Type} {F H : Hp} {Dn : Ends} {u : PuS} {ρ : Env} {σ : L2.St} {o : Option α} {f : α → M Fl} (S : Sta c u F H σ ρ) (h : flowO c F Dn (M.bind (Mi.lft o) f u)) : ∃ a, o = some a ∧ flowO c F Dn (f a u) := by
  cases o with
  | none => exact False.elim h
  | some a => exact ⟨a, rfl, h⟩
theorem dAug {i : Nat} {x : Str} {op : Operator} {ti : TIp} {f : D → D → Option D} {pos' : Pos} (hm : IpM c.W ti f) (ho : PIp X op ti) (hN : X.N.Nodup) (hi : X.N[i]? = some x) (hx : Loc X.env.scope x) (he : DE X c e me)
    (hf : X.fn x = true ∨ X.env.scope.names.lookup x = some .local := by first | exact .inl rfl | exact .inr rfl | assumption) : DS X c (.AugAssign (.Name x pos') op e pos) (mAug i f me) :=
  (ps_aug hN hi hx he ho hf).imp fun Dn σ H ⟨F, u, ρ, S, h⟩ => by
    obtain ⟨x0, e0, h⟩ := flowO.lft S h
    obtain ⟨v0, e1, r0⟩ := S.var e0
    refine ⟨v0, e1, F, u, ρ, S, (flowO.after S h).imp fun y u1 F1 H1 _ s1 g1 h1 w rw => ?_⟩
    refine hm c.p F1 H1 u1 v0 w x0 y _ g1 (r0.mono s1.ef) rw ((flowO.after h1.1 h1.2).imp fun z u2 F2 H2 _ s2 g2 h2 v rv => ?_)
    exact h2.2 _ F2 H2 (Same.refl _) (h2.1.set rv)
end

/-! ### loops -/
def loopD (g : MG) (mb : MS) : List D → Env → M Fl
  | [], ρ => M.pure (.nx ρ)
  | d :: ds, ρ => M.bind (lft (g d ρ)) fun ρ1 => M.bind (mb ρ1) fun f => match f with
    | .nx ρ2 => loopD g mb ds ρ2
    | .ct ρ2 => loopD g mb ds ρ2
    | .bk ρ2 => M.pure (.nx ρ2)
    | .rt d => M.pure (.rt d)
    | .rl d => M.pure (.rl d)
    | .ex ρ2 k ks ds => M.pure (.ex ρ2 k ks ds)
def mFor (mi : MA) (g : MG) (mb : MS) : MS := fun ρ => M.bind (mi ρ) fun ds => loopD g mb ds ρ
def loopW (t : MT) (mb : MS) : Nat → Env → M Fl
  | 0, _ => lft none
  | n + 1, ρ => M.bind (t ρ) fun b => if b = true then M.bind (mb ρ) fun f => match f with
    | .nx ρ2 => loopW t mb n ρ2
    | .ct ρ2 => loopW t mb n ρ2
    | .bk ρ2 => M.pure (.nx ρ2)
    | .rt d => M.pure (.rt d)
    | .rl d => M.pure (.rl d)
    | .ex ρ2 k ks ds => M.pure (.ex ρ2 k ks ds)
    else M.pure (.nx ρ)
def mWhile (n : Nat) (t : MT) (mb : MS) : MS := fun ρ => loopW t mb n ρ
abbrev DI (X : Cx) (c : Cf) (tg e : Expr) (m : MA) : Prop := PI X tg e (rdI c m)
section
variable {X : Cx} {c : Cf} {pos : Pos} {tg iter : Expr} {body : List Stmt} {mi : MA} {g : MG} {mb : MS} {is : List Nat}
theorem flowO.mono {F F' : Hp} {Dn : Ends} {r : Option (Fl × PuS)} (e : Same F F') (h : flowO c F Dn r) : flowO c F' Dn r := by
  cases r with
  | none => exact h
  | some x =>
    obtain ⟨f, u⟩ := x
    cases f with
    | nx ρ2 => exact fun σ2 F2 H2 s2 => h σ2 F2 H2 (e.trans s2)
    | bk ρ2 => exact fun σ2 F2 H2 s2 => h σ2 F2 H2 (e.trans s2)
    | ct ρ2 => exact fun σ2 F2 H2 s2 => h σ2 F2 H2 (e.trans s2)
    | ex ρ2 k ks ds => exact fun σ2 F2 H2 cls od s2 => h σ2 F2 H2 cls od (e.trans s2)
    | rt d => exact h
    | rl d => exact h
theorem dFor (hp : PassesOwn (model X.prog X.w) X.A X.env X.xe) (hc : X.calm = true) (hi : DI X c tg iter mi) (hg : DG X c tg is g) (hb : DB X c body mb) (hs : ∀ x, foldedSetIterable iter X.env x = pure x := by intro _; rfl) : DS X c (.For tg iter body [] pos) (mFor mi g mb) :=
  (ps_for hp hc hi hg hb hs).imp fun Dn σ H ⟨F, u, ρ, S, h⟩ => ⟨F, u, ρ, S, (flowO.after S h).imp fun ds u1 F1 H1 _ s1 g1 h1 J hJ => by
    obtain ⟨G, Y, w, hG, hY⟩ := hJ
    refine for_it w (fun i σ H => ∃ F' u' ρ', Same F1 F' ∧ Sta c u' F' H σ ρ' ∧ flowO c F' Dn (loopD g mb (ds.drop i) ρ' u')) ⟨F1, u1, ρ, Same.refl _, h1.1, by simpa using h1.2⟩
      (fun i σ H _ ⟨F', u', ρ', e, S', _⟩ => hG H (e.trans S'.gd.ex)) (fun i x σ H H' hi ⟨F', u', ρ', e, S', hf⟩ hy => ?_) (fun σ H ⟨F', u', ρ', e, S', hf⟩ => ?_)
    · have hd : ds[i]? = some ds[i] := List.getElem?_eq_getElem hi
      obtain ⟨F3, s3, g3, r3⟩ := hY i H x H' F' u' _ hd e S'.gd hy
      rw [List.drop_eq_getElem_cons hi] at hf
      unfold loopD at hf
      obtain ⟨ρ1, e1, hf⟩ := flowO.lft S' hf
      have S3 := S'.step s3 g3
      refine ⟨F3, u', ρ', ds[i], S3, r3, ?_⟩
      rw [e1]
      intro σ1 S1 _
      refine ⟨F3, u', ρ1, S1, ?_⟩
      have hf3 := hf.mono s3.ef
      unfold M.bind at hf3
      cases e2 : mb ρ1 u' with
      | none => rw [e2] at hf3; exact hf3
      | some y =>
        obtain ⟨f2, u2⟩ := y
        rw [e2] at hf3
        cases f2 with
        | nx ρ2 => exact fun σ2 F2 H2 sm S2 => ⟨F2, u2, ρ2, (e.trans s3.ef).trans sm, S2, flowO.mono sm hf3⟩
        | ct ρ2 => exact fun σ2 F2 H2 sm S2 => ⟨F2, u2, ρ2, (e.trans s3.ef).trans sm, S2, flowO.mono sm hf3⟩
        | bk ρ2 => exact fun σ2 F2 H2 sm S2 => hf3 σ2 F2 H2 sm S2
        | ex ρ2 k ks ds => exact fun σ2 F2 H2 cls od sm S2 => hf3 σ2 F2 H2 cls od sm S2
        | rt d => exact hf3
        | rl d => exact hf3
    · rw [List.drop_eq_nil_of_le (Nat.le_refl _)] at hf
      exact hf σ F' H (Same.refl _) S'⟩
theorem dWhile {k : Expr} {t : MT} (n : Nat) (hp : PassesOwn (model X.prog X.w) X.A X.env X.xe) (hk : DT X c k t) (hb : DB X c body mb) : DS X c (.While k body [] pos) (mWhile n t mb) :=
  (ps_while hp hk hb).imp fun Dn σ H ⟨F, u, ρ, S, h⟩ => by
    refine ⟨fun m σ H => ∃ F u ρ, Sta c u F H σ ρ ∧ flowO c F Dn (loopW t mb m ρ u), ⟨n, F, u, ρ, S, h⟩, fun m σ H ⟨F, u, ρ, S, h⟩ => ?_⟩
    cases m with
    | zero => exact False.elim h
    | succ m =>
      unfold loopW at h
      refine ⟨F, u, ρ, S, (flowO.after S h).imp fun b u1 F1 H1 _ s1 g1 h1 => ?_⟩
      cases b with
      | false => exact h1.2 σ F1 H1 (Same.refl _) h1.1
      | true =>
        refine ⟨fun σ' H' => ∃ F u ρ, Sta c u F H' σ' ρ ∧ flowO c F Dn (loopW t mb m ρ u), fun σ' H' z => ⟨m, Nat.lt_succ_self _, z⟩, F1, u1, ρ, h1.1, ?_⟩
        have hf3 : flowO c F1 Dn (M.bind (mb ρ) (fun f => match f with
          | .nx ρ2 => loopW t mb m ρ2
          | .ct ρ2 => loopW t mb m ρ2
          | .bk ρ2 => M.pure (.nx ρ2)
          | .rt d => M.pure (.rt d)
          | .rl d => M.pure (.rl d)
          | .ex ρ2 k ks ds => M.pure (.ex ρ2 k ks ds)) u1) := h1.2
        unfold M.bind at hf3
        cases e2 : mb ρ u1 with
        | none => rw [e2] at hf3; exact hf3
        | some y =>
          obtain ⟨f2, u2⟩ := y
          rw [e2] at hf3
          cases f2 with
          | nx ρ2 => exact fun σ2 F2 H2 sm S2 => ⟨F2, u2, ρ2, S2, flowO.mono sm hf3⟩
          | ct ρ2 => exact fun σ2 F2 H2 sm S2 => ⟨F2, u2, ρ2, S2, flowO.mono sm hf3⟩
          | bk ρ2 => exact fun σ2 F2 H2 sm S2 => hf3 σ2 F2 H2 sm S2
          | ex ρ2 k ks ds => exact fun σ2 F2 H2 cls od sm S2 => hf3 σ2 F2 H2 cls od sm S2
          | rt d => exact hf3
          | rl d => exact hf3
end
end Mi

set_option Elab.async false
set_option linter.all false
set_option maxRecDepth 100000
set_option maxHeartbeats 2000000
/-! Mi3: what is walked, comprehensions, owned lists, calls, classes, a def's promise. -/
namespace Mi
open PySem PySem.Spec PyProof.Rows L2
variable [TB : Tabl]

/-! ### what is walked -/
section
variable {W : Wo} {p : Addr} {F : Hp}
theorem walkD_at {J : It} {G : Hp → Prop} {vs : List V} {ds : List D} (w : Walk J vs.length G (YAt vs)) (hG : ∀ H, Same F H → G H) (r : Reps W p F vs ds) : WalkD W p J F ds := by
  refine ⟨G, YAt vs, by rw [← r.1]; exact w, hG, fun i H x H' F2 u d hd e g hy => ?_⟩
  obtain ⟨rfl, hx⟩ := hy
  exact ⟨F2, Stp.refl, g, (r.2 i x d hx hd).mono e⟩
theorem walkD_list {a : Addr} {vs : List V} {ds : List D} (h : F a = some (.lst vs)) (r : Reps W p F vs ds) : WalkD W p (Itl W.K a) F ds := walkD_at walk_list (fun H e => SqL.of (e _ _ h)) r
theorem walkD_tup {a : Addr} {vs : List V} {ds : List D} (h : SqT W.K F a vs) (r : Reps W p F vs ds) : WalkD W p (Itt W.K a) F ds := walkD_at walk_tup (fun H e => sq_t e h) r
def rngD (lo : Int) (n : Nat) : List D := (List.range n).map fun i => .int (lo + (i : Nat))
theorem rngD_len (lo : Int) (n : Nat) : (rngD lo n).length = n := by simp [rngD]
theorem rngD_at {lo : Int} {n i : Nat} {d : D} (h : (rngD lo n)[i]? = some d) : d = .int (lo + (i : Nat)) := by
  unfold rngD at h
  rw [List.getElem?_map] at h
  by_cases hi : i < n
  · rw [List.getElem?_range hi] at h
    exact (Option.some.inj h).symm
  · rw [List.getElem?_eq_none (by simpa using hi)] at h; cases h
theorem walkD_range {lo : Int} {n : Nat} : WalkD W p (Itr lo n) F (rngD lo n) := by
  refine ⟨_, _, by rw [rngD_len]; exact walk_range, fun _ _ => trivial, fun i H x H' F2 u d hd e g hy => ?_⟩
  obtain ⟨rfl, rfl⟩ := hy
  exact ⟨F2, Stp.refl, g, by rw [rngD_at hd]; exact .int _⟩
/-- pairs of the items of two walks -/
theorem walkD_pair {J : It} {n : Nat} {G : Hp → Prop} {xs ys : Nat → Option V} {ds : List D} (hn : ds.length = n) (w : Walk J n G (YPair xs ys)) (hG : ∀ H, Same F H → G H)
    (r : ∀ i x y d, xs i = some x → ys i = some y → ds[i]? = some d → ∃ a b, d = .tup [a, b] ∧ Rep W p F x a ∧ Rep W p F y b) : WalkD W p J F ds := by
  refine ⟨G, _, by rw [hn]; exact w, hG, fun i H x H' F2 u d hd e g hy => ?_⟩
  obtain ⟨T, x1, y1, rfl, hT, rfl, hx, hy⟩ := hy
  obtain ⟨a, b, rfl, ra, rb⟩ := r i x1 y1 d hx hy hd
  have e2 := e.trans (Stp.new (o := .tup [x1, y1]) g hT).ef
  exact ⟨_, Stp.new g hT, g.new hT, Rep.mkT upd_same (Reps.cons (ra.mono e2) (Reps.cons (rb.mono e2) Reps.nil))⟩
end
def seqD : D → Option (List D)
  | .lst ds => some ds
  | .tup ds => some ds
  | _ => none
def mIseq (m : ME) : MA := fun ρ => M.bind (m ρ) fun d => lft (match d with
  | .lst ds => some ds
  | _ => none)
def mItup (m : ME) : MA := fun ρ => M.bind (m ρ) fun d => lft (match d with
  | .tup ds => some ds
  | _ => none)
def rng1 : List D → Option (List D) := fun ds => match ds with
  | [.int j] => if -100000 ≤ j ∧ j ≤ 100000 then some (rngD 0 j.toNat) else none
  | _ => none
def mIof (f : List D → Option (List D)) (ms : MA) : MA := fun ρ => M.bind (ms ρ) fun ds => lft (f ds)
def enumD (xs : List D) : List D := xs.mapIdx fun i d => .tup [.int (i : Nat), d]
def enum1 : List D → Option (List D) := fun ds => match ds with
  | [.lst xs] => some (enumD xs)
  | _ => none
theorem enumD_at {xs : List D} {i : Nat} {d : D} (h : (enumD xs)[i]? = some d) : ∃ x, xs[i]? = some x ∧ d = .tup [.int (i : Nat), x] := by
  unfold enumD at h
  rw [List.getElem?_mapIdx] at h
  cases e : xs[i]? with
  | none => rw [e] at h; cases h
  | some q =>
    rw [e] at h
    exact ⟨q, rfl, (Option.some.inj h).symm⟩
theorem enumD_len (xs : List D) : (enumD xs).length = xs.length := by simp [enumD]
section
variable {X : Cx} {c : Cf} {tg e a b : Expr} {m : ME} {ms : MA} {pos q : Pos}
theorem dIlist (h : DE X c e m) (hK : X.K = c.W.K := by rfl) : DI X c tg e (mIseq m) :=
  (pi_list h).imp fun σ H R ⟨F, u, ρ, S, h⟩ => ⟨F, u, ρ, S, (After.split h).imp fun d u1 F1 H1 _ s1 g1 h1 v rv => by
    obtain ⟨ds, e1, h2⟩ := lft_some h1
    cases d with
    | lst es =>
      cases e1
      obtain ⟨a, vs, rfl, ha, rs⟩ := rv.lst_
      exact ⟨a, rfl, ⟨vs, SqL.of (g1.ex _ _ ha)⟩, by rw [hK]; exact After.now g1 h2 _ (walkD_list ha rs)⟩
    | _ => cases e1⟩
theorem dItup (h : DE X c e m) (hK : X.K = c.W.K := by rfl) : DI X c tg e (mItup m) :=
  (pi_tup h).imp fun σ H R ⟨F, u, ρ, S, h⟩ => ⟨F, u, ρ, S, (After.split h).imp fun d u1 F1 H1 _ s1 g1 h1 v rv => by
    obtain ⟨ds, e1, h2⟩ := lft_some h1
    cases d with
    | tup es =>
      cases e1
      obtain ⟨a, vs, rfl, ha, rs⟩ := rv.tup_
      exact ⟨a, rfl, ⟨vs, by rw [hK]; exact sq_t g1.ex ha⟩, by rw [hK]; exact After.now g1 h2 _ (walkD_tup ha rs)⟩
    | _ => cases e1⟩
theorem dIrng1 (hg : Gl X "range") (hm : X.mg "range" = none) (ha : DA X c [a] ms) (hs : starEach [a] X.env = [(false, eval a X.env)] := by rfl) : DI X c tg (.Call (.Name "range" q) [a] [] pos) (mIof rng1 ms) :=
  (pi_range1 hg hm ha hs).imp fun σ H R ⟨F, u, ρ, S, h⟩ => ⟨F, u, ρ, S, (After.split h).imp fun ds u1 F1 H1 _ s1 g1 h1 vs rv => by
    obtain ⟨es, e1, h2⟩ := lft_some h1
    unfold rng1 at e1
    split at e1
    · rename_i j _h
      split at e1
      · rename_i hj
        cases e1
        obtain ⟨v, vr, rfl, r1, r2⟩ := rv.uncons
        rw [r2.none, r1.int_]
        exact ⟨j, rfl, by omega, by omega, After.now g1 h2 _ walkD_range⟩
      · cases e1
    · cases e1⟩
theorem dIenum {elts : List Expr} {kk : Nat} {tpos : Pos} (hg : Gl X "enumerate") (hm : X.mg "enumerate" = none) (ha : DA X c [a] ms) (hs : starEach [a] X.env = [(false, eval a X.env)] := by rfl) (hK : X.K = c.W.K := by rfl) :
    DI X c (.Tuple elts kk tpos) (.Call (.Name "enumerate" q) [a] [] pos) (mIof enum1 ms) :=
  (pi_enum hg hm ha hs).imp fun σ H R ⟨F, u, ρ, S, h⟩ => ⟨F, u, ρ, S, (After.split h).imp fun ds u1 F1 H1 _ s1 g1 h1 vs rv => by
    obtain ⟨es, e1, h2⟩ := lft_some h1
    unfold enum1 at e1
    split at e1
    · rename_i xs _h
      cases e1
      obtain ⟨v, vr, rfl, r1, r2⟩ := rv.uncons
      rw [r2.none]
      obtain ⟨p1, v1, rfl, f1, q1⟩ := r1.lst_
      refine ⟨p1, v1, rfl, SqL.of (g1.ex _ _ f1), After.now g1 h2 _ ?_⟩
      rw [hK]
      refine walkD_pair (n := v1.length) (by rw [enumD_len, q1.1]) walk_enum (fun H e => SqL.of (e _ _ f1)) fun i x y d hx hy hd => ?_
      obtain ⟨y', e2, rfl⟩ := enumD_at hd
      cases hx
      exact ⟨_, y', rfl, .int _, q1.2 i y y' hy e2⟩
    · cases e1⟩
end

/-! ### comprehensions -/
def wipeE (ρ : Env) : List Nat → Env
  | [] => ρ
  | v :: vs => (wipeE ρ vs).set v .un
theorem wipe_get {σ : L2.St} {j : Nat} : ∀ {vs : List Nat}, j ∉ vs → (wipe σ vs)[j]? = σ[j]?
  | [], _ => rfl
  | v :: vs, h => by
    show ((wipe σ vs).set v none)[j]? = _
    rw [List.getElem?_set_ne (fun z => h (by simp [z])), wipe_get (fun z => h (List.mem_cons_of_mem _ z))]
theorem wipeE_len (ρ : Env) : ∀ vs : List Nat, (wipeE ρ vs).length = ρ.length
  | [] => rfl
  | v :: vs => by show ((wipeE ρ vs).set v .un).length = _; rw [List.length_set, wipeE_len ρ vs]
theorem wipeE_get {ρ : Env} {j : Nat} {s : Sd} : ∀ {vs : List Nat}, (wipeE ρ vs)[j]? = some s → s = .un ∨ (j ∉ vs ∧ ρ[j]? = some s)
  | [], h => .inr ⟨by simp, h⟩
  | v :: vs, h => by
    have h' : ((wipeE ρ vs).set v .un)[j]? = some s := h
    rcases set_get h' with ⟨_, e, _⟩ | ⟨ne, h2⟩
    · exact .inl e
    · rcases wipeE_get h2 with e | ⟨a, b⟩
      · exact .inl e
      · exact .inr ⟨fun z => (List.mem_cons.mp z).elim (fun q => ne q.symm) a, b⟩
theorem Sta.wipe {c : Cf} {u : PuS} {F H : Hp} {σ : L2.St} {ρ : Env} (S : Sta c u F H σ ρ) (vs : List Nat) : Sta c u F H (wipe σ vs) (wipeE ρ vs) := by
  refine ⟨S.ent, S.gd, by rw [wipe_length, wipeE_len]; exact S.env.len, fun i s e => ?_, fun i j s t h e1 e2 o1 o2 => ?_⟩
  · rcases wipeE_get e with rfl | ⟨hn, e⟩
    · trivial
    · rw [wipe_get hn]; exact S.env.at_ i s e
  · rcases wipeE_get e1 with rfl | ⟨n1, e1⟩
    · cases o1
    · rcases wipeE_get e2 with rfl | ⟨n2, e2⟩
      · cases o2
      · rw [wipe_get n1, wipe_get n2]; exact S.env.ne i j s t h e1 e2 o1 o2
theorem wipe_in {σ : L2.St} {j : Nat} : ∀ {vs : List Nat}, j ∈ vs → (wipe σ vs)[j]? = if j < σ.length then some none else none
  | [], h => by cases h
  | v :: vs, h => by
    show ((wipe σ vs).set v none)[j]? = _
    by_cases e : v = j
    · subst e
      rw [List.getElem?_set]
      simp [wipe_length]
    · rw [List.getElem?_set_ne e]
      exact wipe_in ((List.mem_cons.mp h).resolve_left fun z => e z.symm)
theorem wipe_agr {σ σ' : L2.St} {is vs : List Nat} (h : ∀ i ∈ is, i ∈ vs) (a : Agr is (wipe σ vs) σ') : wipe σ' vs = wipe σ vs := by
  apply List.ext_getElem?
  intro j
  have hl : σ'.length = σ.length := by rw [a.1, wipe_length]
  by_cases hj : j ∈ vs
  · rw [wipe_in hj, wipe_in hj, hl]
  · rw [wipe_get hj, a.2 j (fun z => hj (h j z))]
theorem bind_some {α β : Type} {m : M α} {f : α → M β} {u : PuS} {r : β × PuS} (h : M.bind m f u = some r) : ∃ a u1, m u = some (a, u1) ∧ f a u1 = some r := by
  unfold M.bind at h
  cases e : m u with
  | none => rw [e] at h; cases h
  | some x =>
    obtain ⟨a, u1⟩ := x
    rw [e] at h
    exact ⟨a, u1, rfl, h⟩
def lcD (g : MG) (mt : MT) (me : ME) (ρ : Env) : List D → M (List D)
  | [] => M.pure []
  | d :: ds => M.bind (lft (g d ρ)) fun ρ1 => M.bind (mt ρ1) fun b =>
    if b = true then M.bind (me ρ1) fun y => M.bind (lcD g mt me ρ ds) fun ys => M.pure (y :: ys) else lcD g mt me ρ ds
def mLcO (vs : List Nat) (mi : MA) (g : MG) (mt : MT) (me : ME) : MA := fun ρ => M.bind (mi ρ) fun ds => if ds.length ≤ 100000 then lcD g mt me (wipeE ρ vs) ds else lft none
/-- a fresh list, frozen -/
def mFz (m : MA) : ME := fun ρ => M.bind (m ρ) fun ds => M.pure (.lst ds)
theorem dFz {X : Cx} {c : Cf} {e : Expr} {m : MA} (h : DL X c e m) : DE X c e (mFz m) := h.imp fun σ H Q ⟨F, u, ρ, S, h⟩ => by
  refine ⟨F, u, ρ, S, ?_⟩
  have h' : After c.p F H (M.bind (m ρ) (fun ds => M.pure (.lst ds)) u) fun d _ F' H' => ∀ v, Rep c.W c.p F' v d → Q v H' := h
  unfold M.bind at h'
  cases e1 : m ρ u with
  | none => rw [e1] at h'; exact h'
  | some x =>
    obtain ⟨ds, u1⟩ := x
    rw [e1] at h'
    intro F1 H1 s1 g1 q ws hF hn hq r
    have h2 : After c.p F H (some (D.lst ds, u1)) (fun d _ F' H' => ∀ v, Rep c.W c.p F' v d → Q v H') := h'
    have hsm : Same F1 (upd F1 q (.lst ws)) := fun a o e => by rw [upd_ne (fun z => by rw [z, hF] at e; cases e)]; exact e
    have hpq : c.p ≠ q := fun z => S.gd.ne (z ▸ hn)
    refine h2 (upd F1 q (.lst ws)) H1 ⟨s1.ef.trans hsm, s1.eh, s1.et, fun a o e => ?_⟩ ⟨fun a o e => ?_, g1.pu, fun l e => by rw [upd_ne hpq]; exact g1.off l e, nt_upd g1.nt (by intro _ z; cases z), g1.tb, g1.hp⟩ (.ref q) (Rep.mkL upd_same (r.mono hsm))
    · by_cases ha : a = q
      · subst ha; exact .inr hn
      · rw [upd_ne ha] at e; exact s1.nw a o e
    · by_cases ha : a = q
      · subst ha; rw [upd_same] at e; cases e; exact hq
      · rw [upd_ne ha] at e; exact g1.ex a o e
def mYes : MT := fun _ => M.pure true
section
variable {c : Cf} {is vs : List Nat} {mi : MA} {g : MG} {mt : MT} {me : ME}
/-- the reading of a comprehension, from its mirror: the new list is handed over, not frozen -/
theorem rdLc (his : ∀ i ∈ is, i ∈ vs) (σ : L2.St) (H : Hp) (Q : VK) (F : Hp) (u : PuS) (ρ : Env) (S : Sta c u F H σ ρ)
    (h : After c.p F H (mLcO vs mi g mt me ρ u) fun ds _ F' H' => ∀ q ws, F' q = none → H q = none → H' q = some (.lst ws) → Reps c.W c.p F' ws ds → Q (.ref q) H') : tLc (rdI c mi) (rdG c is g) (rdT c mt) (rdE c me) vs σ H Q := by
  refine ⟨F, u, ρ, S, (After.split h).imp fun ds u1 F1 H1 _ s1 g1 h1 J hJ Dl hD => ?_⟩
  have S1 := S.step s1 g1
  by_cases hlen : ds.length ≤ 100000
  case neg => rw [if_neg hlen] at h1; exact False.elim h1
  rw [if_pos hlen] at h1
  obtain ⟨G, Y, w, hG, hY⟩ := hJ
  -- what is wanted at the end
  cases hr : lcD g mt me (wipeE ρ vs) ds u1 with
  | none => rw [hr] at h1; exact False.elim h1
  | some out =>
    obtain ⟨out, uf⟩ := out
    rw [hr] at h1
    refine lc_it w (fun i H' => ∃ F' u' done acc rest, Stp c.p F1 H1 F' H' ∧ Gd c.p u' F' H' ∧ F' Dl = none ∧ H' Dl = some (.lst acc) ∧ Reps c.W c.p F' acc done ∧ done.length ≤ i ∧
      lcD g mt me (wipeE ρ vs) (ds.drop i) u' = some (rest, uf) ∧ done ++ rest = out) ?_ ?_ ?_ ?_
    · exact ⟨F1, u1, [], [], out, Stp.own hD, g1.own hD, g1.fresh hD, upd_same, Reps.nil, Nat.le_refl _, by simpa using hr, rfl⟩
    · rintro i H' _ ⟨F', u', done, acc, rest, s', g', _⟩
      exact hG H' (s'.ef.trans g'.ex)
    · rintro i x H2 H3 hi ⟨F', u', done, acc, rest, s', g', hf, ha, ra, hl, hd, ho⟩ hy
      have hdi : ds[i]? = some ds[i] := List.getElem?_eq_getElem hi
      obtain ⟨F3, s3, g3, r3⟩ := hY i H2 x H3 F' u' _ hdi s'.ef g' hy
      rw [List.drop_eq_getElem_cons hi] at hd
      unfold lcD at hd
      have S3 : Sta c u' F3 H3 (wipe σ vs) (wipeE ρ vs) := ((S1.step s' g').step s3 g3).wipe vs
      refine ⟨F3, u', wipeE ρ vs, ds[i], S3, r3, ?_⟩
      cases eg : g ds[i] (wipeE ρ vs) with
      | none => rw [eg] at hd; cases hd
      | some ρ1 =>
        rw [eg] at hd
        intro σ2 S2 a2
        refine ⟨wipe_agr his a2, F3, u', ρ1, S2, ?_⟩
        have hd2 : M.bind (mt ρ1) (fun b => if b = true then M.bind (me ρ1) fun y => M.bind (lcD g mt me (wipeE ρ vs) (ds.drop (i + 1))) fun ys => M.pure (y :: ys) else lcD g mt me (wipeE ρ vs) (ds.drop (i + 1))) u' = some (rest, uf) := hd
        unfold M.bind at hd2
        have s13 := s'.trans g'.ne s3
        cases et : mt ρ1 u' with
        | none => rw [et] at hd2; cases hd2
        | some bt =>
          obtain ⟨bt, u2⟩ := bt
          rw [et] at hd2
          intro F4 H4 s4 g4
          have s14 := s13.trans g3.ne s4
          have hf4 : F4 Dl = none := s4.off (s3.off hf (by rw [ha]; simp)) (by rw [s3.eh Dl _ (fun z => g1.ne (z ▸ hD)) ha (.inr (by intro _ z; cases z))]; simp)
          have ha4 : H4 Dl = some (.lst acc) := s4.eh Dl _ (fun z => g1.ne (z ▸ hD)) (s3.eh Dl _ (fun z => g1.ne (z ▸ hD)) ha (.inr (by intro _ z; cases z))) (.inr (by intro _ z; cases z))
          have hpd : Dl ≠ c.p := fun z => g1.ne (z ▸ hD)
          cases bt with
          | false =>
            show ∃ F' u' done acc rest, _
            exact ⟨F4, u2, done, acc, rest, s14, g4, hf4, ha4, ra.mono (s3.ef.trans s4.ef), by omega, hd2, ho⟩
          | true =>
            show rdE c me σ2 H4 _
            refine ⟨F4, u2, ρ1, S2.step s4 g4, ?_⟩
            have hd3 : M.bind (me ρ1) (fun y => M.bind (lcD g mt me (wipeE ρ vs) (ds.drop (i + 1))) fun ys => M.pure (y :: ys)) u2 = some (rest, uf) := hd2
            unfold M.bind at hd3
            cases ee : me ρ1 u2 with
            | none => rw [ee] at hd3; cases hd3
            | some y =>
              obtain ⟨y, u3⟩ := y
              rw [ee] at hd3
              intro F5 H5 s5 g5 v rv
              have ha5 := s5.eh Dl _ hpd ha4 (.inr (by intro _ z; cases z))
              have hf5 : F5 Dl = none := s5.off hf4 (by rw [ha4]; simp)
              refine ⟨acc, ha5, sz5l (by have := ra.1; omega), ?_⟩
              obtain ⟨ys, u4, el, e5⟩ := bind_some (m := lcD g mt me (wipeE ρ vs) (ds.drop (i + 1))) (f := fun ys => M.pure (y :: ys)) (u := u3) (r := (rest, uf)) hd3
              have e5 : some (y :: ys, u4) = some (rest, uf) := e5
              injection e5 with e5
              injection e5 with e6 e7
              subst e6 e7
              have s15 := s14.trans g4.ne s5
              refine ⟨F5, u3, done ++ [y], acc ++ [v], ys, ⟨s15.ef, fun a o hap e n => ?_, fun a ps ha e => by
                obtain ⟨qs, e1⟩ := s15.et a ps ha e
                exact ⟨qs, by rw [upd_ne (ne_of_none e hD)]; exact e1⟩, s15.nw⟩, ⟨fun a o e => ?_, ?_, g5.off, g5.nt, tabs_over ha5 g5.tb, g5.hp⟩, hf5, upd_same, ?_, by simp; omega, el, by simpa using ho⟩
              · rw [upd_ne (ne_of_none e hD)]; exact s15.eh a o hap e n
              · rw [upd_ne (fun z => by rw [z, hf5] at e; cases e)]; exact g5.ex a o e
              · rw [upd_ne (Ne.symm hpd)]; exact g5.pu
              · exact (ra.mono ((s3.ef.trans s4.ef).trans s5.ef)).append (Reps.cons rv Reps.nil)
    · rintro H' ⟨F', u', done, acc, rest, s', g', hf, ha, ra, hl, hd, ho⟩
      rw [List.drop_eq_nil_of_le (Nat.le_refl _)] at hd
      have hd' : some (([] : List D), u') = some (rest, uf) := hd
      injection hd' with hd'
      injection hd' with e1 e2
      subst e1 e2
      rw [List.append_nil] at ho
      subst ho
      exact h1 F' H' s' g' Dl acc hf (s1.back g1.ne hD) ha ra
end
section
variable {X : Cx} {c : Cf} {elt tg iter : Expr} {ifs : List Expr} {scope : Scope} {own : List (Str × Nat)} {pos : Pos} {is : List Nat} {mi : MA} {g : MG} {mt : MT} {me : ME}
theorem dYes : PTs X [] (rdT c mYes) := pts_nil.imp fun σ H Q ⟨F, u, ρ, S, h⟩ => After.now S.gd h
theorem dLcO (hc : X.calm = true) (hN : X.N.Nodup) (hi : DI X c tg iter mi) (ok : BlkOk X.N X.env.scope scope own) (hg : ∀ (s : Shared) (H : Hp) (C : Addr) (cl : List (Str × Addr)) (fp : List Addr), DG (X.blk s H scope (compEnvC scope cl C X.env) fp) c tg is g)
    (ht : ∀ (s : Shared) (H : Hp) (C : Addr) (cl : List (Str × Addr)) (fp : List Addr), PTs (X.blk s H scope (compEnvC scope cl C X.env) fp) ifs (rdT c mt)) (he : ∀ (s : Shared) (H : Hp) (C : Addr) (cl : List (Str × Addr)) (fp : List Addr), DE (X.blk s H scope (compEnvC scope cl C X.env) fp) c elt me)
    (his : ∀ i ∈ is, i ∈ own.map (·.2) := by decide) (hs : ∀ x, foldedSetIterable iter X.env x = pure x := by intro _; rfl) : DL X c (.ListComp elt [⟨tg, iter, ifs, 0⟩] scope pos) (mLcO (own.map (·.2)) mi g mt me) :=
  (pe_lc hc hN hi ok hg ht he hs).imp fun σ H Q ⟨F, u, ρ, S, h⟩ => rdLc his σ H Q F u ρ S h
end
end Mi

set_option Elab.async false
set_option linter.all false
set_option maxRecDepth 100000
set_option maxHeartbeats 2000000
/-! Mi4: owned lists, calls, classes, a def's promise. -/
namespace Mi
open PySem PySem.Spec PyProof.Rows L2
variable [TB : Tabl]

/-! ### owned lists -/
def vOw (ρ : Env) (i : Nat) : Option (List D) := match ρ[i]? with
  | some (.ow ds) => some ds
  | _ => none
def mApp (i : Nat) (m : ME) : MS := fun ρ => M.bind (m ρ) fun d => M.bind (lft (vOw ρ i)) fun ds => M.bind (lft (if ds.length < 100000 then some () else none)) fun _ => M.pure (.nx (ρ.set i (.ow (ds ++ [d]))))
def mPut (i : Nat) (m mi : ME) : MS := fun ρ => M.bind (m ρ) fun d => M.bind (mi ρ) fun k => M.bind (lft (vOw ρ i)) fun ds => M.bind (lft (match k with
  | .int j => ixN ds.length j
  | _ => none)) fun n => M.pure (.nx (ρ.set i (.ow (ds.set n d))))
def mIxO (i : Nat) (mi : ME) : ME := fun ρ => M.bind (mi ρ) fun k => M.bind (lft (vOw ρ i)) fun ds => lft (match k with
  | .int j => atI ds j
  | _ => none)
def mLenO (i : Nat) : ME := fun ρ => M.bind (lft (vOw ρ i)) fun ds => M.pure (.int ds.length)
def frz (i : Nat) (ρ : Env) : Env := match vOw ρ i with
  | some ds => ρ.set i (.sh (.lst ds))
  | none => ρ
def mFrz (i : Nat) (m : MS) : MS := fun ρ => m (frz i ρ)
section
variable {X : Cx} {c : Cf} {pos : Pos} {e ie : Expr} {m mi : ME} {i : Nat} {x : Str}
theorem vOw_at {ρ : Env} {ds : List D} (h : vOw ρ i = some ds) : ρ[i]? = some (.ow ds) := by
  unfold vOw at h
  split at h
  · rename_i z; cases h; exact z
  · cases h
theorem Sta.ow {u : PuS} {F H : Hp} {σ : L2.St} {ρ : Env} {ds : List D} (S : Sta c u F H σ ρ) (h : vOw ρ i = some ds) :
    ∃ q vs, σ[i]? = some (some (.ref q)) ∧ H q = some (.lst vs) ∧ F q = none ∧ q ≠ c.p ∧ c.H0 q = none ∧ Reps c.W c.p F vs ds := S.env.at_ i _ (vOw_at h)
theorem lft_some' {α β : Type} {o : Option α} {f : α → M β} {u : PuS} {p : Addr} {F H : Hp} {Φ : β → PuS → Hp → Hp → Prop} (h : After p F H (M.bind (lft o) f u) Φ) : ∃ a, o = some a ∧ After p F H (f a u) Φ := by
  cases o with
  | none => exact False.elim h
  | some a => exact ⟨a, rfl, h⟩
theorem dApp (i : Nat) {x : Str} {p0 apos cpos : Pos} (he : DE X c e m) (hN : X.N[i]? = some x := by rfl) (hv : Vis X.env.scope x := by first | exact Or.inl rfl | exact Or.inr (Or.inl rfl) | exact Or.inr (Or.inr rfl)) (hd : (x == ("__debug__" : Str)) = false := by decide)
    (hcd : (x == ("__classdict__" : Str)) = false := by decide) (hbase : attributeBase (.Name x p0) "append" X.env (eval (.Name x p0) X.env) = eval (.Name x p0) X.env := by rfl)
    (hfew : ((backTo cpos (starEach [e] X.env)).all (fun x => !x.1) && (backToKw cpos (keywordEach [] X.env)).all (fun x => x.1.isSome)
      && decide (([e] : List Expr).length + ([] : List Keyword).length + (if ([] : List Keyword).isEmpty then 0 else 1) < 30)) = true := by rfl)
    (hline : (apos.endLine == cpos.line) = true := by rfl) (hst : starEach [e] X.env = (false, eval e X.env) :: starEach [] X.env := by rfl) (hplain : (backTo cpos (starEach [] X.env)).any (·.1) = false := by rfl)
    (hs : swapsWith (.Call (.Attribute (.Name x p0) "append" apos) [e] [] cpos) none pos.line X.env = pure false := by rfl) :
    DS X c (.Expr (.Call (.Attribute (.Name x p0) "append" apos) [e] [] cpos) pos) (mApp i m) :=
  (ps_expr (pe_bm PySem.F.plainAttrs_list PySem.F.slot_list_append PySem.F.type_list_append mt_append (pe_var (i := i) hN hv hd hcd) (pa_cons he pa_nil hst) hbase hfew hline hst hplain) hs).imp fun Dn σ H ⟨F, u, ρ, S, h⟩ => by
    unfold mApp at h
    have key : ∀ ds, vOw ρ i = some ds → tDrop (tBM X.K "list" rAppend (tVar i) (tCons (rdE c m) tNil)) Dn σ H := fun ds hds => by
      obtain ⟨q, vs, e1, hq, _⟩ := S.ow hds
      refine ⟨.ref q, e1, .inl ⟨rfl, vs, SqL.of hq⟩, F, u, ρ, S, (flowO.after S h).imp fun d u1 F1 H1 _ s1 g1 h1 v rv => ?_⟩
      obtain ⟨ds', e2, h2⟩ := flowO.lft h1.1 h1.2
      rw [hds] at e2
      cases e2
      obtain ⟨_, e3, h3⟩ := flowO.lft h1.1 h2
      obtain ⟨q', vs', e1', hq', _, _, _, r'⟩ := h1.1.ow hds
      rw [e1] at e1'
      cases e1'
      split at e3
      · rename_i hl
        refine ⟨q, vs', v, rfl, rfl, hq', sz5l (by rw [r'.1]; omega), h3 σ F1 _ (Same.refl _) ?_⟩
        exact h1.1.put (vOw_at hds) e1 (r'.append (Reps.cons rv Reps.nil))
      · cases e3
    cases ho : vOw ρ i with
    | some ds => exact key ds ho
    | none =>
      exfalso
      cases e1 : m ρ u with
      | none =>
        unfold M.bind at h
        rw [e1] at h
        exact h
      | some y =>
        unfold M.bind at h
        rw [e1, ho] at h
        exact h
theorem dPut (i : Nat) {x : Str} {p0 tp : Pos} (he : DE X c e m) (hk : DE X c ie mi) (hN : X.N[i]? = some x := by rfl) (hv : Vis X.env.scope x := by first | exact Or.inl rfl | exact Or.inr (Or.inl rfl) | exact Or.inr (Or.inr rfl)) (hd : (x == ("__debug__" : Str)) = false := by decide)
    (hcd : (x == ("__classdict__" : Str)) = false := by decide)
    (ha : ∀ v, assign (.Subscript (.Name x p0) ie tp) X.env v = (do
      let ov ← holding [v] (eval (.Name x p0) X.env)
      let iv ← holding [v, ov] (eval ie X.env)
      standAt tp
      holding [v, ov, iv] (setItem ov iv v)
      release [v, ov, iv] []) := by intro _; rfl)
    (hs : swapsWithSole [.Subscript (.Name x p0) ie tp] e pos.line X.env = pure false := by rfl) (hw : swappedStores [.Subscript (.Name x p0) ie tp] e X.env = pure none := by rfl)
    (h1 : (assignEach [.Subscript (.Name x p0) ie tp] X.env).map (·.2) = [assign (.Subscript (.Name x p0) ie tp) X.env] := by rfl) : DS X c (.Assign [.Subscript (.Name x p0) ie tp] e pos) (mPut i m mi) :=
  (ps_asg he (pg_sub (pe_var (i := i) hN hv hd hcd) hk set_list ha) hs hw h1).imp fun Dn σ H ⟨F, u, ρ, S, h⟩ => ⟨F, u, ρ, S, (flowO.after S h).imp fun d u1 F1 H1 _ s1 g1 h1 v rv => by
    have key : ∀ ds, vOw ρ i = some ds → ∃ w, σ[i]? = some (some w) ∧ rdE c mi σ H1 fun i' H3 => rSetL w i' v H3 fun H4 => Dn.nx σ H4 := fun ds hds => by
      obtain ⟨q, vs, e1, _⟩ := h1.1.ow hds
      refine ⟨.ref q, e1, F1, u1, ρ, h1.1, (flowO.after h1.1 h1.2).imp fun k u2 F2 H2 _ s2 g2 h2 w rw => ?_⟩
      obtain ⟨ds', e2, h3⟩ := flowO.lft h2.1 h2.2
      rw [hds] at e2
      cases e2
      obtain ⟨n, e3, h4⟩ := flowO.lft h2.1 h3
      obtain ⟨q', vs', e1', hq', _, _, _, r'⟩ := h2.1.ow hds
      rw [e1] at e1'
      cases e1'
      cases k with
      | int j =>
        refine ⟨q, vs', j, n, rfl, rw.int_, hq', by rw [r'.1]; exact e3, h4 σ F2 _ (Same.refl _) (h2.1.put (vOw_at hds) e1 ⟨by simp [r'.1], fun a v' d' ea eb => ?_⟩)⟩
        rcases set_get eb with ⟨rfl, rfl, _⟩ | ⟨ne, eb⟩
        · rcases set_get ea with ⟨_, rfl, _⟩ | ⟨ne, _⟩
          · exact rv.mono s2.ef
          · exact absurd rfl ne
        · rw [List.getElem?_set_ne ne] at ea
          exact r'.2 a v' d' ea eb
      | _ => cases e3
    cases ho : vOw ρ i with
    | some ds => exact key ds ho
    | none =>
      exfalso
      have h2 := h1.2
      unfold M.bind at h2
      cases e1 : mi ρ u1 with
      | none => rw [e1] at h2; exact h2
      | some y => rw [e1, ho] at h2; exact h2⟩
theorem dIxO (i : Nat) {x : Str} {p0 : Pos} (hk : DE X c ie mi) (hN : X.N[i]? = some x := by rfl) (hv : Vis X.env.scope x := by first | exact Or.inl rfl | exact Or.inr (Or.inl rfl) | exact Or.inr (Or.inr rfl)) (hd : (x == ("__debug__" : Str)) = false := by decide)
    (hcd : (x == ("__classdict__" : Str)) = false := by decide) (hs : PlainIx ie := by exact fun _ _ => rfl) : DE X c (.Subscript (.Name x p0) ie pos) (mIxO i mi) :=
  (pe_ix ix_list (pe_var (i := i) hN hv hd hcd) hk hs).imp fun σ H Q ⟨F, u, ρ, S, h⟩ => by
    have key : ∀ ds, vOw ρ i = some ds → ∃ w, σ[i]? = some (some w) ∧ rdE c mi σ H fun y H2 => rIxL X.K w y H2 Q := fun ds hds => by
      obtain ⟨q, vs, e1, _⟩ := S.ow hds
      refine ⟨.ref q, e1, F, u, ρ, S, (After.split h).imp fun k u2 F2 H2 _ s2 g2 h2 w rw => ?_⟩
      obtain ⟨ds', e2, h3⟩ := lft_some' h2
      rw [hds] at e2
      cases e2
      obtain ⟨d, e3, h4⟩ := lft_some h3
      obtain ⟨q', vs', e1', hq', _, _, _, r'⟩ := (S.step s2 g2).ow hds
      rw [e1] at e1'
      cases e1'
      cases k with
      | int j =>
        have e4 : atI ds j = some d := e3
        unfold atI at e4
        cases hj : ixN ds.length j with
        | none => rw [hj] at e4; cases e4
        | some n =>
          rw [hj] at e4
          obtain ⟨v, ev, rv⟩ := r'.get e4
          refine ⟨q, vs', j, v, rfl, rw.int_, SqL.of hq', by unfold atI; rw [r'.1, hj]; exact ev, After.now g2 h4 v rv⟩
      | _ => cases e3
    cases ho : vOw ρ i with
    | some ds => exact key ds ho
    | none =>
      exfalso
      unfold mIxO M.bind at h
      cases e1 : mi ρ u with
      | none => rw [e1] at h; exact h
      | some y => rw [e1, ho] at h; exact h
theorem dLenO (i : Nat) {x : Str} {p0 q0 : Pos} (hg : Gl X "len") (hm : X.mg "len" = none) (hN : X.N[i]? = some x := by rfl) (hv : Vis X.env.scope x := by first | exact Or.inl rfl | exact Or.inr (Or.inl rfl) | exact Or.inr (Or.inr rfl)) (hd : (x == ("__debug__" : Str)) = false := by decide)
    (hcd : (x == ("__classdict__" : Str)) = false := by decide) : DE X c (.Call (.Name "len" q0) [.Name x p0] [] pos) (mLenO i) :=
  (pe_callB call_len_seq hg hm PySem.boot_len (pa_cons (pe_var (i := i) hN hv hd hcd) pa_nil)).imp fun σ H Q ⟨F, u, ρ, S, h⟩ => by
    obtain ⟨ds, e1, h2⟩ := lft_some' h
    obtain ⟨q, vs, e2, hq, _, _, _, r⟩ := S.ow e1
    have h3 : After c.p F H (some (D.int ds.length, u)) (fun d _ F' H' => ∀ v, Rep c.W c.p F' v d → Q v H') := h2
    refine ⟨.ref q, e2, q, vs, rfl, .inl (SqL.of hq), After.now S.gd h3 _ ?_⟩
    rw [r.1]
    exact .int _
theorem Sta.frz {u : PuS} {F H : Hp} {σ : L2.St} {ρ : Env} (S : Sta c u F H σ ρ) (i : Nat) : ∃ F', Same F F' ∧ Sta c u F' H σ (frz i ρ) := by
  unfold Mi.frz
  cases ho : vOw ρ i with
  | none => exact ⟨F, Same.refl F, S⟩
  | some ds =>
    obtain ⟨q, vs, e1, hq, hf, hp, h0, r⟩ := S.ow ho
    have hsm : Same F (upd F q (.lst vs)) := fun a o e => by rw [upd_ne (fun z => by rw [z, hf] at e; cases e)]; exact e
    have qs : ∀ {j : Nat} {t : Sd} {a : Addr}, i ≠ j → ρ[j]? = some t → t.own = true → σ[j]? = some (some (.ref a)) → a ≠ q := fun {j t a} ne e2 o z h => by
      subst h
      exact S.env.ne i j _ t ne (vOw_at ho) e2 rfl o (e1.trans z.symm)
    refine ⟨upd F q (.lst vs), hsm, ⟨S.ent.ef.trans hsm, S.ent.eh, S.ent.et, fun a o e => ?_⟩, ⟨fun a o e => ?_, S.gd.pu, fun l e => by rw [upd_ne (Ne.symm hp)]; exact S.gd.off l e, nt_upd S.gd.nt (by intro _ z; cases z), S.gd.tb, S.gd.hp⟩, by simpa using S.env.len, fun j t e => ?_, fun j k t t' h ea eb o1 o2 => ?_⟩
    · by_cases ha : a = q
      · subst ha; exact .inr h0
      · rw [upd_ne ha] at e; exact S.ent.nw a o e
    · by_cases ha : a = q
      · subst ha; rw [upd_same] at e; cases e; exact hq
      · rw [upd_ne ha] at e; exact S.gd.ex a o e
    · rcases set_get e with ⟨rfl, rfl, _⟩ | ⟨ne, e⟩
      · exact ⟨.ref q, e1, Rep.mkL upd_same (r.mono hsm)⟩
      · have k := S.env.at_ j t e
        cases t with
        | un => trivial
        | sh d => obtain ⟨v, z, r'⟩ := k; exact ⟨v, z, r'.mono hsm⟩
        | ow es => obtain ⟨a, xs, z, ha, hfa, w1, w2, r'⟩ := k; exact ⟨a, xs, z, ha, by rw [upd_ne (qs ne e rfl z)]; exact hfa, w1, w2, r'.mono hsm⟩
        | oi kk ks es => obtain ⟨dx, xs, z, ha, hfa, w1, w2, w3, r'⟩ := k; exact ⟨dx, xs, z, ha, by rw [upd_ne (qs ne e rfl z)]; exact hfa, w1, w2, w3, r'.mono hsm⟩
        | od ks es => obtain ⟨a, ob, xs, ws, z, ha, hfa, w1, w2, w3, r'⟩ := k; exact ⟨a, ob, xs, ws, z, ha, by rw [upd_ne (qs ne e rfl z)]; exact hfa, w1, w2, w3, r'.mono hsm⟩
        | oz ks es => obtain ⟨a, xs, z, ha, hfa, w1, w2, w3, r'⟩ := k; exact ⟨a, xs, z, ha, by rw [upd_ne (qs ne e rfl z)]; exact hfa, w1, w2, w3, r'.mono hsm⟩
    · rcases set_get ea with ⟨rfl, rfl, _⟩ | ⟨n1, ea⟩
      · cases o1
      · rcases set_get eb with ⟨rfl, rfl, _⟩ | ⟨n2, eb⟩
        · cases o2
        · exact S.env.ne j k t t' h ea eb o1 o2
theorem dFrzS (i : Nat) {st : Stmt} {ms : MS} (h : DS X c st ms) : DS X c st (mFrz i ms) := h.imp fun Dn σ H ⟨F, u, ρ, S, h⟩ => by
  obtain ⟨F', sm, S'⟩ := S.frz i
  exact ⟨F', u, _, S', flowO.mono sm h⟩
end

/-! ### a def's promise -/
def startE (n : Nat) (ds : List D) : Env := ds.map Sd.sh ++ List.replicate (n - ds.length) Sd.un
def mFn (n : Nat) (mb : MS) : List D → M D := fun ds u => match mb (startE n ds) u with
  | some (.rt d, u') => some (d, u')
  | some (.nx _, u') => some (.non, u')
  | _ => none
theorem env_start {c : Cf} {F H : Hp} {N : List Str} {vs : List V} {ds : List D} (r : Reps c.W c.p F vs ds) : EnvOk c F H (L2.start N vs) (startE N.length ds) := by
  have hl := r.1
  have nown : ∀ {i : Nat} {s : Sd}, (startE N.length ds)[i]? = some s → s.own = false := fun {i s} e => by
    unfold startE at e
    by_cases hi : i < (ds.map Sd.sh).length
    · rw [List.getElem?_append_left hi, List.getElem?_map] at e
      cases q : ds[i]? with
      | none => rw [q] at e; cases e
      | some d => rw [q] at e; cases e; rfl
    · rw [List.getElem?_append_right (by omega), List.getElem?_replicate] at e
      split at e
      · cases e; rfl
      · cases e
  refine ⟨?_, fun i s e => ?_, fun i j s t _ e1 _ o1 _ => by rw [nown e1] at o1; cases o1⟩
  · unfold L2.start startE
    simp [hl]
  · unfold startE at e
    by_cases hi : i < (ds.map Sd.sh).length
    · rw [List.getElem?_append_left hi, List.getElem?_map] at e
      cases q : ds[i]? with
      | none => rw [q] at e; cases e
      | some d =>
        rw [q] at e
        cases e
        obtain ⟨v, ev, rv⟩ := r.get q
        refine ⟨v, ?_, rv⟩
        unfold L2.start
        rw [List.getElem?_append_left (by simpa [hl] using hi), List.getElem?_map, ev]
        rfl
    · rw [List.getElem?_append_right (by omega), List.getElem?_replicate] at e
      split at e
      · cases e; trivial
      · cases e
section
variable {P : Program} {w : World} {K : PySem.W.Frag} {mg : Str → Option Value} {base : Heap} {x qual : Str} {params : Arguments} {body : List Stmt} {scope : Scope} {dvs : List V} {kws : List (Str × V)} {f : Addr} {fd : FuncData} {W : Wo} {N ps : List Str} {k : Nat} {mb : MS}
/-- a def by its body's mirror -/
theorem fn_mir (F : FunD K x qual params body scope dvs kws f fd) (S : FnScope N ps scope)
    (hb : ∀ (cdv : Value) (A : Around) (outer : List PySem.Env) (s : Shared) (H : Hp) (E : XK) (p : Addr) (F0 : Hp), Room k (A.deeper (envOfC qual scope s.heap.objs.size f cdv)) → DB (cxOf CX0 P w K mg base N qual scope f cdv A outer s H E).nox ⟨W, p, F0, H, 0, noX⟩ body mb) :
    FnOk P w K mg base CX0 (k + 1) f fd ps (spM W ps.length (mFn N.length mb)) := by
  refine F.ok S (fun vs H Q E h => h.1) (fun cdv A outer s H vs Q E hr h => ?_)
  obtain ⟨hl, p, F0, u, ds, g, r, h⟩ := h
  refine ⟨_, PSs.nox (hb cdv A outer s H E p F0 hr), F0, u, startE N.length ds, ⟨Stp.refl, g, env_start r⟩, ?_⟩
  unfold mFn at h
  cases e : mb (startE N.length ds) u with
  | none => rw [e] at h; exact h
  | some y =>
    obtain ⟨fl, u1⟩ := y
    rw [e] at h
    cases fl with
    | rt d =>
      intro v F' H' s' g' rv
      have h2 : After p F0 H (some (d, u1)) (fun d _ F' H' => ∀ v, Rep W p F' v d → Q v H') := h
      exact h2 F' H' s' g' v rv
    | rl ds' => exact False.elim h
    | nx ρ' =>
      intro σ' F' H' _ S'
      have h2 : After p F0 H (some (D.non, u1)) (fun d _ F' H' => ∀ v, Rep W p F' v d → Q v H') := h
      exact h2 F' H' S'.ent S'.gd .non .non
    | bk ρ' => exact False.elim h
    | ct ρ' => exact False.elim h
    | ex ρ' k' ks' ds' => exact False.elim h
end

/-! ### calls -/
def mCall (n : Nat) (mf : List D → M D) (ms : MA) : ME := fun ρ => M.bind (ms ρ) fun ds => if ds.length = n then mf ds else lft none
section
variable {X : Cx} {c : Cf} {CX : CXT} {k n : Nat} {f : Addr} {fd : FuncData} {ps : List Str} {x m : Str} {p pos apos : Pos} {e o : Expr} {es : List Expr} {ms : MA} {mo : ME} {mf : List D → M D}
theorem call_ok {p : Addr} {F H : Hp} {u : PuS} {vs : List V} {ds : List D} {W : Wo} {Q : VK} {E : XK} (g : Gd p u F H) (r : Reps W p F vs ds) (h : After p F H ((if ds.length = n then mf ds else lft none) u) fun d _ F' H' => ∀ v, Rep W p F' v d → Q v H') : spM W n mf vs H Q E := by
  by_cases hl : ds.length = n
  · rw [if_pos hl] at h
    exact ⟨r.1.trans hl, p, F, u, ds, g, r, h⟩
  · rw [if_neg hl] at h; exact False.elim h
theorem dCall (G : FnOk X.prog X.w X.K X.mg X.base CX0 k f fd ps (spM c.W n mf)) (hr : Room k X.A) (hg : Gl X x) (hm : X.mg x = some (.ref f)) (hk : PySem.W.keepIn X.K (.ref f) = true) (hb : Binds X.K fd ps [])
    (ha : DA X c (e :: es) ms) (hdb : (x == ("__debug__" : Str)) = false := by decide) (he : starEach (e :: es) X.env = (false, eval e X.env) :: starEach es X.env := by rfl) (hpl : (backTo pos (starEach es X.env)).any (·.1) = false := by rfl) :
    DE X c (.Call (.Name x p) (e :: es) [] pos) (mCall n mf ms) :=
  (pe_call G hr hg hm hk hb .nil pass0 ha hdb he hpl).imp fun σ H Q ⟨F, u, ρ, S, h⟩ => ⟨F, u, ρ, S, (After.split h).imp fun ds u1 F1 H1 _ s1 g1 h1 vs rvs => by
    show spM c.W n mf (vs ++ []) H1 Q E0
    rw [List.append_nil]
    exact call_ok g1 rvs h1⟩
theorem dCall0 (G : FnOk X.prog X.w X.K X.mg X.base CX0 k f fd ps (spM c.W 0 mf)) (hr : Room k X.A) (hg : Gl X x) (hm : X.mg x = some (.ref f)) (hk : PySem.W.keepIn X.K (.ref f) = true) (hb : Binds X.K fd ps [])
    (hdb : (x == ("__debug__" : Str)) = false := by decide) : DE X c (.Call (.Name x p) [] [] pos) (mCall 0 mf mNil) :=
  (pe_call0 G hr hg hm hk hb .nil pass0 hdb).imp fun σ H Q ⟨F, u, ρ, S, h⟩ => by
    show spM c.W 0 mf ([] ++ []) H Q E0
    exact call_ok (ds := []) S.gd Reps.nil h

/-! ### fields, properties, methods -/
/-- the field number i of an object of the class k with the fields ks -/
def fldD (k : Str) (ks : List Str) (i : Nat) : D → Option D := fun d => match d with
  | .obj c ks' ds => if c = k ∧ ks' = ks then ds[i]? else none
  | _ => none
theorem zip_lookup {ks : List Str} {vs : List V} {i : Nat} {f : Str} {v : V} (nd : ks.Nodup) (hk : ks[i]? = some f) (hv : vs[i]? = some v) : (ks.zip vs).lookup f = some v := by
  induction ks generalizing vs i with
  | nil => cases hk
  | cons a ks ih =>
    cases vs with
    | nil => cases hv
    | cons b vs =>
      cases i with
      | zero =>
        simp at hk hv
        subst hk hv
        simp [List.lookup]
      | succ i =>
        simp at hk hv
        have hne : (f == a) = false := by
          rw [beq_eq_false_iff_ne]
          rintro rfl
          exact (List.nodup_cons.mp nd).1 (List.mem_of_getElem? hk)
        show (match f == a with | true => some b | false => (ks.zip vs).lookup f) = some v
        rw [hne]
        exact ih (List.nodup_cons.mp nd).2 hk hv
theorem zip_none {ks : List Str} {vs : List V} {f : Str} (h : f ∉ ks) : (ks.zip vs).lookup f = none := by
  induction ks generalizing vs with
  | nil => rfl
  | cons a ks ih =>
    cases vs with
    | nil => rfl
    | cons b vs =>
      have hne : (f == a) = false := by
        rw [beq_eq_false_iff_ne]
        rintro rfl
        exact h (List.mem_cons_self ..)
      show (match f == a with | true => some b | false => (ks.zip vs).lookup f) = none
      rw [hne]
      exact ih fun z => h (List.mem_cons_of_mem _ z)
theorem dFld {ck f : Str} {ks : List Str} (i : Nat) (hi : ks[i]? = some f) (nd : ks.Nodup) (hc : Cls X.K (c.W.cl ck)) (hn : NoAttr X.K (c.W.cl ck) f) (he : DE X c e mo) (hb : attributeBase e f X.env (eval e X.env) = eval e X.env := by rfl) : DE X c (.Attribute e f pos) (mUn (fldD ck ks i) mo) :=
  (pe_fld he hb).imp fun σ H Q ⟨F, u, ρ, S, h⟩ => ⟨F, u, ρ, S, (After.split h).imp fun d u1 F1 H1 _ s1 g1 h1 v rv => by
    obtain ⟨y, e1, h2⟩ := lft_some h1
    unfold fldD at e1
    split at e1
    · rename_i c' ks' ds _h
      split at e1
      · rename_i hh
        obtain ⟨rfl, rfl⟩ := hh
        obtain ⟨a, dx, vs, rfl, ha, lk, r⟩ := rv.obj_
        obtain ⟨w, ew, rw⟩ := r.get e1
        exact ⟨a, _, dx, _, w, rfl, g1.ex _ _ ha, hc, hn, zip_lookup nd hi ew, After.now g1 h2 w rw⟩
      · cases e1
    · cases e1⟩
def mSelf (k : Str) (mf : List D → M D) (mo : ME) : ME := fun ρ => M.bind (mo ρ) fun d => match d with
  | .obj c ks ds => if c = k then mf [.obj c ks ds] else lft none
  | _ => lft none
theorem dProp {ck f : Str} {pr g : Addr} (he : DE X c e mo) (hc : Cls X.K (c.W.cl ck)) (hp : PropOf X.K (c.W.cl ck) f pr g) (G : FnOk X.prog X.w X.K X.mg X.base CX0 k g fd ps (spM c.W 1 mf)) (hr : Room (k + 1) X.A) (hb : Binds X.K fd ps [])
    (hab : attributeBase e f X.env (eval e X.env) = eval e X.env := by rfl) : DE X c (.Attribute e f pos) (mSelf ck mf mo) :=
  (pe_prop he hc hp G hr hb .nil pass0 hab).imp fun σ H Q ⟨F, u, ρ, S, h⟩ => ⟨F, u, ρ, S, (After.split h).imp fun d u1 F1 H1 _ s1 g1 h1 v rv => by
    split at h1
    · rename_i c' ks' ds _h
      split at h1
      · rename_i hh
        subst hh
        obtain ⟨a, dx, vs, rfl, ha, lk, r⟩ := id rv.obj_
        exact ⟨a, dx, _, rfl, g1.ex _ _ ha, rfl, c.p, F1, u1, [_], g1, Reps.cons rv Reps.nil, h1⟩
      · exact False.elim h1
    · exact False.elim h1⟩
/-- o.m(e, ..) -/
def mMeth (k m : Str) (n : Nat) (mf : List D → M D) (mo : ME) (ms : MA) : ME := fun ρ => M.bind (mo ρ) fun d => match d with
  | .obj c ks ds => if c = k ∧ m ∉ ks then M.bind (ms ρ) fun es => if es.length = n then mf (.obj c ks ds :: es) else lft none else lft none
  | _ => lft none
theorem dMeth {ck : Str} {pl : Sem Bool} (he : DE X c o mo) (hc : Cls X.K (c.W.cl ck)) (hm : Meth X.K (c.W.cl ck) m f) (G : FnOk X.prog X.w X.K X.mg X.base CX0 k f fd ps (spM c.W (n + 1) mf)) (hr : Room k X.A) (hb : Binds X.K fd ps []) (ha : DA X c (e :: es) ms)
    (hst : starEach (e :: es) X.env = (false, eval e X.env) :: starEach es X.env := by rfl) (hpl : (backTo pos (starEach es X.env)).any (·.1) = false := by rfl)
    (ht : eval (.Call (.Attribute o m apos) (e :: es) [] pos) X.env = (do
      let ov ← eval o X.env
      standAt apos.atName
      let (f, first) ← holding [ov] (getMethod ov m pl)
      callWith pos f first (backTo pos (starEach (e :: es) X.env)) (backToKw pos (keywordEach [] X.env))) := by rfl) :
    DE X c (.Call (.Attribute o m apos) (e :: es) [] pos) (mMeth ck m n mf mo ms) :=
  (pe_meth he hc hm G hr hb .nil pass0 ha hst hpl ht).imp fun σ H Q ⟨F, u, ρ, S, h⟩ => ⟨F, u, ρ, S, (After.split h).imp fun d u1 F1 H1 _ s1 g1 h1 v rv => by
    split at h1
    · rename_i c' ks' ds _h
      split at h1
      · rename_i hh
        obtain ⟨hh, hnm⟩ := hh
        subst hh
        obtain ⟨a, dx, vs, rfl, ha, lk, r⟩ := id rv.obj_
        refine ⟨a, dx, _, rfl, g1.ex _ _ ha, zip_none hnm, F1, u1, ρ, S.step s1 g1, (After.split h1).imp fun xs u2 F2 H2 _ s2 g2 h2 ws rws => ?_⟩
        split at h2
        · rename_i hl
          show spM c.W (n + 1) mf (.ref a :: (ws ++ [])) H2 Q E0
          rw [List.append_nil]
          exact ⟨by simp [rws.1, hl], c.p, F2, u2, _ :: xs, g2, Reps.cons (rv.mono s2.ef) rws, h2⟩
        · exact False.elim h2
      · exact False.elim h1
    · exact False.elim h1⟩
end
end Mi

set_option Elab.async false
set_option linter.all false
set_option maxRecDepth 100000
set_option maxHeartbeats 2000000
/-! Mi5: mirrors of operators and built-ins. -/
namespace Mi
open PySem PySem.Spec PyProof.Rows L2
variable [TB : Tabl]

section
variable {W : Wo} {p : Addr} {F H : Hp} {u : PuS}
theorem OpM.ret {Q : VK} {d : D} {o : Option D} {v : V} (g : Gd p u F H) (h : After p F H (lft o u) fun d _ F' H' => ∀ v, Rep W p F' v d → Q v H') (e : o = some d) (r : Rep W p F v d) : Q v H := by
  subst e
  exact After.now g h v r
theorem OpM.new {Q : VK} {d : D} {o : Option D} {q : Addr} {ob : HO} (g : Gd p u F H) (h : After p F H (lft o u) fun d _ F' H' => ∀ v, Rep W p F' v d → Q v H') (e : o = some d) (hq : H q = none) (r : Same F (upd F q ob) → Rep W p (upd F q ob) (.ref q) d) (no : ∀ ps, ob ≠ .tbl ps := by intro _ z; cases z) : Q (.ref q) (upd H q ob) := by
  subst e
  exact h _ _ (Stp.new g hq) (g.new hq no) _ (r (Stp.new g hq).ef)
end

/-! ### ints -/
def int2 (f : Int → Int → Option D) : D → D → Option D
  | .int a, .int b => f a b
  | _, _ => none
theorem int2_some {f : Int → Int → Option D} {a b d : D} (h : int2 f a b = some d) : ∃ i j, a = .int i ∧ b = .int j ∧ f i j = some d := by
  unfold int2 at h
  split at h
  · exact ⟨_, _, rfl, rfl, h⟩
  · cases h
/-- an operator on ints with a condition C, mirrored by the decidable condition c -/
theorem opm_I {W : Wo} {C : Int → Int → Prop} {g : Int → Int → V} {c : Int → Int → Bool} {f : Int → Int → D} (hc : ∀ i j, c i j = true → C i j) (hg : ∀ p F i j, Rep W p F (g i j) (f i j)) : OpM W (rI C g) (int2 fun i j => if c i j = true then some (f i j) else none) := by
  intro p F H u x y a b Q gd rx ry h
  obtain ⟨d, e, _⟩ := lft_some h
  obtain ⟨i, j, rfl, rfl, e2⟩ := int2_some e
  split at e2
  · rename_i hcc
    cases e2
    exact ⟨i, j, rx.int_, ry.int_, hc i j hcc, OpM.ret gd h e (hg p F i j)⟩
  · cases e2
theorem opm_I0 {W : Wo} {g : Int → Int → V} {f : Int → Int → D} (hg : ∀ p F i j, Rep W p F (g i j) (f i j)) : OpM W (rI0 g) (int2 fun i j => some (f i j)) := by
  intro p F H u x y a b Q gd rx ry h
  obtain ⟨d, e, _⟩ := lft_some h
  obtain ⟨i, j, rfl, rfl, e2⟩ := int2_some e
  cases e2
  exact ⟨i, j, rx.int_, ry.int_, OpM.ret gd h e (hg p F i j)⟩
def subD : D → D → Option D := int2 fun i j => some (.int (i - j))
def ltD : D → D → Option D := int2 fun i j => some (.bl (decide (i < j)))
def leD : D → D → Option D := int2 fun i j => some (.bl (decide (i ≤ j)))
def gtD : D → D → Option D := int2 fun i j => some (.bl (decide (j < i)))
def geD : D → D → Option D := int2 fun i j => some (.bl (decide (j ≤ i)))
def fdivC (_ j : Int) : Bool := decide (0 < j ∧ j.natAbs.log2 < 9000)
def fdivD : D → D → Option D := int2 fun i j => if fdivC i j = true then some (.int (i / j)) else none
def modD : D → D → Option D := int2 fun i j => if decide (0 < j) = true then some (.int (i % j)) else none
def powC (i j : Int) : Bool := decide (0 ≤ j ∧ j ≤ 1000000 ∧ i.natAbs < 18446744073709551616)
def powD : D → D → Option D := int2 fun i j => if powC i j = true then some (.int (i ^ j.toNat)) else none
def CMulA (i j : Int) : Prop := CMul i j ∨ CMulW i j
def mulC (i j : Int) : Bool := decide ((-(2 ^ 64) < i ∧ i < 2 ^ 64) ∨ (-(2 ^ 64) < j ∧ j < 2 ^ 64)) || decide (i.natAbs.log2 + j.natAbs.log2 < 1000000)
theorem mulC_ok {i j : Int} (h : mulC i j = true) : CMulA i j := by
  unfold mulC at h
  rcases Bool.or_eq_true_iff.mp h with h | h
  · exact .inl (of_decide_eq_true (p := (-(2 ^ 64) < i ∧ i < 2 ^ 64) ∨ (-(2 ^ 64) < j ∧ j < 2 ^ 64)) h)
  · exact .inr (of_decide_eq_true (p := i.natAbs.log2 + j.natAbs.log2 < 1000000) h)
theorem CMulA.ok {i j : Int} (h : CMulA i j) : IntMulOk i j := h.elim CMul.ok CMulW.ok
theorem op_mulB {X : Cx} : OpR X (binaryOp .Mult) (rI CMulA fun i j => .int (i * j)) := opI fun _ _ _ _ _ _ _ hc q => mul_int q hc.ok
theorem m_sub {W : Wo} : OpM W (rI0 fun i j => .int (i - j)) subD := opm_I0 fun _ _ _ _ => .int _
theorem m_lt {W : Wo} : OpM W (rI0 fun i j => .bl (decide (i < j))) ltD := opm_I0 fun _ _ _ _ => .bl _
theorem m_le {W : Wo} : OpM W (rI0 fun i j => .bl (decide (i ≤ j))) leD := opm_I0 fun _ _ _ _ => .bl _
theorem m_gt {W : Wo} : OpM W (rI0 fun i j => .bl (decide (j < i))) gtD := opm_I0 fun _ _ _ _ => .bl _
theorem m_ge {W : Wo} : OpM W (rI0 fun i j => .bl (decide (j ≤ i))) geD := opm_I0 fun _ _ _ _ => .bl _
theorem m_fdiv {W : Wo} : OpM W (rI CDivW fun i j => .int (i / j)) fdivD := opm_I (fun i j h => of_decide_eq_true (p := 0 < j ∧ j.natAbs.log2 < 9000) h) fun _ _ _ _ => .int _
theorem m_mod {W : Wo} : OpM W (rI (fun _ j => 0 < j) fun i j => .int (i % j)) modD := opm_I (fun i j h => of_decide_eq_true h) fun _ _ _ _ => .int _
theorem m_pow {W : Wo} : OpM W (rI CPow fun i j => .int (i ^ j.toNat)) powD := opm_I (fun i j h => by
  have := of_decide_eq_true h
  exact ⟨this.1, this.2.1, by have e : (2 : Nat) ^ 64 = 18446744073709551616 := by decide
                              rw [e]; exact this.2.2⟩) fun _ _ _ _ => .int _
def negD : D → Option D
  | .int i => some (.int (-i))
  | _ => none
theorem m_neg {W : Wo} : UnM W (rU fun i => .int (-i)) negD := by
  intro p F H u x a Q gd rx h
  obtain ⟨d, e, _⟩ := lft_some h
  cases a with
  | int i => cases e; exact ⟨i, rx.int_, OpM.ret gd h rfl (.int _)⟩
  | _ => cases e

/-! ### + and * -/
def addD : D → D → Option D
  | .int a, .int b => some (.int (a + b))
  | .str a, .str b => if a.length + b.length ≤ 10000000 then some (.str (a ++ b)) else none
  | .lst a, .lst b => if a.length + b.length ≤ 100000 then some (.lst (a ++ b)) else none
  | .tup a, .tup b => if a.length + b.length ≤ 100000 then some (.tup (a ++ b)) else none
  | _, _ => none
def rAddA (K : PySem.W.Frag) : R2 := fun x y H Q => rI0 (fun i j => .int (i + j)) x y H Q ∨ (∃ i j, x = .str i ∧ y = .str j ∧ i.length + j.length ≤ sizeLine ∧ Q (.str (i ++ j)) H) ∨ rCat x y H Q ∨ rCatA K x y H Q
theorem op_addA {X : Cx} : OpR X (binaryOp .Add) (rAddA X.K) := op_add.or (op_add_str.or (op_cat.or op_catA))
theorem m_add {W : Wo} : OpM W (rAddA W.K) addD := by
  intro p F H u x y a b Q gd rx ry h
  obtain ⟨d, e, _⟩ := lft_some h
  unfold addD at e
  split at e
  · cases e
    exact .inl ⟨_, _, rx.int_, ry.int_, OpM.ret gd h rfl (.int _)⟩
  · rename_i i j
    split at e
    · rename_i hl
      cases e
      exact .inr (.inl ⟨i, j, rx.str_, ry.str_, Nat.le_trans hl (by decide), OpM.ret gd h (if_pos hl) (.str _)⟩)
    · cases e
  · rename_i xs ys
    split at e
    · rename_i hl
      cases e
      obtain ⟨a, vs, rfl, ha, ra⟩ := rx.lst_
      obtain ⟨b, ws, rfl, hb, rb⟩ := ry.lst_
      exact .inr (.inr (.inl ⟨a, b, vs, ws, rfl, rfl, gd.ex _ _ ha, gd.ex _ _ hb, sz5 (by rw [ra.1, rb.1]; exact hl), fun q hq => OpM.new gd h (if_pos hl) hq fun sm => Rep.mkL upd_same ((ra.mono sm).append (rb.mono sm))⟩))
    · cases e
  · rename_i xs ys
    split at e
    · rename_i hl
      cases e
      obtain ⟨a, vs, rfl, ha, ra⟩ := id rx.tup_
      obtain ⟨b, ws, rfl, hb, rb⟩ := id ry.tup_
      refine .inr (.inr (.inr ⟨a, b, vs, ws, rfl, rfl, sq_t gd.ex ha, sq_t gd.ex hb, sz5 (by rw [ra.1, rb.1]; exact hl), fun z => ?_, fun z z2 => ?_, fun z z2 q hq => OpM.new gd h (if_pos hl) hq fun sm => Rep.mkT upd_same ((ra.mono sm).append (rb.mono sm))⟩))
      · have e0 : xs = [] := List.eq_nil_of_length_eq_zero (by rw [← ra.1, z]; rfl)
        exact OpM.ret gd h (if_pos hl) (by rw [e0]; exact ry)
      · have e0 : ys = [] := List.eq_nil_of_length_eq_zero (by rw [← rb.1, z2]; rfl)
        exact OpM.ret gd h (if_pos hl) (by rw [e0, List.append_nil]; exact rx)
    · cases e
  · cases e
theorem Reps.rep {W : Wo} {p : Addr} {F : Hp} {vs : List V} {ds : List D} (r : Reps W p F vs ds) : ∀ n : Nat, Reps W p F (List.replicate n vs).flatten (List.replicate n ds).flatten
  | 0 => Reps.nil
  | n + 1 => by
    rw [List.replicate_succ, List.replicate_succ, List.flatten_cons, List.flatten_cons]
    exact r.append (Reps.rep r n)
def mulD : D → D → Option D
  | .int a, .int b => if mulC a b = true then some (.int (a * b)) else none
  | .lst a, .int k => if k ≤ 100000 ∧ -100000 ≤ k ∧ a.length * k.toNat ≤ 100000 then some (.lst (List.replicate k.toNat a).flatten) else none
  | _, _ => none
def rMulA : R2 := fun x y H Q => rI CMulA (fun i j => .int (i * j)) x y H Q ∨ rRep x y H Q
theorem op_mulA {X : Cx} : OpR X (binaryOp .Mult) rMulA := op_mulB.or op_rep
theorem m_mul {W : Wo} : OpM W rMulA mulD := by
  intro p F H u x y a b Q gd rx ry h
  obtain ⟨d, e, _⟩ := lft_some h
  unfold mulD at e
  split at e
  · split at e
    · rename_i hc
      cases e
      exact .inl ⟨_, _, rx.int_, ry.int_, mulC_ok hc, OpM.ret gd h (if_pos hc) (.int _)⟩
    · cases e
  · rename_i xs k
    split at e
    · rename_i hl
      cases e
      obtain ⟨a, vs, rfl, ha, ra⟩ := rx.lst_
      refine .inr ⟨a, k, vs, rfl, ry.int_, gd.ex _ _ ha, by omega, by omega, sz5 (by rw [ra.1]; exact hl.2.2), fun q hq => OpM.new gd h (if_pos hl) hq fun sm => Rep.mkL upd_same ((ra.mono sm).rep _)⟩
    · cases e
  · cases e

/-! ### == and != of plain data -/
mutual
def toPD : D → Option PyData
  | .non => some .none
  | .bl b => some (.bool b)
  | .int i => some (.int i)
  | .str x => some (.str x)
  | .tup ds => (toPDs ds).map .tuple
  | .lst ds => (toPDs ds).map .list
  | _ => none
def toPDs : List D → Option (List PyData)
  | [] => some []
  | d :: ds => match toPD d, toPDs ds with
    | some a, some as => some (a :: as)
    | _, _ => none
end
mutual
theorem dp_of {W : Wo} {p : Addr} {F H : Hp} (sm : Same F H) : ∀ (d : D) (v : V) (a : PyData), Rep W p F v d → toPD d = some a → Dp W.K H v a
  | .non, v, a, r, e => by cases e; cases r; exact .non
  | .bl b, v, a, r, e => by cases e; cases r; exact .bl b
  | .int i, v, a, r, e => by cases e; cases r; exact .int i
  | .str x, v, a, r, e => by cases e; cases r; exact .str x
  | .tup ds, v, a, r, e => by
    obtain ⟨q, vs, rfl, h, rs⟩ := r.tup_
    unfold toPD at e
    cases e1 : toPDs ds with
    | none => rw [e1] at e; cases e
    | some as => rw [e1] at e; cases e; exact .tup (sq_t sm h) (dps_of sm ds vs as rs e1)
  | .lst ds, v, a, r, e => by
    obtain ⟨q, vs, rfl, h, rs⟩ := r.lst_
    unfold toPD at e
    cases e1 : toPDs ds with
    | none => rw [e1] at e; cases e
    | some as => rw [e1] at e; cases e; exact .lst (SqL.of (sm _ _ h)) (dps_of sm ds vs as rs e1)
  | .obj _ _ _, v, a, r, e => by cases e
  | .pur, v, a, r, e => by cases e
  | .ty _, v, a, r, e => by cases e
  | .cls _, v, a, r, e => by cases e
theorem dps_of {W : Wo} {p : Addr} {F H : Hp} (sm : Same F H) : ∀ (ds : List D) (vs : List V) (as : List PyData), Reps W p F vs ds → toPDs ds = some as → DpAll W.K H vs as
  | [], vs, as, r, e => by cases e; rw [r.none]; exact .nil
  | d :: ds, vs, as, r, e => by
    obtain ⟨v, vr, rfl, r1, r2⟩ := r.uncons
    unfold toPDs at e
    cases e1 : toPD d with
    | none => rw [e1] at e; cases e
    | some a =>
      cases e2 : toPDs ds with
      | none => rw [e1, e2] at e; cases e
      | some as' =>
        rw [e1, e2] at e
        cases e
        exact .cons (dp_of sm d v a r1 e1) (dps_of sm ds vr as' r2 e2)
end
def eqD : D → D → Option Bool := fun x y => match toPD x, toPD y with
  | some a, some b => if SeqAt.shaped a = true ∧ SeqAt.shaped b = true then some (PyData.eqv a b) else none
  | _, _ => none
def eqMD : D → D → Option D := fun x y => (eqD x y).map .bl
def neMD : D → D → Option D := fun x y => (eqD x y).map fun b => .bl (!b)
theorem eqD_some {W : Wo} {p : Addr} {F H : Hp} {x y : V} {a b : D} {r : Bool} (sm : Same F H) (rx : Rep W p F x a) (ry : Rep W p F y b) (e : eqD a b = some r) : ∃ d d', Dp W.K H x d ∧ Dp W.K H y d' ∧ SeqAt.shaped d = true ∧ SeqAt.shaped d' = true ∧ PyData.eqv d d' = r := by
  unfold eqD at e
  split at e
  · rename_i d d' e1 e2
    split at e
    · rename_i hs
      cases e
      exact ⟨d, d', dp_of sm a x d rx e1, dp_of sm b y d' ry e2, hs.1, hs.2, rfl⟩
    · cases e
  · cases e
theorem m_eq {W : Wo} : OpM W (rEqD W.K) eqMD := by
  intro p F H u x y a b Q gd rx ry h
  obtain ⟨d, e, _⟩ := lft_some h
  unfold eqMD at e
  cases e1 : eqD a b with
  | none => rw [e1] at e; cases e
  | some r =>
    obtain ⟨d1, d2, h1, h2, h3, h4, h5⟩ := eqD_some gd.ex rx ry e1
    refine ⟨d1, d2, h1, h2, h3, h4, ?_⟩
    rw [h5]
    exact OpM.ret gd h (by unfold eqMD; rw [e1]; rfl) (.bl r)
theorem m_ne {W : Wo} : OpM W (rNeD W.K) neMD := by
  intro p F H u x y a b Q gd rx ry h
  obtain ⟨d, e, _⟩ := lft_some h
  unfold neMD at e
  cases e1 : eqD a b with
  | none => rw [e1] at e; cases e
  | some r =>
    obtain ⟨d1, d2, h1, h2, h3, h4, h5⟩ := eqD_some gd.ex rx ry e1
    refine ⟨d1, d2, h1, h2, h3, h4, ?_⟩
    rw [h5]
    exact OpM.ret gd h (by unfold neMD; rw [e1]; rfl) (.bl !r)

/-! ### is, items, slices -/
def isNonD : D → Bool
  | .non => true
  | _ => false
def isD : D → D → Option D := fun x y => match y with
  | .non => some (.bl (isNonD x))
  | .bl b => match x with
    | .bl a => some (.bl (decide (a = b)))
    | _ => none
  | _ => none
def isntD : D → D → Option D := fun x y => match y with
  | .non => some (.bl (!isNonD x))
  | .bl b => match x with
    | .bl a => some (.bl (!decide (a = b)))
    | _ => none
  | _ => none
theorem Rep.isNon {W : Wo} {p : Addr} {F : Hp} {v : V} {d : D} (r : Rep W p F v d) : decide (v = .non) = isNonD d := by
  cases r <;> rfl
def rIsA : R2 := fun x y H Q => (y = .non ∧ Q (.bl (decide (x = .non))) H) ∨ rIsB x y H Q
def rIsntA : R2 := fun x y H Q => (y = .non ∧ Q (.bl (!decide (x = .non))) H) ∨ rNotB x y H Q
theorem op_isA {X : Cx} : OpR X (compareOp .Is) rIsA := op_isN.or op_isBl
theorem op_isntA {X : Cx} : OpR X (compareOp .IsNot) rIsntA := op_notN.or op_notBl
theorem m_is {W : Wo} : OpM W rIsA isD := by
  intro p F H u x y a b Q gd rx ry h
  obtain ⟨d, e, _⟩ := lft_some h
  unfold isD at e
  split at e
  · cases e
    exact .inl ⟨ry.non_, by rw [rx.isNon]; exact OpM.ret gd h rfl (.bl _)⟩
  · split at e
    · rename_i k l
      cases e
      exact .inr ⟨_, _, rx.bl_, ry.bl_, OpM.ret gd h rfl (.bl _)⟩
    · cases e
  · cases e
theorem m_isnt {W : Wo} : OpM W rIsntA isntD := by
  intro p F H u x y a b Q gd rx ry h
  obtain ⟨d, e, _⟩ := lft_some h
  unfold isntD at e
  split at e
  · cases e
    exact .inl ⟨ry.non_, by rw [rx.isNon]; exact OpM.ret gd h rfl (.bl _)⟩
  · split at e
    · rename_i k l
      cases e
      exact .inr ⟨_, _, rx.bl_, ry.bl_, OpM.ret gd h rfl (.bl _)⟩
    · cases e
  · cases e
def ixD : D → D → Option D
  | .lst ds, .int i => atI ds i
  | .tup ds, .int i => atI ds i
  | .scr ns, .int i => (atI ns i).map .int
  | .str x, .int i => if x.length ≤ 10000000 then (atI x.cps.toList i).map fun c => .str ⟨#[c]⟩ else none
  | _, _ => none
theorem atI_map {α β : Type} (f : α → β) (l : List α) (i : Int) : L2.atI (l.map f) i = (L2.atI l i).map f := by
  unfold L2.atI
  rw [List.length_map]
  cases ixN l.length i with
  | none => rfl
  | some n => show (l.map f)[n]? = (l[n]?).map f; rw [List.getElem?_map]
theorem Reps.atI {W : Wo} {p : Addr} {F : Hp} {vs : List V} {ds : List D} {i : Int} {d : D} (r : Reps W p F vs ds) (h : atI ds i = some d) : ∃ v, L2.atI vs i = some v ∧ Rep W p F v d := by
  unfold L2.atI at h ⊢
  rw [r.1]
  cases hj : ixN ds.length i with
  | none => rw [hj] at h; cases h
  | some n =>
    rw [hj] at h
    obtain ⟨v, ev, rv⟩ := r.get h
    exact ⟨v, ev, rv⟩
theorem m_ix {W : Wo} : OpM W (rIx W.K) ixD := by
  intro p F H u x y a b Q gd rx ry h
  obtain ⟨d, e, _⟩ := lft_some h
  unfold ixD at e
  split at e
  · obtain ⟨q, vs, rfl, hq, r⟩ := rx.lst_
    obtain ⟨v, ev, rv⟩ := r.atI e
    exact .inl ⟨q, vs, _, v, rfl, ry.int_, SqL.of (gd.ex _ _ hq), ev, OpM.ret gd h e rv⟩
  · obtain ⟨q, vs, rfl, hq, r⟩ := rx.tup_
    obtain ⟨v, ev, rv⟩ := r.atI e
    exact .inr (.inl ⟨q, vs, _, v, rfl, ry.int_, sq_t gd.ex hq, ev, OpM.ret gd h e rv⟩)
  · rename_i ns i
    obtain ⟨q, rfl, hq⟩ := rx.scr_
    cases e1 : L2.atI ns i with
    | none => rw [e1] at e; cases e
    | some n =>
      rw [e1] at e
      cases e
      exact .inl ⟨q, _, _, .int n, rfl, ry.int_, sq_l gd.ex hq, by rw [atI_map, e1]; rfl, OpM.ret gd h (show (L2.atI ns i).map D.int = some (.int n) by rw [e1]; rfl) (.int n)⟩
  · rename_i z i
    split at e
    · rename_i hl
      cases e1 : L2.atI z.cps.toList i with
      | none => rw [e1] at e; cases e
      | some k =>
        rw [e1] at e
        cases e
        exact .inr (.inr ⟨z, i, k, rx.str_, ry.int_, Nat.le_trans hl (by decide), e1, OpM.ret gd h (show (if z.length ≤ 10000000 then (L2.atI z.cps.toList i).map fun c => D.str ⟨#[c]⟩ else none) = some (.str ⟨#[k]⟩) by rw [if_pos hl, e1]; rfl) (.str _)⟩)
    · cases e
  · cases e
end Mi

set_option Elab.async false
set_option linter.all false
set_option maxRecDepth 100000
set_option maxHeartbeats 2000000
/-! Mi6: mirrors of built-ins, slices, in, isinstance. -/
namespace Mi
open PySem PySem.Spec PyProof.Rows L2
variable [TB : Tabl]

/-! ### flat data -/
def flatD : D → Option V
  | .non => some .non
  | .bl b => some (.bl b)
  | .int i => some (.int i)
  | .str x => some (.str x)
  | _ => none
theorem flatD_rep {W : Wo} {p : Addr} {F : Hp} {v w : V} {d : D} (r : Rep W p F v d) (h : flatD d = some w) : v = w ∧ flatV w = true := by
  cases r <;> first | (cases h; exact ⟨rfl, rfl⟩) | cases h
def flatDs : List D → Option (List V)
  | [] => some []
  | d :: ds => match flatD d, flatDs ds with
    | some a, some as => some (a :: as)
    | _, _ => none
theorem flatDs_rep {W : Wo} {p : Addr} {F : Hp} : ∀ {vs ws : List V} {ds : List D}, Reps W p F vs ds → flatDs ds = some ws → vs = ws ∧ ws.all flatV = true
  | vs, ws, [], r, h => by cases h; rw [r.none]; exact ⟨rfl, rfl⟩
  | vs, ws, d :: ds, r, h => by
    obtain ⟨v, vr, rfl, r1, r2⟩ := r.uncons
    unfold flatDs at h
    split at h
    · rename_i a as e1 e2
      cases h
      obtain ⟨h1, h2⟩ := flatD_rep r1 e1
      obtain ⟨h3, h4⟩ := flatDs_rep r2 e2
      subst h1 h3
      exact ⟨rfl, by rw [List.all_cons, h2, h4]; rfl⟩
    · cases h
def inS (x y : D) : Option Bool := match x, y with
  | .str a, .str z => match a.cps.toList with
    | [c] => some (decide (c ∈ z.cps.toList))
    | _ => none
  | _, _ => none
def inB (x y : D) : Option Bool := match flatD x with
  | some a => match y with
    | .lst ds => (flatDs ds).map fun ws => inV a ws
    | .tup ds => (flatDs ds).map fun ws => inV a ws
    | _ => none
  | none => none
def inA (x y : D) : Option Bool := match y with
  | .str _ => inS x y
  | _ => inB x y
def inD : D → D → Option D := fun x y => (inA x y).map .bl
def ninD : D → D → Option D := fun x y => (inA x y).map fun b => .bl (!b)
theorem inB_some {W : Wo} {p : Addr} {F H : Hp} {x y : V} {a b : D} {r : Bool} (sm : Same F H) (rx : Rep W p F x a) (ry : Rep W p F y b) (e : inB a b = some r) :
    ∃ q xs, y = .ref q ∧ (SqL W.K H q xs ∨ SqT W.K H q xs) ∧ flatV x = true ∧ xs.all flatV = true ∧ inV x xs = r := by
  unfold inB at e
  split at e
  · rename_i v hv
    obtain ⟨h1, h2⟩ := flatD_rep rx hv
    subst h1
    split at e
    · rename_i ds
      obtain ⟨q, vs, rfl, hq, rs⟩ := ry.lst_
      cases e1 : flatDs ds with
      | none => rw [e1] at e; cases e
      | some ws =>
        rw [e1] at e
        cases e
        obtain ⟨h3, h4⟩ := flatDs_rep rs e1
        subst h3
        exact ⟨q, vs, rfl, .inl (SqL.of (sm _ _ hq)), h2, h4, rfl⟩
    · rename_i ds
      obtain ⟨q, vs, rfl, hq, rs⟩ := ry.tup_
      cases e1 : flatDs ds with
      | none => rw [e1] at e; cases e
      | some ws =>
        rw [e1] at e
        cases e
        obtain ⟨h3, h4⟩ := flatDs_rep rs e1
        subst h3
        exact ⟨q, vs, rfl, .inr (sq_t sm hq), h2, h4, rfl⟩
    · cases e
  · cases e
theorem inS_some {W : Wo} {p : Addr} {F : Hp} {x y : V} {a b : D} {r : Bool} (rx : Rep W p F x a) (ry : Rep W p F y b) (e : inS a b = some r) :
    ∃ (c : Nat) (z : Str), x = .str ⟨#[c]⟩ ∧ y = .str z ∧ decide (c ∈ z.cps.toList) = r := by
  unfold inS at e
  split at e
  · rename_i i z
    split at e
    · rename_i c hc
      cases e
      refine ⟨c, z, ?_, ry.str_, rfl⟩
      rw [rx.str_]
      congr 1
      cases i with
      | mk cps =>
        have : cps = #[c] := by
          apply Array.toList_inj.mp
          simpa using hc
        rw [this]
    · cases e
  · cases e
def rInA (K : PySem.W.Frag) : R2 := fun x y H Q => rIn K false x y H Q ∨ ∃ (c : Nat) (z : Str), x = .str ⟨#[c]⟩ ∧ y = .str z ∧ Q (.bl (decide (c ∈ z.cps.toList))) H
def rNinA (K : PySem.W.Frag) : R2 := fun x y H Q => rIn K true x y H Q ∨ ∃ (c : Nat) (z : Str), x = .str ⟨#[c]⟩ ∧ y = .str z ∧ Q (.bl (!decide (c ∈ z.cps.toList))) H
theorem op_inA {X : Cx} : OpR X (compareOp .In) (rInA X.K) := op_in_seq.or op_in_sign
theorem op_ninA {X : Cx} : OpR X (compareOp .NotIn) (rNinA X.K) := op_notIn_seq.or op_notIn_sign
theorem inA_some {x y : D} {b : Bool} (h : inA x y = some b) : inS x y = some b ∨ inB x y = some b := by
  unfold inA at h
  split at h
  · exact .inl h
  · exact .inr h
theorem m_in {W : Wo} : OpM W (rInA W.K) inD := by
  intro p F H u x y a b Q gd rx ry h
  obtain ⟨d, e, _⟩ := lft_some h
  have e0 := e
  unfold inD at e
  cases e1 : inA a b with
  | none => rw [e1] at e; cases e
  | some r =>
    rw [e1] at e
    cases e
    rcases inA_some e1 with e1 | e1
    · obtain ⟨c, z, rfl, rfl, hr⟩ := inS_some rx ry e1
      exact .inr ⟨c, z, rfl, rfl, by rw [hr]; exact OpM.ret gd h e0 (.bl r)⟩
    · obtain ⟨q, xs, rfl, hq, h1, h2, h3⟩ := inB_some gd.ex rx ry e1
      exact .inl ⟨q, xs, rfl, hq, h1, h2, by rw [h3]; exact OpM.ret gd h e0 (.bl r)⟩
theorem m_nin {W : Wo} : OpM W (rNinA W.K) ninD := by
  intro p F H u x y a b Q gd rx ry h
  obtain ⟨d, e, _⟩ := lft_some h
  have e0 := e
  unfold ninD at e
  cases e1 : inA a b with
  | none => rw [e1] at e; cases e
  | some r =>
    rw [e1] at e
    cases e
    rcases inA_some e1 with e1 | e1
    · obtain ⟨c, z, rfl, rfl, hr⟩ := inS_some rx ry e1
      exact .inr ⟨c, z, rfl, rfl, by rw [hr]; exact OpM.ret gd h e0 (.bl (!r))⟩
    · obtain ⟨q, xs, rfl, hq, h1, h2, h3⟩ := inB_some gd.ex rx ry e1
      exact .inl ⟨q, xs, rfl, hq, h1, h2, by rw [h3]; exact OpM.ret gd h e0 (.bl (!r))⟩

/-! ### slices -/
abbrev MO := Env → M (Option Int)
def rdO (c : Cf) (m : MO) : TO := fun σ H Q => ∃ F u ρ, Sta c u F H σ ρ ∧ After c.p F H (m ρ u) fun o _ _ H' => Q o H'
def mOn : MO := fun _ => M.pure none
def mOs (m : ME) : MO := fun ρ => M.bind (m ρ) fun d => match d with
  | .int i => M.pure (some i)
  | _ => lft none
def cutD (xs : List D) (lo hi : Option Int) : List D := (xs.drop (HT.sIx xs.length 0 lo)).take (HT.sIx xs.length xs.length hi - HT.sIx xs.length 0 lo)
def slD (d : D) (lo hi : Option Int) : Option D := match d with
  | .lst ds => some (.lst (cutD ds lo hi))
  | .tup ds => some (.tup (cutD ds lo hi))
  | .scr ns => some (.lst (cutD (ns.map .int) lo hi))
  | .str x => if x.length ≤ 10000000 then some (.str (cutS x lo hi)) else none
  | _ => none
def mSl (m : ME) (ml mh : MO) : ME := fun ρ => M.bind (m ρ) fun d => M.bind (ml ρ) fun lo => M.bind (mh ρ) fun hi => lft (slD d lo hi)
theorem Reps.drop {W : Wo} {p : Addr} {F : Hp} {vs : List V} {ds : List D} (r : Reps W p F vs ds) (n : Nat) : Reps W p F (vs.drop n) (ds.drop n) :=
  ⟨by simp [r.1], fun i v d h1 h2 => r.2 (n + i) v d (by rw [List.getElem?_drop] at h1; exact h1) (by rw [List.getElem?_drop] at h2; exact h2)⟩
theorem Reps.take {W : Wo} {p : Addr} {F : Hp} {vs : List V} {ds : List D} (r : Reps W p F vs ds) (n : Nat) : Reps W p F (vs.take n) (ds.take n) := by
  refine ⟨by simp [r.1], fun i v d h1 h2 => ?_⟩
  by_cases hi : i < n
  · rw [List.getElem?_take_of_lt hi] at h1 h2
    exact r.2 i v d h1 h2
  · rw [List.getElem?_eq_none (by simp; omega)] at h1
    cases h1
theorem Reps.cut {W : Wo} {p : Addr} {F : Hp} {vs : List V} {ds : List D} (r : Reps W p F vs ds) (lo hi : Option Int) : Reps W p F (cutV vs lo hi) (cutD ds lo hi) := by
  unfold cutV cutD
  rw [r.1]
  exact (r.drop _).take _
theorem Reps.reverse {W : Wo} {p : Addr} {F : Hp} {vs : List V} {ds : List D} (r : Reps W p F vs ds) : Reps W p F vs.reverse ds.reverse := by
  refine ⟨by simp [r.1], fun i v d h1 h2 => ?_⟩
  have hi : i < vs.length := by
    have := (List.getElem?_eq_some_iff.mp h1).1
    simpa using this
  rw [List.getElem?_reverse hi] at h1
  rw [List.getElem?_reverse (by rw [← r.1]; exact hi), ← r.1] at h2
  exact r.2 _ v d h1 h2
theorem reps_ints {W : Wo} {p : Addr} {F : Hp} (ns : List Int) : Reps W p F (ns.map V.int) (ns.map D.int) := by
  induction ns with
  | nil => exact Reps.nil
  | cons n ns ih => exact Reps.cons (.int n) ih
def rSlAll (K : PySem.W.Frag) : V → Option Int → Option Int → Hp → VK → Prop := fun x lo hi H Q => rSlL K x lo hi H Q ∨ rSlA K x lo hi H Q ∨ rSlS x lo hi H Q
theorem cutD_whole {xs : List D} {lo hi : Option Int} (h : HT.sIx xs.length 0 lo = 0 ∧ HT.sIx xs.length xs.length hi = xs.length) : cutD xs lo hi = xs := by
  unfold cutD
  rw [h.1, h.2]
  simp
section
variable {X : Cx} {c : Cf} {e : Expr} {lo hi : Option Expr} {m : ME} {ml mh : MO} {pos p2 : Pos}
theorem dOn : PO X none (rdO c mOn) := by
  have h := po_none (X := X)
  exact ⟨fun pins s σ H Q I ⟨F, u, ρ, S, q⟩ => h.run pins s σ H Q I (After.now S.gd q)⟩
theorem dOs (he : DE X c e m) : PO X (some e) (rdO c (mOs m)) := by
  have h := po_some he
  refine ⟨fun pins s σ H Q I ⟨F, u, ρ, S, q⟩ => h.run pins s σ H Q I ⟨F, u, ρ, S, (After.split q).imp fun d u1 F1 H1 _ s1 g1 h1 v rv => ?_⟩⟩
  cases d with
  | int i =>
    have h2 : After c.p F1 H1 (some (some i, u1)) (fun o _ _ H' => Q o H') := h1
    exact ⟨i, rv.int_, After.now g1 h2⟩
  | _ => exact False.elim h1
theorem sl_all : SlR X (rSlAll X.K) := sl_list.or (sl_tupA.or sl_str)
theorem dSl (he : DE X c e m) (hl : PO X lo (rdO c ml)) (hh : PO X hi (rdO c mh)) (hK : X.K = c.W.K := by rfl) : DE X c (.Subscript e (.Slice lo hi none p2) pos) (mSl m ml mh) :=
  (pe_slice sl_all he hl hh).imp fun σ H Q ⟨F, u, ρ, S, h⟩ => ⟨F, u, ρ, S, (After.split h).imp fun d u1 F1 H1 _ s1 g1 h1 v rv => ⟨F1, u1, ρ, S.step s1 g1, (After.split h1).imp fun l u2 F2 H2 _ s2 g2 h2 => ⟨F2, u2, ρ, (S.step s1 g1).step s2 g2, (After.split h2).imp fun r u3 F3 H3 _ s3 g3 h3 => by
    have rv := rv.mono (s2.ef.trans s3.ef)
    obtain ⟨z, e1, _⟩ := lft_some h3
    rw [hK]
    unfold slD at e1
    split at e1
    · cases e1
      obtain ⟨a, vs, rfl, ha, ra⟩ := rv.lst_
      exact .inl ⟨a, vs, rfl, SqL.of (g3.ex _ _ ha), fun q hq => OpM.new g3 h3 rfl hq fun sm => Rep.mkL upd_same ((ra.mono sm).cut l r)⟩
    · cases e1
      obtain ⟨a, vs, rfl, ha, ra⟩ := id rv.tup_
      refine .inr (.inl ⟨a, vs, rfl, sq_t g3.ex ha, fun hw => ?_, fun _ q hq => OpM.new g3 h3 rfl hq fun sm => Rep.mkT upd_same ((ra.mono sm).cut l r)⟩)
      rw [ra.1] at hw
      exact OpM.ret g3 h3 rfl (by rw [cutD_whole hw]; exact rv)
    · rename_i ns _h _h2
      cases e1
      obtain ⟨a, rfl, ha⟩ := rv.scr_
      exact .inl ⟨a, _, rfl, sq_l g3.ex ha, fun q hq => OpM.new g3 h3 rfl hq fun sm => Rep.mkL upd_same ((reps_ints ns).cut l r)⟩
    · rename_i x _h _h2
      split at e1
      · rename_i hl
        cases e1
        exact .inr (.inr ⟨x, rv.str_, Nat.le_trans hl (by decide), OpM.ret g3 h3 (if_pos hl) (.str _)⟩)
      · cases e1
    · cases e1⟩⟩⟩
end

/-! ### built-ins -/
def lenD : List D → Option D := fun ds => match ds with
  | [.lst xs] => some (.int xs.length)
  | [.tup xs] => some (.int xs.length)
  | [.scr ns] => some (.int ns.length)
  | [.str x] => if x.length ≤ 10000000 then some (.int x.length) else none
  | _ => none
def rLenA (K : PySem.W.Frag) : List V → Hp → VK → Prop := fun xs H Q => (∃ p ys, xs = [.ref p] ∧ (SqL K H p ys ∨ SqT K H p ys) ∧ Q (.int ys.length) H) ∨ ∃ z, xs = [.str z] ∧ z.length ≤ sizeLine ∧ Q (.int z.length) H
theorem call_lenA {X : Cx} : CallR X (.builtin "len") (rLenA X.K) := call_len_seq.or call_len_str
theorem Reps.one {W : Wo} {p : Addr} {F : Hp} {vs : List V} {d : D} (r : Reps W p F vs [d]) : ∃ v, vs = [v] ∧ Rep W p F v d := by
  obtain ⟨v, vr, rfl, h, r2⟩ := r.uncons
  rw [r2.none]
  exact ⟨v, rfl, h⟩
theorem Reps.two {W : Wo} {p : Addr} {F : Hp} {vs : List V} {a b : D} (r : Reps W p F vs [a, b]) : ∃ v w, vs = [v, w] ∧ Rep W p F v a ∧ Rep W p F w b := by
  obtain ⟨v, vr, rfl, h, r2⟩ := r.uncons
  obtain ⟨w, rfl, h2⟩ := r2.one
  exact ⟨v, w, rfl, h, h2⟩
theorem m_len {W : Wo} : CallM W (rLenA W.K) lenD := by
  intro p F H u xs as Q gd r h
  obtain ⟨d, e, _⟩ := lft_some h
  unfold lenD at e
  split at e
  · cases e
    obtain ⟨v, rfl, rv⟩ := r.one
    obtain ⟨q, vs, rfl, hq, rs⟩ := rv.lst_
    exact .inl ⟨q, vs, rfl, .inl (SqL.of (gd.ex _ _ hq)), OpM.ret gd h rfl (by rw [rs.1]; exact .int _)⟩
  · cases e
    obtain ⟨v, rfl, rv⟩ := r.one
    obtain ⟨q, vs, rfl, hq, rs⟩ := rv.tup_
    exact .inl ⟨q, vs, rfl, .inr (sq_t gd.ex hq), OpM.ret gd h rfl (by rw [rs.1]; exact .int _)⟩
  · rename_i ns
    cases e
    obtain ⟨v, rfl, rv⟩ := r.one
    obtain ⟨q, rfl, hq⟩ := rv.scr_
    exact .inl ⟨q, _, rfl, .inl (sq_l gd.ex hq), OpM.ret gd h rfl (by rw [List.length_map]; exact .int _)⟩
  · rename_i x
    split at e
    · rename_i hl
      cases e
      obtain ⟨v, rfl, rv⟩ := r.one
      exact .inr ⟨x, by rw [rv.str_], Nat.le_trans hl (by decide), OpM.ret gd h (if_pos hl) (.int _)⟩
    · cases e
  · cases e
/-- ints out of data -/
def intsD : List D → Option (List Int)
  | [] => some []
  | .int i :: ds => (intsD ds).map (i :: ·)
  | _ => none
theorem intsD_rep {W : Wo} {p : Addr} {F : Hp} : ∀ {vs : List V} {ds : List D} {ns : List Int}, Reps W p F vs ds → intsD ds = some ns → vs = ns.map V.int
  | vs, [], ns, r, h => by cases h; exact r.none
  | vs, d :: ds, ns, r, h => by
    obtain ⟨v, vr, rfl, r1, r2⟩ := r.uncons
    cases d with
    | int i =>
      have h' : (intsD ds).map (i :: ·) = some ns := h
      cases e : intsD ds with
      | none => rw [e] at h'; cases h'
      | some ms =>
        rw [e] at h'
        cases h'
        rw [r1.int_, intsD_rep r2 e]
        rfl
    | _ => cases h
theorem intsD_map (ns : List Int) : intsD (ns.map D.int) = some ns := by
  induction ns with
  | nil => rfl
  | cons n ns ih => show (intsD (ns.map D.int)).map (n :: ·) = _; rw [ih]; rfl
theorem intsD_eq : ∀ {ds : List D} {ns : List Int}, intsD ds = some ns → ds = ns.map D.int
  | [], ns, h => by cases h; rfl
  | d :: ds, ns, h => by
    cases d with
    | int i =>
      have h' : (intsD ds).map (i :: ·) = some ns := h
      cases e : intsD ds with
      | none => rw [e] at h'; cases h'
      | some ms =>
        rw [e] at h'
        cases h'
        rw [intsD_eq e]
        rfl
    | _ => cases h
def rSumT (K : PySem.W.Frag) : List V → Hp → VK → Prop := fun vs H Q => ∃ (a : Addr) (ns : List Int), vs = [V.ref a] ∧ SqT K H a (ns.map V.int) ∧ Q (.int ns.sum) H
theorem cr_sumT {X : Cx} (hc : X.calm = true) : CallR X (.builtin "sum") (rSumT X.K) := by
  intro pins s σ H vs us Q I r h
  obtain ⟨a, ns, rfl, hq, q⟩ := h
  obtain ⟨u1, rfl, ru⟩ := Vals.one r
  cases ru
  obtain ⟨its, rv, ht, hz⟩ := I.tuple hq
  have hi := Vals.ints rv
  obtain ⟨xs, e⟩ := hi.allInts.items
  have hn : numsOf (intItems xs).toList = ns := by rw [← e]; exact hi.numsOf
  rw [nums_intItems] at hn
  rw [e] at ht
  refine PySem.W.ktm_sumG (I.ok.hd hc) ht fun h' tk t' hk => ?_
  rw [preSum_eq, List.take_of_length_le (by simp), hn]
  exact ⟨.int ns.sum, H, I.kept (t' := tk) hk, ⟨_, rfl⟩, q⟩
def sumD : List D → Option D := fun ds => match ds with
  | [.lst xs] => (intsD xs).map fun ns => .int ns.sum
  | [.tup xs] => (intsD xs).map fun ns => .int ns.sum
  | _ => none
def rSumA (K : PySem.W.Frag) : List V → Hp → VK → Prop := fun vs H Q => rSum K vs H Q ∨ rSumT K vs H Q
theorem cr_sumA {X : Cx} (hc : X.calm = true) : CallR X (.builtin "sum") (rSumA X.K) := (cr_sum hc).or (cr_sumT hc)
theorem m_sum {W : Wo} : CallM W (rSumA W.K) sumD := by
  intro p F H u xs as Q gd r h
  obtain ⟨d, e, _⟩ := lft_some h
  unfold sumD at e
  split at e
  · rename_i ds
    obtain ⟨v, rfl, rv⟩ := r.one
    obtain ⟨q, vs, rfl, hq, rs⟩ := rv.lst_
    cases e1 : intsD ds with
    | none => rw [e1] at e; cases e
    | some ns =>
      rw [e1] at e
      cases e
      refine .inl ⟨q, ns, rfl, SqL.of (by rw [← intsD_rep rs e1]; exact gd.ex _ _ hq), OpM.ret gd h (show (intsD ds).map (fun ns => D.int ns.sum) = some (.int ns.sum) by rw [e1]; rfl) (.int _)⟩
  · rename_i ds
    obtain ⟨v, rfl, rv⟩ := r.one
    obtain ⟨q, vs, rfl, hq, rs⟩ := rv.tup_
    cases e1 : intsD ds with
    | none => rw [e1] at e; cases e
    | some ns =>
      rw [e1] at e
      cases e
      refine .inr ⟨q, ns, rfl, by rw [← intsD_rep rs e1]; exact sq_t gd.ex hq, OpM.ret gd h (show (intsD ds).map (fun ns => D.int ns.sum) = some (.int ns.sum) by rw [e1]; rfl) (.int _)⟩
  · cases e
/-- the greatest, the least of a list -/
def maxL : List Int → Int
  | [] => 0
  | [a] => a
  | a :: b :: r => max a (maxL (b :: r))
def minL : List Int → Int
  | [] => 0
  | [a] => a
  | a :: b :: r => min a (minL (b :: r))
theorem maxL_mem : ∀ {ns : List Int}, ns ≠ [] → maxL ns ∈ ns ∧ ∀ y ∈ ns, y ≤ maxL ns
  | [], h => absurd rfl h
  | [a], _ => by simp [maxL]
  | a :: b :: r, _ => by
    obtain ⟨h1, h2⟩ := maxL_mem (ns := b :: r) (by simp)
    refine ⟨?_, fun y hy => ?_⟩
    · show max a (maxL (b :: r)) ∈ a :: b :: r
      by_cases hm : a ≤ maxL (b :: r)
      · rw [Int.max_eq_right hm]; exact List.mem_cons_of_mem _ h1
      · rw [Int.max_eq_left (by omega)]; exact List.mem_cons_self ..
    · show y ≤ max a (maxL (b :: r))
      rcases List.mem_cons.mp hy with rfl | hy
      · exact Int.le_max_left ..
      · exact Int.le_trans (h2 y hy) (Int.le_max_right ..)
theorem minL_mem : ∀ {ns : List Int}, ns ≠ [] → minL ns ∈ ns ∧ ∀ y ∈ ns, minL ns ≤ y
  | [], h => absurd rfl h
  | [a], _ => by simp [minL]
  | a :: b :: r, _ => by
    obtain ⟨h1, h2⟩ := minL_mem (ns := b :: r) (by simp)
    refine ⟨?_, fun y hy => ?_⟩
    · show min a (minL (b :: r)) ∈ a :: b :: r
      by_cases hm : minL (b :: r) ≤ a
      · rw [Int.min_eq_right hm]; exact List.mem_cons_of_mem _ h1
      · rw [Int.min_eq_left (by omega)]; exact List.mem_cons_self ..
    · show min a (minL (b :: r)) ≤ y
      rcases List.mem_cons.mp hy with rfl | hy
      · exact Int.min_le_left ..
      · exact Int.le_trans (Int.min_le_right ..) (h2 y hy)
theorem maxL_is {ns : List Int} {m : Int} (h1 : m ∈ ns) (h2 : ∀ y ∈ ns, y ≤ m) : maxL ns = m := by
  have hne : ns ≠ [] := fun e => by rw [e] at h1; cases h1
  obtain ⟨h3, h4⟩ := maxL_mem hne
  have := h2 _ h3
  have := h4 _ h1
  omega
theorem minL_is {ns : List Int} {m : Int} (h1 : m ∈ ns) (h2 : ∀ y ∈ ns, m ≤ y) : minL ns = m := by
  have hne : ns ≠ [] := fun e => by rw [e] at h1; cases h1
  obtain ⟨h3, h4⟩ := minL_mem hne
  have := h2 _ h3
  have := h4 _ h1
  omega
def maxD : List D → Option D := fun ds => match ds with
  | [.lst xs] => match intsD xs with
    | some (n :: ns) => some (.int (maxL (n :: ns)))
    | _ => none
  | [.int a, .int b] => some (.int (if b > a then b else a))
  | _ => none
def minD : List D → Option D := fun ds => match ds with
  | [.lst xs] => match intsD xs with
    | some (n :: ns) => some (.int (minL (n :: ns)))
    | _ => none
  | [.int a, .int b] => some (.int (if b < a then b else a))
  | _ => none
def rMaxA (K : PySem.W.Frag) : List V → Hp → VK → Prop := fun vs H Q => rMax K vs H Q ∨ ∃ i j, vs = [.int i, .int j] ∧ Q (.int (if j > i then j else i)) H
def rMinA (K : PySem.W.Frag) : List V → Hp → VK → Prop := fun vs H Q => rMin K vs H Q ∨ ∃ i j, vs = [.int i, .int j] ∧ Q (.int (if j < i then j else i)) H
theorem cr_maxA {X : Cx} (hc : X.calm = true) : CallR X (.builtin "max") (rMaxA X.K) := (cr_max hc).or (call_max2 hc)
theorem cr_minA {X : Cx} (hc : X.calm = true) : CallR X (.builtin "min") (rMinA X.K) := (cr_min hc).or (call_min2 hc)
theorem m_max {W : Wo} : CallM W (rMaxA W.K) maxD := by
  intro p F H u xs as Q gd r h
  obtain ⟨d, e, _⟩ := lft_some h
  have e0 := e
  unfold maxD at e
  split at e
  · rename_i ds
    split at e
    · rename_i n ns e1
      cases e
      obtain ⟨v, rfl, rv⟩ := r.one
      obtain ⟨q, vs, rfl, hq, rs⟩ := rv.lst_
      refine .inl ⟨q, n :: ns, rfl, SqL.of (by rw [← intsD_rep rs e1]; exact gd.ex _ _ hq), by simp, fun m hm hle => ?_⟩
      rw [← maxL_is hm hle]
      exact OpM.ret gd h e0 (.int _)
    · cases e
  · rename_i i j
    cases e
    obtain ⟨v, w, rfl, rv, rw⟩ := r.two
    exact .inr ⟨i, j, by rw [rv.int_, rw.int_], OpM.ret gd h e0 (.int _)⟩
  · cases e
theorem m_min {W : Wo} : CallM W (rMinA W.K) minD := by
  intro p F H u xs as Q gd r h
  obtain ⟨d, e, _⟩ := lft_some h
  have e0 := e
  unfold minD at e
  split at e
  · rename_i ds
    split at e
    · rename_i n ns e1
      cases e
      obtain ⟨v, rfl, rv⟩ := r.one
      obtain ⟨q, vs, rfl, hq, rs⟩ := rv.lst_
      refine .inl ⟨q, n :: ns, rfl, SqL.of (by rw [← intsD_rep rs e1]; exact gd.ex _ _ hq), by simp, fun m hm hle => ?_⟩
      rw [← minL_is hm hle]
      exact OpM.ret gd h e0 (.int _)
    · cases e
  · rename_i i j
    cases e
    obtain ⟨v, w, rfl, rv, rw⟩ := r.two
    exact .inr ⟨i, j, by rw [rv.int_, rw.int_], OpM.ret gd h e0 (.int _)⟩
  · cases e
def blsD : List D → Option (List Bool)
  | [] => some []
  | .bl i :: ds => (blsD ds).map (i :: ·)
  | _ => none
theorem blsD_rep {W : Wo} {p : Addr} {F : Hp} : ∀ {vs : List V} {ds : List D} {ns : List Bool}, Reps W p F vs ds → blsD ds = some ns → vs = ns.map V.bl
  | vs, [], ns, r, h => by cases h; exact r.none
  | vs, d :: ds, ns, r, h => by
    obtain ⟨v, vr, rfl, r1, r2⟩ := r.uncons
    cases d with
    | bl i =>
      have h' : (blsD ds).map (i :: ·) = some ns := h
      cases e : blsD ds with
      | none => rw [e] at h'; cases h'
      | some ms =>
        rw [e] at h'
        cases h'
        rw [r1.bl_, blsD_rep r2 e]
        rfl
    | _ => cases h
theorem blsD_map (ns : List Bool) : blsD (ns.map D.bl) = some ns := by
  induction ns with
  | nil => rfl
  | cons n ns ih => show (blsD (ns.map D.bl)).map (n :: ·) = _; rw [ih]; rfl
def allD : List D → Option D := fun ds => match ds with
  | [.lst xs] => (blsD xs).map fun bs => .bl (bs.all id)
  | _ => none
theorem m_all {W : Wo} : CallM W (rAll W.K) allD := by
  intro p F H u xs as Q gd r h
  obtain ⟨d, e, _⟩ := lft_some h
  have e0 := e
  unfold allD at e
  split at e
  · rename_i ds
    cases e1 : blsD ds with
    | none => rw [e1] at e; cases e
    | some bs =>
      rw [e1] at e
      cases e
      obtain ⟨v, rfl, rv⟩ := r.one
      obtain ⟨q, vs, rfl, hq, rs⟩ := rv.lst_
      exact ⟨q, bs, rfl, SqL.of (by rw [← blsD_rep rs e1]; exact gd.ex _ _ hq), OpM.ret gd h e0 (.bl _)⟩
  · cases e
def absD : List D → Option D := fun ds => match ds with
  | [.int i] => some (.int (if i < 0 then -i else i))
  | _ => none
theorem m_abs {W : Wo} : CallM W (fun xs H Q => ∃ i, xs = [.int i] ∧ Q (.int (if i < 0 then -i else i)) H) absD := by
  intro p F H u xs as Q gd r h
  obtain ⟨d, e, _⟩ := lft_some h
  have e0 := e
  unfold absD at e
  split at e
  · rename_i i
    cases e
    obtain ⟨v, rfl, rv⟩ := r.one
    exact ⟨i, by rw [rv.int_], OpM.ret gd h e0 (.int _)⟩
  · cases e
/-- int(n) of an int -/
def int1D : List D → Option D := fun ds => match ds with
  | [.int i] => some (.int i)
  | _ => none
theorem m_int1 {W : Wo} : CallM W (fun xs H Q => (∃ i, xs = [.int i] ∧ Q (.int i) H) ∨ ∃ k, xs = [.bl k] ∧ Q (.int (if k then 1 else 0)) H) int1D := by
  intro p F H u xs as Q gd r h
  obtain ⟨d, e, _⟩ := lft_some h
  have e0 := e
  unfold int1D at e
  split at e
  · rename_i i
    cases e
    obtain ⟨v, rfl, rv⟩ := r.one
    exact .inl ⟨i, by rw [rv.int_], OpM.ret gd h e0 (.int _)⟩
  · cases e
def strID : List D → Option D := fun ds => match ds with
  | [.int i] => if i.natAbs.log2 < 1920 then some (.str (toString i)) else none
  | _ => none
theorem m_strI {W : Wo} : CallM W (fun xs H Q => ∃ i, xs = [.int i] ∧ i.natAbs.log2 < 1920 ∧ Q (.str (toString i)) H) strID := by
  intro p F H u xs as Q gd r h
  obtain ⟨d, e, _⟩ := lft_some h
  have e0 := e
  unfold strID at e
  split at e
  · rename_i i
    split at e
    · rename_i hl
      cases e
      obtain ⟨v, rfl, rv⟩ := r.one
      exact ⟨i, by rw [rv.int_], hl, OpM.ret gd h e0 (.str _)⟩
    · cases e
  · cases e
def tupD : List D → Option D := fun ds => match ds with
  | [.lst xs] => some (.tup xs)
  | [.tup xs] => some (.tup xs)
  | _ => none
theorem m_tup {W : Wo} : CallM W (fun xs H Q => ∃ p ys, xs = [.ref p] ∧ ((SqL W.K H p ys ∧ ∀ l, H l = none → Q (.ref l) (upd H l (.tup ys))) ∨ (SqT W.K H p ys ∧ Q (.ref p) H))) tupD := by
  intro p F H u xs as Q gd r h
  obtain ⟨d, e, _⟩ := lft_some h
  have e0 := e
  unfold tupD at e
  split at e
  · cases e
    obtain ⟨v, rfl, rv⟩ := r.one
    obtain ⟨q, vs, rfl, hq, rs⟩ := rv.lst_
    exact ⟨q, vs, rfl, .inl ⟨SqL.of (gd.ex _ _ hq), fun l hl => OpM.new gd h e0 hl fun sm => Rep.mkT upd_same (rs.mono sm)⟩⟩
  · cases e
    obtain ⟨v, rfl, rv⟩ := r.one
    obtain ⟨q, vs, rfl, hq, rs⟩ := id rv.tup_
    exact ⟨q, vs, rfl, .inr ⟨sq_t gd.ex hq, OpM.ret gd h e0 rv⟩⟩
  · cases e
def dmC (i j : Int) : Bool := decide (0 < j) && !Builtin.divisionGoesByPylong i j
def dmD : List D → Option D := fun ds => match ds with
  | [.int i, .int j] => if dmC i j = true then some (.tup [.int (i / j), .int (i % j)]) else none
  | _ => none
theorem m_dm {W : Wo} : CallM W (fun xs H Q => ∃ i j, xs = [.int i, .int j] ∧ CDivP i j ∧ ∀ p, H p = none → Q (.ref p) (upd H p (.tup [.int (i / j), .int (i % j)]))) dmD := by
  intro p F H u xs as Q gd r h
  obtain ⟨d, e, _⟩ := lft_some h
  have e0 := e
  unfold dmD at e
  split at e
  · rename_i i j
    split at e
    · rename_i hc
      cases e
      obtain ⟨v, w, rfl, rv, rw⟩ := r.two
      have hcc := Bool.and_eq_true_iff.mp (show (decide (0 < j) && !Builtin.divisionGoesByPylong i j) = true from hc)
      exact ⟨i, j, by rw [rv.int_, rw.int_], ⟨of_decide_eq_true hcc.1, by have := hcc.2; simpa using this⟩, fun l hl => OpM.new gd h e0 hl fun sm => Rep.mkT upd_same (Reps.cons (.int _) (Reps.cons (.int _) Reps.nil))⟩
    · cases e
  · cases e

/-! ### isinstance -/
def tyN : D → Option String
  | .non => some "NoneType"
  | .bl _ => some "bool"
  | .int _ => some "int"
  | .str _ => some "str"
  | .tup _ => some "tuple"
  | .lst _ => some "list"
  | .dct _ _ => some "dict"
  | _ => none
/-- what isinstance asks of the classes -/
structure IsiOk (W : Wo) : Prop where
  ty : ∀ c ∈ W.cs, ∀ (H : Hp) (a dx : Addr) (fs : List (Str × V)), H a = some (.ins (W.cl c) dx fs) → TyOf W.K H (.ref a) (.ref (W.cl c))
  own : ∀ c ∈ W.cs, ∀ k ∈ W.cs, PySem.W.kitOne W.K (.ref (W.cl c)) (.ref (W.cl k)) = some (subC c k)
  bi : ∀ a ∈ ["NoneType", "bool", "int", "str", "tuple", "list", "dict"], ∀ k ∈ W.cs, PySem.W.kitOne W.K (.type a) (.ref (W.cl k)) = some false
  ob : ∀ c ∈ W.cs, ∀ n ∈ ["int", "bool", "str", "tuple", "list"], PySem.W.kitOne W.K (.ref (W.cl c)) (.type n) = some false
def isiB (x y : D) : Option Bool := match y with
  | .ty n => match tyN x with
    | some a => if decide (n ∈ ["int", "bool", "str", "tuple", "list"]) = true then kitB a n else none
    | none => match x with
      | .obj _ _ _ => if n ∈ ["int", "bool", "str", "tuple", "list"] then some false else none
      | _ => none
  | .cls k => match tyN x with
    | some _ => some false
    | none => match x with
      | .obj c _ _ => some (subC c k)
      | _ => none
  | _ => none
def isiD : List D → Option D := fun ds => match ds with
  | [x, y] => (isiB x y).map .bl
  | _ => none
theorem tyN_mem {x : D} {a : String} (h : tyN x = some a) : a ∈ ["NoneType", "bool", "int", "str", "tuple", "list", "dict"] := by
  cases x <;> first | (cases h; decide) | cases h
theorem tyN_ty {W : Wo} {p : Addr} {F H : Hp} {v : V} {x : D} {a : String} (sm : Same F H) (r : Rep W p F v x) (h : tyN x = some a) : TyX W.K H v (.type a) := by
  cases r with
  | non => cases h; exact .base .non
  | bl b => cases h; exact .base (.bl b)
  | int i => cases h; exact .base (.int i)
  | str i => cases h; exact .base (.str i)
  | tup ht _ _ =>
    cases h
    rcases ht with (ht | ⟨o, ht⟩) | ⟨o, its, n, hk, hc, _⟩
    · exact .base (.tup (sm _ _ ht))
    · exact .fTuple (sm _ _ ht)
    · exact .kTuple hk hc
  | lst ht _ _ => cases h; exact .base (.lst (sm _ _ ht))
  | dct ht _ _ => cases h; exact .base (.dK (sm _ _ ht))
  | _ => cases h
theorem m_isi {W : Wo} (I : IsiOk W) : CallM W (rIsi W.K) isiD := by
  intro p F H u xs as Q gd r h
  obtain ⟨d, e, _⟩ := lft_some h
  have e0 := e
  unfold isiD at e
  split at e
  case h_2 => cases e
  rename_i x y
  obtain ⟨v, w, rfl, rv, rw⟩ := r.two
  cases e1 : isiB x y with
  | none => rw [e1] at e; cases e
  | some b =>
    rw [e1] at e
    cases e
    have fin : Q (.bl b) H := OpM.ret gd h e0 (.bl b)
    unfold isiB at e1
    split at e1
    · rename_i n
      have hw := rw.ty_
      subst hw
      split at e1
      · rename_i a ha
        split at e1
        · exact ⟨v, .ty n, .type a, .type n, b, rfl, .ty n, tyN_ty gd.ex rv ha, kit_ty e1, fin⟩
        · cases e1
      · split at e1
        · rename_i c ks ds _
          split at e1
          · rename_i hh
            cases e1
            have hcc := rv.objc
            obtain ⟨a, dx, vs, rfl, ha, _⟩ := rv.obj_
            exact ⟨_, .ty n, _, .type n, false, rfl, .ty n, .base (I.ty c hcc H a dx _ (gd.ex _ _ ha)), I.ob c hcc n hh, fin⟩
          · cases e1
        · cases e1
    · rename_i k
      obtain ⟨hw, hk⟩ := rw.cls_
      subst hw
      split at e1
      · rename_i a ha
        cases e1
        exact ⟨v, .ref (W.cl k), .type a, .ref (W.cl k), false, rfl, .own _, tyN_ty gd.ex rv ha, I.bi a (tyN_mem ha) k hk, fin⟩
      · split at e1
        · rename_i c ks ds _
          cases e1
          have hcc := rv.objc
          obtain ⟨a, dx, vs, rfl, ha, _⟩ := rv.obj_
          exact ⟨_, .ref (W.cl k), _, .ref (W.cl k), _, rfl, .own _, .base (I.ty c hcc H a dx _ (gd.ex _ _ ha)), I.own c hcc k hk, fin⟩
        · cases e1
    · cases e1
end Mi


set_option Elab.async false
set_option linter.all false
set_option maxRecDepth 100000
set_option maxHeartbeats 4000000
/-! Mi8: objects made, == and != by an own __eq__, len by an own __len__, static methods. -/
namespace Mi
open PySem PySem.Spec PyProof.Rows L2
variable [TB : Tabl]

/-! ### a def called from within a built-in -/
section
variable {X : Cx} {k : Nat} {f : Addr} {fd : FuncData} {ps : List Str} {sp : Sp}
theorem call_at {A : Around} {pins : List (Addr × Obj)} {σ : L2.St} {H : Hp} {s : Shared} {us : List Value} {vs : List V} {Q : VK} {E' : Value → Shared → Prop} (G : FnOk X.prog X.w X.K X.mg X.base CX0 k f fd ps sp) (hr : Room k A) (hfr : A.frames = X.A.frames) (hb : Binds X.K fd ps [])
    (I : Inv X pins σ H s) (r : Vals vs us) (h : sp vs H Q E0) : wpAny (model X.prog X.w) A (call (.ref f) us) (EP X pins σ Q) E' s := by
  have hl := G.len _ _ _ _ h
  have e0 : Env0 X.prog X.w X.K X.mg X.base A X.stack s H := by
    have e := I.env0
    exact ⟨by rw [hfr]; exact e.frames, e.mod, e.bs, e.bsz, e.funs, e.frf, e.hok, e.bare⟩
  refine wpAny_call (codeAny_mono (G.run A X.stack s H ⟨us, []⟩ us vs Q E0 hr e0 (by
    have := hb s us I.kIn (by simpa [← r.length] using hl)
    simpa using this) r h) fun r s' hq => ?_)
  cases r with
  | error e => exact False.elim hq
  | ok fl =>
    cases fl with
    | ret u => exact I.after hq
    | next => exact False.elim hq
    | brk => exact False.elim hq
    | cont => exact False.elim hq
end

/-! ### == and != of two objects of one class -/
def mEqO (k : Str) (mf : List D → M D) (ma mb : ME) : ME := fun ρ => M.bind (ma ρ) fun x => M.bind (mb ρ) fun y => match x, y with
  | .obj c ks ds, .obj c' ks' ds' => if c = k ∧ c' = k then M.bind (mf [.obj c ks ds, .obj c' ks' ds']) fun r => match r with
    | .bl b => M.pure (.bl b)
    | _ => lft none
    else lft none
  | _, _ => lft none
section
variable {X : Cx} {k : Nat} {f C : Addr} {fd : FuncData} {ps : List Str} {sp : Sp}
end
section
variable {X : Cx} {c : Cf} {k : Nat} {f : Addr} {fd : FuncData} {ps : List Str} {mf : List D → M D} {ck : Str} {a b : Expr} {ma mb : ME} {pos : Pos}
/-! ### len of an object -/
end

/-! ### static methods called off the class -/
/-- C.m is a static method: its record at q, its def at g -/
structure SMet (K : PySem.W.Frag) (C : Addr) (mc : Value) (m : Str) (q g : Addr) : Prop where
  rd : PySem.W.readsIn K C mc = true
  ga : PySem.W.specialIn K (.ref C) "__getattribute__" = some (some (.builtin "type.__getattribute__"))
  at_ : PySem.W.findCls K (.ref C) mc m = some (.get (.builtin "staticmethod.__get__") (.ref q) .none (.ref C))
  rc : ∃ rest, PySem.W.recIn K q "staticmethod" = some (.ref g :: rest)
  kp : PySem.W.keepIn K (.ref g) = true
def tSMeth (C : Addr) (sp : Sp) (E : XK) (ta : TE) (t : TA) : TE := fun σ H Q => ta σ H fun x H1 => x = .ref C ∧ t σ H1 fun vs H2 => sp vs H2 Q E
section
variable {X : Cx} {c : Cf} {k n : Nat} {C q g : Addr} {mc : Value} {sp : Sp} {fd : FuncData} {ps ks : List Str} {o e : Expr} {es : List Expr} {kws : List Keyword} {m : Str} {pos apos : Pos} {ta : TE} {t tk : TA} {pl : Sem Bool}
theorem getsm_ok {pins : List (Addr × Obj)} {σ : L2.St} {H : Hp} {s : Shared} {A : Around} {E : Value → Shared → Prop} {Q : Value × List Value → Shared → Prop} (I : Inv X pins σ H s) (r : SMet X.K C mc m q g) (h : ∀ s', Inv X pins σ H s' → Q (.ref g, []) s') :
    wpAny (model X.prog X.w) A (getMethod (.ref C) m pl) Q E s := by
  obtain ⟨rest, hp⟩ := r.rc
  refine PySem.W.method_cls I.kIn r.ga (PySem.W.cls_bind I.kIn r.rd r.at_ ?_)
  exact wpAny_call (PySem.W.sm_get (s := { s with toks := s.toks + 1 }) I.kIn hp (PySem.W.handed_on rfl (h _ (I.tok _))))
theorem pe_smeth (he : PE X o ta) (r : SMet X.K C mc m q g) (G : FnOk X.prog X.w X.K X.mg X.base CX0 k g fd ps sp) (hr : Room k X.A) (hb : Binds X.K fd ps []) (ha : PA X (e :: es) t)
    (hst : starEach (e :: es) X.env = (false, eval e X.env) :: starEach es X.env := by rfl) (hpl : (backTo pos (starEach es X.env)).any (·.1) = false := by rfl)
    (ht : eval (.Call (.Attribute o m apos) (e :: es) [] pos) X.env = (do
      let ov ← eval o X.env
      standAt apos.atName
      let (f, first) ← holding [ov] (getMethod ov m pl)
      callWith pos f first (backTo pos (starEach (e :: es) X.env)) (backToKw pos (keywordEach [] X.env))) := by rfl) :
    PE X (.Call (.Attribute o m apos) (e :: es) [] pos) (tSMeth C sp E0 ta t) := by
  refine ⟨fun pins s σ H Q I h => ?_⟩
  refine PySem.W.methodCall_KW (pl := pl) (thn (he.run pins s σ H _ I h) fun u s1 ⟨x, H1, I1, rx, ex, q1⟩ => ?_) ht
  subst ex
  obtain rfl : u = Value.ref C := rx
  refine getsm_ok I1 r fun s2 I2 => ?_
  refine PySem.W.callWith_K (first := []) (h₀ := X.base) I.ok.mod.kin r.kp (thn (ha.run pos pins s2 σ H1 _ I2 q1) fun us s3 ⟨vs, H2, I3, rv, q2⟩ => ⟨I3.kIn, ?_⟩) hst hpl
  have := run_fn (us := us) (vs := vs) (dvs := []) (ds := []) G hr hb .nil pass0 I3 rv (by rw [List.append_nil]; exact q2)
  simpa using this
theorem dSMeth {ck : Str} {mo : ME} {ms : MA} {mf : List D → M D} (he : DE X c o mo) (r : SMet X.K (c.W.cl ck) mc m q g) (G : FnOk X.prog X.w X.K X.mg X.base CX0 k g fd ps (spM c.W n mf)) (hr : Room k X.A) (hb : Binds X.K fd ps []) (ha : DA X c (e :: es) ms) (hmo : mo = mC (.cls ck))
    (hst : starEach (e :: es) X.env = (false, eval e X.env) :: starEach es X.env := by rfl) (hpl : (backTo pos (starEach es X.env)).any (·.1) = false := by rfl)
    (ht : eval (.Call (.Attribute o m apos) (e :: es) [] pos) X.env = (do
      let ov ← eval o X.env
      standAt apos.atName
      let (f, first) ← holding [ov] (getMethod ov m pl)
      callWith pos f first (backTo pos (starEach (e :: es) X.env)) (backToKw pos (keywordEach [] X.env))) := by rfl) :
    DE X c (.Call (.Attribute o m apos) (e :: es) [] pos) (mCall n mf ms) :=
  (pe_smeth he r G hr hb ha hst hpl ht).imp fun σ H Q ⟨F, u, ρ, S, h⟩ => by
    subst hmo
    refine ⟨F, u, ρ, S, fun F1 H1 s1 g1 v rv => ⟨by cases rv; rfl, F1, u, ρ, S.step s1 g1, ?_⟩⟩
    have h' := After.split (p := c.p) (F := F) (H := H) h
    have h2 : After c.p F1 H1 (ms ρ u) fun a u1 F1 H1 => After c.p F1 H1 ((if a.length = n then mf a else lft none) u1) fun d _ F' H' => ∀ v, Rep c.W c.p F' v d → Q v H' := by
      cases e1 : ms ρ u with
      | none => rw [e1] at h'; exact h'
      | some y =>
        obtain ⟨ds, u1⟩ := y
        rw [e1] at h'
        exact fun F2 H2 s2 g2 => h' F2 H2 (s1.trans g1.ne s2) g2
    exact h2.imp fun ds u1 F2 H2 _ s2 g2 h3 vs rvs => call_ok g2 rvs h3
end

/-! ### objects made -/
def spI (W : Wo) (ck : Str) (n : Nat) (mf : List D → M (List Str × List D)) : Sp := fun vs H Q _ => vs.length = n + 1 ∧ ∃ p F u H1 x dx ws ds, vs = .ref x :: ws ∧ H1 x = none ∧ H1 dx = none ∧ dx ≠ x ∧
  H = upd (upd H1 dx (.own x)) x (.ins (W.cl ck) dx []) ∧ Gd p u F H1 ∧ Reps W p F ws ds ∧ After p F H1 (mf ds u) fun r _ F' H' => ∀ dx' vs', F' x = none → H' x = some (.ins (W.cl ck) dx' (r.1.zip vs')) → r.1.length = vs'.length → Reps W p F' vs' r.2 → Q .non H'
def startI (n : Nat) (ck : Str) (ds : List D) : Env := .oi ck [] [] :: startE (n - 1) ds
def mInit (n : Nat) (ck : Str) (mb : MS) : List D → M (List Str × List D) := fun ds u => match mb (startI n ck ds) u with
  | some (.nx ρ', u') => match (ρ'[0]? : Option Sd) with
    | some (Sd.oi k ks es) => if k = ck then some ((ks, es), u') else none
    | _ => none
  | _ => none
section
variable {P : Program} {w : World} {K : PySem.W.Frag} {mg : Str → Option Value} {base : Heap} {x qual : Str} {params : Arguments} {body : List Stmt} {scope : Scope} {dvs : List V} {kws : List (Str × V)} {f : Addr} {fd : FuncData} {W : Wo} {N ps : List Str} {k n : Nat} {mb : MS} {ck nm : Str}
theorem fn_init (F : FunD K x qual params body scope dvs kws f fd) (S : FnScope (nm :: N) ps scope) (hl : ps.length = n + 1)
    (hb : ∀ (cdv : Value) (A : Around) (outer : List PySem.Env) (s : Shared) (H : Hp) (E : XK) (p : Addr) (F0 H0 : Hp) (sf : Addr), Room k (A.deeper (envOfC qual scope s.heap.objs.size f cdv)) → DB (cxOf CX0 P w K mg base (nm :: N) qual scope f cdv A outer s H E).nox ⟨W, p, F0, H0, sf, noX⟩ body mb) :
    FnOk P w K mg base CX0 (k + 1) f fd ps (spI W ck n (mInit (N.length + 1) ck mb)) := by
  refine F.ok S (fun vs H Q E h => h.1.trans hl.symm) (fun cdv A outer s H vs Q E hr h => ?_)
  obtain ⟨hlen, p, F0, u, H1, x, dx, ws, ds, rfl, hx, hdx, hne, rfl, g, r, h⟩ := h
  have hpx : p ≠ x := fun z => g.ne (z ▸ hx)
  have hpd : p ≠ dx := fun z => g.ne (z ▸ hdx)
  have s1 : Stp p F0 H1 F0 (upd (upd H1 dx (.own x)) x (.ins (W.cl ck) dx [])) := ⟨fun _ _ e => e, fun a o _ e _ => by rw [upd_ne (ne_of_none e hx), upd_ne (ne_of_none e hdx)]; exact e, fun a ps _ e => ⟨ps, by rw [upd_ne (ne_of_none e hx), upd_ne (ne_of_none e hdx)]; exact e⟩, fun _ _ e => .inl e⟩
  have g1 : Gd p u F0 (upd (upd H1 dx (.own x)) x (.ins (W.cl ck) dx [])) := ⟨fun a o e => by rw [upd_ne (ne_of_none (g.ex a o e) hx), upd_ne (ne_of_none (g.ex a o e) hdx)]; exact g.ex a o e, by rw [upd_ne hpx, upd_ne hpd]; exact g.pu, g.off, g.nt, g.tb.ext fun b o e => by rw [upd_ne (ne_of_none e hx), upd_ne (ne_of_none e hdx)]; exact e, g.hp⟩
  have hFx : F0 x = none := g.fresh hx
  refine ⟨_, PSs.nox (hb cdv A outer s _ E p F0 H1 x hr), F0, u, startI (N.length + 1) ck ds, ⟨s1, g1, ?_⟩, ?_⟩
  · have e0 := env_start (c := ⟨W, p, F0, H1, x, noX⟩) (H := upd (upd H1 dx (.own x)) x (.ins (W.cl ck) dx [])) (N := N) r
    have es : L2.start (nm :: N) (.ref x :: ws) = some (.ref x) :: L2.start N ws := by
      unfold L2.start
      rw [List.length_cons, List.length_cons, Nat.add_sub_add_right]
      rfl
    have er : startI (N.length + 1) ck ds = .oi ck [] [] :: startE N.length ds := rfl
    rw [es, er]
    have nown : ∀ {i : Nat} {s : Sd}, (startE N.length ds)[i]? = some s → s.own = false := fun {i s} e => by
      unfold startE at e
      by_cases hi : i < (ds.map Sd.sh).length
      · rw [List.getElem?_append_left hi, List.getElem?_map] at e
        cases q : ds[i]? with
        | none => rw [q] at e; cases e
        | some d => rw [q] at e; cases e; rfl
      · rw [List.getElem?_append_right (by omega), List.getElem?_replicate] at e
        split at e
        · cases e; rfl
        · cases e
    refine ⟨by simp [e0.len], fun i t e => ?_, fun i j t t' hij e1 e2 o1 o2 => ?_⟩
    · cases i with
      | zero =>
        simp at e
        subst e
        exact ⟨dx, [], rfl, upd_same, hFx, Ne.symm hpx, hx, rfl, Reps.nil⟩
      | succ i => exact e0.at_ i t (by simpa using e)
    · cases i with
      | zero =>
        cases j with
        | zero => exact absurd rfl hij
        | succ j => rw [nown (by simpa using e2)] at o2; cases o2
      | succ i => rw [nown (by simpa using e1)] at o1; cases o1
  · unfold mInit at h
    cases e : mb (startI (N.length + 1) ck ds) u with
    | none => rw [e] at h; exact h
    | some y =>
      obtain ⟨fl, u1⟩ := y
      rw [e] at h
      cases fl with
      | nx ρ' =>
        intro σ' F' H' _ S'
        have h' : After p F0 H1 (match (ρ'[0]? : Option Sd) with
          | some (Sd.oi k ks es) => if k = ck then some ((ks, es), u1) else none
          | _ => none) fun r _ F' H' => ∀ dx' vs', F' x = none → H' x = some (.ins (W.cl ck) dx' (r.1.zip vs')) → r.1.length = vs'.length → Reps W p F' vs' r.2 → Q .non H' := h
        split at h'
        · rename_i k' ks es e0
          split at h'
          · rename_i hk
            subst hk
            obtain ⟨dx', vs', _, h2, h3, _, _, h5, h6⟩ := S'.env.at_ 0 _ e0
            exact h' F' H' S'.ent S'.gd dx' vs' h3 h2 h5 h6
          · exact False.elim h'
        · exact False.elim h'
      | _ => exact False.elim h
end
/-- self.f = e -/
def mSelfSet (i : Nat) (ck fn : Str) (m : ME) : MS := fun ρ => M.bind (m ρ) fun d => M.bind (lft (match (ρ[i]? : Option Sd) with
  | some (Sd.oi k ks es) => if k = ck ∧ fn ∉ ks ∧ ks.length < 900 then some (ks, es) else none
  | _ => none)) fun q => M.pure (.nx (ρ.set i (.oi ck (q.1 ++ [fn]) (q.2 ++ [d]))))
theorem putF_zip {fn : Str} {y : V} : ∀ {ks : List Str} {vs : List V}, fn ∉ ks → ks.length = vs.length → putF fn y (ks.zip vs) = (ks ++ [fn]).zip (vs ++ [y])
  | [], vs, _, hl => by
    have : vs = [] := List.eq_nil_of_length_eq_zero (by simpa using hl.symm)
    subst this
    rfl
  | a :: ks, [], _, hl => by simp at hl
  | a :: ks, b :: vs, h, hl => by
    show (if a = fn then _ else (a, b) :: putF fn y (ks.zip vs)) = _
    rw [if_neg (fun z => h (by simp [z])), putF_zip (fun z => h (List.mem_cons_of_mem _ z)) (by simpa using hl)]
    rfl
section
variable {X : Cx} {c : Cf} {pos p0 tp : Pos} {e : Expr} {m : ME} {ck fn x : Str}
theorem dSelfSet (i : Nat) (hc : Cls X.K (c.W.cl ck)) (hn : NoAttr X.K (c.W.cl ck) fn) (he : DE X c e m) (hN : X.N[i]? = some x := by rfl) (hv : Vis X.env.scope x := by first | exact Or.inl rfl | exact Or.inr (Or.inl rfl) | exact Or.inr (Or.inr rfl)) (hd : (x == ("__debug__" : Str)) = false := by decide)
    (hcd : (x == ("__classdict__" : Str)) = false := by decide) (hs : swapsWith e (some (.Attribute (.Name x p0) fn tp)) pos.line X.env = pure false := by rfl) : DS X c (.Assign [.Attribute (.Name x p0) fn tp] e pos) (mSelfSet i ck fn m) :=
  (ps_fld (pe_var (i := i) hN hv hd hcd) he hs).imp fun Dn σ H ⟨F, u, ρ, S, h⟩ => ⟨F, u, ρ, S, (flowO.after S h).imp fun d u1 F1 H1 _ s1 g1 h1 v rv => by
    obtain ⟨⟨ks, es⟩, e1, h2⟩ := flowO.lft h1.1 h1.2
    split at e1
    · rename_i k' ks' es' e0
      split at e1
      · rename_i hh
        obtain ⟨rfl, hf, hl⟩ := hh
        cases e1
        have S1 := h1.1
        obtain ⟨dx, vs, q1, q2, q3, q4, q5, q6, q7⟩ := id (S1.env.at_ i _ e0)
        refine ⟨.ref c.sf, q1, c.sf, _, dx, _, rfl, q2, hc, hn, by rw [List.length_zip]; omega, h2 σ F1 _ (Same.refl _) ?_⟩
        rw [putF_zip hf q6]
        have qs : ∀ {j : Nat} {t : Sd} {a : Addr}, i ≠ j → ρ[j]? = some t → t.own = true → σ[j]? = some (some (.ref a)) → a ≠ c.sf := fun {j t a} ne e2 o z h => by
          subst h
          exact S1.env.ne i j _ t ne e0 e2 rfl o (q1.trans z.symm)
        refine ⟨⟨S1.ent.ef, fun a o ha e n => ?_, fun a ps ha e => by
          obtain ⟨qs, e1⟩ := S1.ent.et a ps ha e
          exact ⟨qs, by rw [upd_ne (fun z => by rw [z, q5] at e; cases e)]; exact e1⟩, S1.ent.nw⟩, ⟨fun a o e => ?_, by rw [upd_ne (Ne.symm q4)]; exact S1.gd.pu, S1.gd.off, S1.gd.nt, tabs_overI q2 S1.gd.tb, S1.gd.hp⟩, by simpa using S1.env.len, fun j t e2 => ?_, fun j k t t' h e1 e2 o1 o2 => ?_⟩
        · rw [upd_ne (fun z => by rw [z, q5] at e; cases e)]; exact S1.ent.eh a o ha e n
        · rw [upd_ne (fun z => by rw [z, q3] at e; cases e)]; exact S1.gd.ex a o e
        · rcases set_get e2 with ⟨rfl, rfl, _⟩ | ⟨ne, e2⟩
          · exact ⟨dx, vs ++ [v], q1, upd_same, q3, q4, q5, by simp [q6], q7.append (Reps.cons rv Reps.nil)⟩
          · have k := S1.env.at_ j t e2
            cases t with
            | un => trivial
            | sh d => exact k
            | ow ds' => obtain ⟨a, xs, z, ha, rest⟩ := k; exact ⟨a, xs, z, by rw [upd_ne (qs ne e2 rfl z)]; exact ha, rest⟩
            | oi kk ks' ds' => obtain ⟨dx', xs, z, ha, rest⟩ := k; exact absurd rfl (qs ne e2 rfl z)
            | od ks' ds' => obtain ⟨a, ob, xs, ws, z, ha, rest⟩ := k; exact ⟨a, ob, xs, ws, z, by rw [upd_ne (qs ne e2 rfl z)]; exact ha, rest⟩
            | oz ks' ds' => obtain ⟨a, xs, z, ha, rest⟩ := k; exact ⟨a, xs, z, by rw [upd_ne (qs ne e2 rfl z)]; exact ha, rest⟩
        · have back : ∀ {m : Nat} {y : Sd}, (ρ.set i (Sd.oi k' (ks ++ [fn]) (es ++ [d])))[m]? = some y → y.own = true → ∃ y', ρ[m]? = some y' ∧ y'.own = true := fun {m y} z o => by
            rcases set_get z with ⟨rfl, rfl, _⟩ | ⟨_, z⟩
            · exact ⟨_, e0, rfl⟩
            · exact ⟨y, z, o⟩
          obtain ⟨y1, z1, p1⟩ := back e1 o1
          obtain ⟨y2, z2, p2⟩ := back e2 o2
          exact S1.env.ne j k y1 y2 h z1 z2 p1 p2
      · cases e1
    · cases e1⟩
end
/-- C(e, ..) -/
def mMake (ck : Str) (n : Nat) (mf : List D → M (List Str × List D)) (ms : MA) : ME := fun ρ => M.bind (ms ρ) fun ds => if ds.length = n then M.bind (mf ds) fun r => M.pure (.obj ck r.1 r.2) else lft none
section
variable {X : Cx} {c : Cf} {k n : Nat} {f : Addr} {fd : FuncData} {ps : List Str} {x ck : Str} {p pos : Pos} {e : Expr} {es : List Expr} {ms : MA} {mf : List D → M (List Str × List D)}
theorem make_ok {p : Addr} {F1 H1 : Hp} {u1 : PuS} {vs : List V} {ds : List D} {W : Wo} {Q : VK} (hc : ck ∈ W.cs) (g1 : Gd p u1 F1 H1) (rvs : Reps W p F1 vs ds) (h1 : After p F1 H1 ((if ds.length = n then M.bind (mf ds) fun r => M.pure (D.obj ck r.1 r.2) else lft none) u1) fun d _ F' H' => ∀ v, Rep W p F' v d → Q v H')
    (a dx : Addr) (ha : H1 a = none) (hdx : H1 dx = none) (hne : dx ≠ a) : spI W ck n mf (.ref a :: vs) (upd (upd H1 dx (.own a)) a (.ins (W.cl ck) dx [])) (fun v H2 => v = .non ∧ Q (.ref a) H2) E0 := by
  split at h1
  · rename_i hl
    refine ⟨by simp [rvs.1, hl], p, F1, u1, H1, a, dx, vs, ds, rfl, ha, hdx, hne, rfl, g1, rvs, ?_⟩
    unfold M.bind at h1
    cases e1 : mf ds u1 with
    | none => rw [e1] at h1; exact h1
    | some y =>
      obtain ⟨r, u2⟩ := y
      rw [e1] at h1
      have h2 : After p F1 H1 (some (D.obj ck r.1 r.2, u2)) fun d _ F' H' => ∀ v, Rep W p F' v d → Q v H' := h1
      intro F' H' s' g' dx' vs' hF hH hlk hr
      have hsm : Same F' (upd F' a (.ins (W.cl ck) dx' (r.1.zip vs'))) := fun b o e => by rw [upd_ne (fun z => by rw [z, hF] at e; cases e)]; exact e
      have hpa : p ≠ a := fun z => g1.ne (z ▸ ha)
      refine ⟨rfl, h2 (upd F' a (.ins (W.cl ck) dx' (r.1.zip vs'))) H' ⟨s'.ef.trans hsm, s'.eh, s'.et, fun b o e => ?_⟩ ⟨fun b o e => ?_, g'.pu, fun l e => by rw [upd_ne hpa]; exact g'.off l e, nt_upd g'.nt (by intro _ z; cases z), g'.tb, g'.hp⟩ (.ref a) (.obj hc upd_same hlk hr.1 fun i v d x y => (hr.2 i v d x y).mono hsm)⟩
      · by_cases hb : b = a
        · subst hb; exact .inr ha
        · rw [upd_ne hb] at e; exact s'.nw b o e
      · by_cases hb : b = a
        · subst hb; rw [upd_same] at e; cases e; exact hH
        · rw [upd_ne hb] at e; exact g'.ex b o e
  · exact False.elim h1
theorem dMake (hc : ck ∈ c.W.cs) (Mk' : Mk X.K (c.W.cl ck) f) (G : FnOk X.prog X.w X.K X.mg X.base CX0 k f fd ps (spI c.W ck n mf)) (hr : Room (k + 1) X.A) (hg : Gl X x) (hm : X.mg x = some (.ref (c.W.cl ck))) (hb : Binds X.K fd ps [])
    (ha : DA X c (e :: es) ms) (hdb : (x == ("__debug__" : Str)) = false := by decide) (he : starEach (e :: es) X.env = (false, eval e X.env) :: starEach es X.env := by rfl) (hpl : (backTo pos (starEach es X.env)).any (·.1) = false := by rfl) :
    DE X c (.Call (.Name x p) (e :: es) [] pos) (mMake ck n mf ms) :=
  (pe_make Mk' G hr hg hm hb .nil pass0 ha hdb he hpl).imp fun σ H Q ⟨F, u, ρ, S, h⟩ => ⟨F, u, ρ, S, (After.split h).imp fun ds u1 F1 H1 _ s1 g1 h1 vs rvs => by
    intro a dx ha hdx hne
    show spI c.W ck n mf (.ref a :: (vs ++ [])) _ _ _
    rw [List.append_nil]
    exact make_ok hc g1 rvs h1 a dx ha hdx hne⟩
end
end Mi

set_option Elab.async false
set_option linter.all false
set_option maxRecDepth 100000
set_option maxHeartbeats 4000000
/-! Mi9: enumerate and zip of tuples. -/
namespace PySem
theorem mi_meets_enum1 {v : Value} {o : Obj} {H : Heap → Prop} (B : Begins v o H) :
    Meets (Builtin.«enumerate.__new__» ⟨[.type "enumerate", v], []⟩) (fun _ R s => H s.heap ∧
      R (.ok (.ret (.ref (s.heap.push o).objs.size))) { s with heap := (s.heap.push o).push { cls := .type "enumerate", data := .fields #[.none, .bool false, .ref s.heap.objs.size, rawInt 0, .none, .none] } }) :=
  .of_wp fun prog w A R s h => by
    obtain ⟨hp, g, d, tk, os⟩ := s; obtain ⟨h1, h⟩ := h
    have hsub := sub_enumerate
    have q1 : ∀ {A' : Around} {E : Value → Shared → Prop} {Q : Value → Shared → Prop}, Q (.ref hp.objs.size) ⟨hp.push o, g, d, tk, os⟩ → wpAny (model prog w) A' (pyIter v) Q E ⟨hp, g, d, tk, os⟩ :=
      fun q => B.iter prog w _ _ ⟨hp, g, d, tk, os⟩ _ h1 q
    wp_walk using q1
    refine wpAny_stack_any fun st => wpAny_pure ?_
    split
    · rename_i c _ _ _ _ _
      cases (c == Value.type "enumerate")
      · wp_walk using q1
        exact ⟨_, rfl, h⟩
      · wp_walk using q1
        exact ⟨_, rfl, h⟩
    · wp_walk using q1
      exact ⟨_, rfl, h⟩
theorem mi_enum_begins1 {prog : Program} {w : World} {A : Around} {E : Value → Shared → Prop} {s : Shared} {v : Value} {o : Obj} {H : Heap → Prop} {Q : Value → Shared → Prop} (B : Begins v o H) (h1 : H s.heap)
    (h : ∀ h', IsEnum h' (s.heap.objs.size + 1) s.heap.objs.size 0 .none → h'.get? s.heap.objs.size = some o → h'.objs.size = s.heap.objs.size + 2 →
      (∀ b o, s.heap.get? b = some o → h'.get? b = some o) → Q (.ref (s.heap.objs.size + 1)) { s with heap := h' }) :
    wpAny (model prog w) A (call (.type "enumerate") [v]) Q E s := by
  refine callType_new F.called_enumerate (by decide) (F.typeCall_enumerate_1 _) (F.newCall_enumerate_1 _) (fun obj => F.args_object_init_2 obj _) F.entry_enumerate_new
    (mi_meets_enum1 B) ⟨h1, ?_⟩
  have hz : (s.heap.push o).objs.size = s.heap.objs.size + 1 := Heap.size_push ..
  show _ ∧ _
  rw [hz]
  have he : IsEnum ((s.heap.push o).push { cls := .type "enumerate", data := .fields #[.none, .bool false, .ref s.heap.objs.size, rawInt 0, .none, .none] }) (s.heap.objs.size + 1) s.heap.objs.size 0 .none := by
    have := Heap.get?_push_size (s.heap.push o) (o := { cls := .type "enumerate", data := .fields #[.none, .bool false, .ref s.heap.objs.size, rawInt 0, .none, .none] }) rfl
    rw [hz] at this; exact this
  refine ⟨⟨_, he, rfl⟩, h _ he (Heap.get?_push_of_some _ (Heap.get?_push_size _ B.free)) (by rw [Heap.size_push, hz]) fun b o x => Heap.get?_push_of_some _ (Heap.get?_push_of_some _ x)⟩
end PySem

namespace Mi
open PySem PySem.Spec PyProof.Rows L2
variable [TB : Tabl]
/-- the tuple at a, each item in a new pair -/
def IteT (K : PySem.W.Frag) (a : Addr) : It :=
  ⟨fun i H => ∃ (xs : List V) (x : V), SqT K H a xs ∧ xs[i]? = some x, fun i H v H' => ∃ T x, v = .ref T ∧ H T = none ∧ H' = upd H T (.tup [.int (i : Nat), x]) ∧ ∀ xs, SqT K H a xs → xs[i]? = some x, fun i H => ∃ xs : List V, SqT K H a xs ∧ xs.length ≤ i⟩
theorem turn_enumT {P : Program} {w : World} {K : PySem.W.Frag} {elts : List Expr} {kk : Nat} {tpos : Pos} (a e it : Addr) (hai : a ≠ it) (hae : a ≠ e) :
    Turn P w K (.Tuple elts kk tpos) (IteT K a) [e, it] e (fun i h => (∃ old, IsEnum h e it ((i : Nat) : Int) old) ∧ h.IsTupleIter it a i ∧ e ≠ it) where
  mem := by simp
  obj := fun i h st b hb => by
    obtain ⟨⟨old, he⟩, ⟨o, ho, hc, hd⟩, _⟩ := st
    have e' : b = e ∨ b = it := by simpa using hb
    rcases e' with z | z
    · rw [z]; exact ⟨_, he, fun v q => nomatch q⟩
    · rw [z]; exact ⟨o, ho, fun v q => by rw [hd] at q; cases q⟩
  keep := fun i h h' st k => let ⟨⟨old, he⟩, hi, hne⟩ := st; ⟨⟨old, k e (by simp) _ he⟩, hi.at fun o q => k it (by simp) o q, hne⟩
  item := by
    intro X hP hw hK hc i pins s σ H E I hf st hg
    subst hP hw hK
    obtain ⟨⟨old, he⟩, hit, hne⟩ := st
    obtain ⟨xs, x, hq, hx⟩ := hg
    obtain ⟨its, rv, p, hz⟩ := I.tuple hq
    obtain ⟨u, hu, ru⟩ := rv.get hx
    have hel : e < s.heap.objs.size := Heap.lt_size he
    have hil : it < s.heap.objs.size := by obtain ⟨_, q, _⟩ := hit; exact Heap.lt_size q
    have hlt : i < its.toArray.size := by
      have := (List.getElem?_eq_some_iff.mp hu).1
      simpa using this
    have hnf : e ∉ [it, a] := by simp [hne, Ne.symm hae]
    refine wpAny_pyNext_enum_itemD (Draws.tuple (A := X.A.in1) (I.ok.hd hc) it a hai its.toArray) he ⟨hit, p⟩ hlt hne hnf fun x' h' tk hP ho hst' hT hsz hk => ?_
    have ex : x' = u := by
      have e1 : its[i]? = some x' := by simpa using hP
      rw [hu] at e1
      exact (Option.some.inj e1).symm
    subst ex
    refine ⟨_, rfl, wpAny_letOwnedTupleGo_enum (s := { s with heap := h', toks := tk + 1 }) ho fun h'' he' sb => ?_⟩
    have hT2 : h''.get? s.heap.objs.size = some { cls := .type "tuple", data := .seq #[.int i tk, x'] } := (sb.2 _ (Nat.ne_of_gt hel)).trans hT
    have new : ObjOk X.prog X.w (upd H s.heap.objs.size (.tup [.int (i : Nat), x])) h'' s.heap.objs.size (.tup [.int (i : Nat), x]) :=
      ⟨by show 2 ≤ sizeLine; decide, [.int i tk, x'], .cons ⟨_, rfl⟩ (.cons ru .nil), ⟨_, hT2, rfl, _, rfl⟩⟩
    have I1 : Inv X pins σ (upd H s.heap.objs.size (.tup [.int (i : Nat), x])) { s with heap := h'', toks := tk + 1 } :=
      I.turnedNew (ch := [e, it]) (fun b ob hb q => (sb.2 b (fun z => hb (by simp [z]))).trans (hk b ob (fun z => hb (by simp [z])) (fun z => hb (by simp [z])) q)) hf (Nat.le_refl _) new
    refine ⟨.ref s.heap.objs.size, _, I1, rfl, ⟨_, x, rfl, I.hok.fresh (Nat.le_refl _), rfl, fun ys hy => by rw [I.tuple_inj hy hq]; exact hx⟩, ⟨⟨x', ?_⟩, hst'.1.at fun o q => (sb.2 it (Ne.symm hne)).trans q, hne⟩, fun b hb => ?_⟩
    · have e1 : ((i + 1 : Nat) : Int) = (i : Int) + 1 := by omega
      rw [e1]; exact he'
    · have hb' : b < s.heap.objs.size := by
        have e' : b = e ∨ b = it := by simpa using hb
        rcases e' with z | z
        · rw [z]; exact hel
        · rw [z]; exact hil
      rw [upd_ne (Nat.ne_of_lt hb')]
      exact (hf b hb).1
  done := by
    intro X hP hw hK hc i pins s σ H E I hf st hg
    subst hP hw hK
    obtain ⟨⟨old, he⟩, hit, hne⟩ := st
    obtain ⟨xs, hq, hx⟩ := hg
    obtain ⟨its, rv, p, hz⟩ := I.tuple hq
    obtain ⟨f0, f1, f2, f3, f4, f5⟩ := hf it (by simp)
    have hl := rv.length
    have hT : s.TypeIs (.ref e) "enumerate" := ⟨_, he, rfl⟩
    unfold pyNext
    refine wpAny_bind (wpAny_attempt (wpAny_callSpecial?_slot (name := Str.ofString "__next__") hT F.slot_enumerate_next
      (wpAny_call_entry F.slot_enumerate_next hT F.entry_enumerate_next ?_ (F.args_enumerate_next_1 _))))
    show wpAny _ _ (field (.ref e) 2 >>= _) _ _ _
    refine wpAny_bind (wpAny_field he rfl (x := .ref it) rfl ?_)
    refine wpAny_bind (wpAny_nextOf_tuple_end (I.ok.hd hc) hit p (by simp; omega) fun h' x' he' hx' => ?_)
    obtain ⟨o, ho, hcc⟩ := hx'
    refine wpAny_bind (wpAny_isInstance (T := "StopIteration") (b := true) ⟨o, ho, hcc⟩ isSubtype_stop ?_)
    exact wpAny_pure ⟨rfl, I.turned (t' := s.toks) (fun b o hb q => he' b o hb q) f0 f1 f3 f4 f5⟩
  self := fun A i s Q E st h => let ⟨⟨_, he⟩, _⟩ := st; wpAny_pyIter_enum he h
def iEnumT (K : PySem.W.Frag) (ta : TA) : TI := fun σ H R => ta σ H fun vs H1 => ∃ a xs, vs = [.ref a] ∧ SqT K H1 a xs ∧ R (IteT K a) H1
theorem pi_enumT {X : Cx} {e : Expr} {ta : TA} {p pos tpos : Pos} {elts : List Expr} {kk : Nat} (hg : Gl X "enumerate") (hm : X.mg "enumerate" = none) (ha : PA X [e] ta) (hs : starEach [e] X.env = [(false, eval e X.env)] := by rfl) :
    PI X (.Tuple elts kk tpos) (.Call (.Name "enumerate" p) [e] [] pos) (iEnumT X.K ta) := by
  refine ⟨fun pins s σ H R I h => ?_⟩
  refine Call_ (ld_blt I hg hm boot_enumerate (PyProof.Rows.callWith_type1 (thn (ha.run pos pins s σ H _ I h) fun us s1 ⟨vs, H1, I1, r1, q1⟩ => ?_) hs rfl))
  obtain ⟨a, xs, ex, hq, q⟩ := q1
  subst ex
  cases r1 with
  | cons r rr =>
    cases rr
    cases r
    obtain ⟨its, rv, p', hz⟩ := I1.tuple hq
    have la : a < s1.heap.objs.size := p'.lt
    refine mi_enum_begins1 (begins_tuple a its.toArray) p' fun h' he hit hsz hk => wpAny_pyIter_enum he ?_
    have I2 : Inv X pins σ H1 { s1 with heap := h' } := I1.kept (t' := s1.toks) hk
    refine ⟨s1.heap.objs.size + 1, [s1.heap.objs.size + 1, s1.heap.objs.size], _, _, H1, rfl, I2, turn_enumT a (s1.heap.objs.size + 1) s1.heap.objs.size (Nat.ne_of_lt la) (Nat.ne_of_lt (Nat.lt_succ_of_lt la)), ⟨⟨.none, he⟩, ⟨_, hit, rfl, rfl⟩, Nat.succ_ne_self _⟩, fun b hb => ?_, q⟩
    have e' : b = s1.heap.objs.size + 1 ∨ b = s1.heap.objs.size := by simpa using hb
    have hle : s1.heap.objs.size ≤ b := by
      rcases e' with z | z
      · rw [z]; exact Nat.le_add_right _ _
      · rw [z]; exact Nat.le_refl _
    exact I1.fpOk hle (I1.hok.fresh hle)
theorem walk_enumT {K : PySem.W.Frag} {a : Addr} {xs : List V} : Walk (IteT K a) xs.length (fun H => SqT K H a xs) (YPair (fun i => some (.int (i : Nat))) (fun i => xs[i]?)) := by
  refine ⟨fun i _ hi q => ⟨xs, xs[i], q, by simp [hi]⟩, fun _ q => ⟨xs, q, Nat.le_refl _⟩, fun i H v H' _ q y => ?_⟩
  obtain ⟨T, x, h1, h2, h3, h4⟩ := y
  exact ⟨T, .int (i : Nat), x, h1, h2, h3, rfl, h4 xs q⟩
def enumT1 : List D → Option (List D) := fun ds => match ds with
  | [.tup xs] => some (enumD xs)
  | _ => none
section
variable {X : Cx} {c : Cf} {a b : Expr} {ms : MA} {pos q tpos : Pos} {elts : List Expr} {kk : Nat}
theorem dIenumT (hg : Gl X "enumerate") (hm : X.mg "enumerate" = none) (ha : DA X c [a] ms) (hs : starEach [a] X.env = [(false, eval a X.env)] := by rfl) (hK : X.K = c.W.K := by rfl) :
    DI X c (.Tuple elts kk tpos) (.Call (.Name "enumerate" q) [a] [] pos) (mIof enumT1 ms) :=
  (pi_enumT hg hm ha hs).imp fun σ H R ⟨F, u, ρ, S, h⟩ => ⟨F, u, ρ, S, (After.split h).imp fun ds u1 F1 H1 _ s1 g1 h1 vs rv => by
    obtain ⟨es, e1, h2⟩ := lft_some h1
    unfold enumT1 at e1
    split at e1
    · rename_i xs _h
      cases e1
      obtain ⟨v, vr, rfl, r1, r2⟩ := rv.uncons
      rw [r2.none]
      obtain ⟨p1, v1, rfl, f1, q1⟩ := r1.tup_
      refine ⟨p1, v1, rfl, by rw [hK]; exact sq_t g1.ex f1, After.now g1 h2 _ ?_⟩
      rw [hK]
      refine walkD_pair (n := v1.length) (by rw [enumD_len, q1.1]) walk_enumT (fun H e => sq_t e f1) fun i x y d hx hy hd => ?_
      obtain ⟨y', e2, rfl⟩ := enumD_at hd
      cases hx
      exact ⟨_, y', rfl, .int _, q1.2 i y y' hy e2⟩
    · cases e1⟩
end
end Mi

set_option Elab.async false
set_option linter.all false
set_option maxRecDepth 100000
set_option maxHeartbeats 4000000
/-! MiA: parallel assignment with fresh lists, keyword calls, fresh slices. -/
namespace Mi
open PySem PySem.Spec PyProof.Rows L2
variable [TB : Tabl]

/-! ### lists of values, some of them fresh lists -/
abbrev MM := Env → M (List Sd)
structure Mats (W : Wo) (p : Addr) (F H H00 : Hp) (vs : List V) (sds : List Sd) : Prop where
  len : vs.length = sds.length
  at_ : ∀ (i : Nat) (v : V) (sd : Sd), vs[i]? = some v → sds[i]? = some sd → match sd with
    | .sh d => Rep W p F v d
    | .ow ds => ∃ q ws, v = .ref q ∧ H q = some (.lst ws) ∧ F q = none ∧ H00 q = none ∧ Reps W p F ws ds
    | _ => False
  ne : ∀ (i j : Nat) (s t : Sd), i ≠ j → sds[i]? = some s → sds[j]? = some t → s.own = true → t.own = true → vs[i]? ≠ vs[j]?
def rdM (c : Cf) (m : MM) : TA := fun σ H Q => ∃ F u ρ, Sta c u F H σ ρ ∧ After c.p F H (m ρ u) fun sds _ F' H' => ∀ vs, Mats c.W c.p F' H' H vs sds → Q vs H'
abbrev DM (X : Cx) (c : Cf) (es : List Expr) (m : MM) : Prop := PA X es (rdM c m)
def mMnil : MM := fun _ => M.pure []
def mMsh (m : ME) (ms : MM) : MM := fun ρ => M.bind (m ρ) fun d => M.bind (ms ρ) fun ds => M.pure (.sh d :: ds)
def mMow (m : MA) (ms : MM) : MM := fun ρ => M.bind (m ρ) fun d => M.bind (ms ρ) fun ds => M.pure (.ow d :: ds)
section
variable {X : Cx} {c : Cf} {pos : Pos} {e a b : Expr} {es : List Expr} {m : ME} {ml : MA} {ms : MM}
theorem dMnil : DM X c [] mMnil := pa_nil.imp fun σ H Q ⟨F, u, ρ, S, h⟩ => After.now S.gd h [] ⟨rfl, fun i v sd a _ => by simp at a, fun i j s t _ a _ => by simp at a⟩
theorem dMsh (ha : DE X c e m) (hr : DM X c es ms) (hs : starEach (e :: es) X.env = (false, eval e X.env) :: starEach es X.env := by rfl) : DM X c (e :: es) (mMsh m ms) :=
  (pa_cons ha hr hs).imp fun σ H Q ⟨F, u, ρ, S, h⟩ => ⟨F, u, ρ, S, (After.split h).imp fun d u1 F1 H1 _ s1 g1 h1 v rv => ⟨F1, u1, ρ, S.step s1 g1, (After.split h1).imp fun ds u2 F2 H2 _ s2 g2 h2 vs R => by
    refine After.now (p := c.p) (F := F2) (H := H2) (u := u2) g2 h2 (v :: vs) ⟨by simp [R.len], fun i w sd ea eb => ?_, fun i j s t hij ea eb o1 o2 => ?_⟩
    · cases i with
      | zero => simp at ea eb; subst ea; subst eb; exact rv.mono s2.ef
      | succ i =>
        simp at ea eb
        have := R.at_ i w sd ea eb
        cases sd with
        | sh d => exact this
        | ow ds => obtain ⟨q, ws, h1, h2, h3, h4, h5⟩ := this; exact ⟨q, ws, h1, h2, h3, s1.back g1.ne h4, h5⟩
        | _ => exact this
    · cases i with
      | zero => simp at ea; subst ea; cases o1
      | succ i =>
        cases j with
        | zero => simp at eb; subst eb; cases o2
        | succ j => simp at ea eb ⊢; exact R.ne i j s t (fun z => hij (by rw [z])) ea eb o1 o2⟩⟩
theorem dMow (ha : DL X c e ml) (hr : DM X c es ms) (hs : starEach (e :: es) X.env = (false, eval e X.env) :: starEach es X.env := by rfl) : DM X c (e :: es) (mMow ml ms) :=
  (pa_cons ha hr hs).imp fun σ H Q ⟨F, u, ρ, S, h⟩ => ⟨F, u, ρ, S, (After.split h).imp fun d u1 F1 H1 _ s1 g1 h1 q ws hF hn hq rw => ⟨F1, u1, ρ, S.step s1 g1, (After.split h1).imp fun ds u2 F2 H2 _ s2 g2 h2 vs R => by
    have hqp : q ≠ c.p := fun z => S.gd.ne (z ▸ hn)
    have hfar : ∀ (j : Nat) (t : Sd), ds[j]? = some t → t.own = true → vs[j]? ≠ some (.ref q) := fun j t ej o z => by
      have := R.at_ j _ t z ej
      cases t with
      | ow es' =>
        obtain ⟨q', ws', e1, _, _, e4, _⟩ := this
        cases e1
        rw [hq] at e4
        cases e4
      | oi _ _ _ => exact this
      | od _ _ => exact this
      | oz _ _ => exact this
      | _ => cases o
    refine After.now (p := c.p) (F := F2) (H := H2) (u := u2) g2 h2 (.ref q :: vs) ⟨by simp [R.len], fun i w sd ea eb => ?_, fun i j s t hij ea eb o1 o2 => ?_⟩
    · cases i with
      | zero => simp at ea eb; subst ea; subst eb; exact ⟨q, ws, rfl, s2.eh q _ hqp hq (.inr (by intro _ z; cases z)), s2.off hF (by rw [hq]; simp), hn, rw.mono s2.ef⟩
      | succ i =>
        simp at ea eb
        have := R.at_ i w sd ea eb
        cases sd with
        | sh d => exact this
        | ow ds => obtain ⟨q, ws, h1, h2, h3, h4, h5⟩ := this; exact ⟨q, ws, h1, h2, h3, s1.back g1.ne h4, h5⟩
        | _ => exact this
    · cases i with
      | zero =>
        cases j with
        | zero => exact absurd rfl hij
        | succ j => simp at eb ⊢; exact fun z => hfar j t eb o2 z.symm
      | succ i =>
        cases j with
        | zero => simp at ea ⊢; exact fun z => hfar i s ea o1 z
        | succ j => simp at ea eb ⊢; exact R.ne i j s t (fun z => hij (by rw [z])) ea eb o1 o2⟩⟩
end
section
variable {c : Cf} {u : PuS} {F H : Hp} {σ : L2.St} {ρ : Env}
theorem Sta.setS {i : Nat} {v : V} {sd : Sd} (S : Sta c u F H σ ρ) (ok : SdOk c F H (some (some v)) sd) (far : sd.own = true → ∀ (j : Nat) (t : Sd), j ≠ i → ρ[j]? = some t → t.own = true → σ[j]? ≠ some (some v)) : Sta c u F H (σ.set i (some v)) (ρ.set i sd) := by
  refine ⟨S.ent, S.gd, by simpa using S.env.len, fun j t e => ?_, fun j k s t hjk e1 e2 o1 o2 => ?_⟩
  · rcases set_get e with ⟨rfl, rfl, hl⟩ | ⟨ne, e⟩
    · rw [List.getElem?_set_self (by rw [S.env.len]; exact hl)]; exact ok
    · rw [List.getElem?_set_ne ne]; exact S.env.at_ j t e
  · rcases set_get e1 with ⟨rfl, rfl, hl⟩ | ⟨n1, e1b⟩
    · rcases set_get e2 with ⟨h, _, _⟩ | ⟨n2, e2⟩
      · exact absurd h hjk
      · rw [List.getElem?_set_self (by rw [S.env.len]; exact hl), List.getElem?_set_ne n2]
        exact fun z => far o1 k t (Ne.symm n2) e2 o2 z.symm
    · rcases set_get e2 with ⟨rfl, rfl, hl⟩ | ⟨n2, e2⟩
      · rw [List.getElem?_set_ne n1, List.getElem?_set_self (by rw [S.env.len]; exact hl)]
        exact far o2 j s (Ne.symm n1) e1b o1
      · rw [List.getElem?_set_ne n1, List.getElem?_set_ne n2]; exact S.env.ne j k s t hjk e1b e2 o1 o2
end
/-- set slots in their order -/
def setAll : List Nat → List Sd → Env → Env
  | i :: is, s :: ss, ρ => setAll is ss (ρ.set i s)
  | _, _, ρ => ρ
def setV : List Nat → List V → L2.St → L2.St
  | i :: is, v :: vs, σ => setV is vs (σ.set i (some v))
  | _, _, σ => σ
theorem Mats.tail {W : Wo} {p : Addr} {F H H00 : Hp} {v : V} {vs : List V} {s : Sd} {ss : List Sd} (R : Mats W p F H H00 (v :: vs) (s :: ss)) : Mats W p F H H00 vs ss :=
  ⟨by have := R.len; simpa using this, fun i w sd ea eb => R.at_ (i + 1) w sd (by simpa using ea) (by simpa using eb), fun i j s t hij ea eb o1 o2 => by
    have := R.ne (i + 1) (j + 1) s t (by omega) (by simpa using ea) (by simpa using eb) o1 o2
    simpa using this⟩
/-- all owned slots known: their objects were there, or are among these -/
theorem Sta.setAll {c : Cf} {u0 u : PuS} {F0 H0 F H : Hp} {σ0 : L2.St} {ρ0 : Env} (S0 : Sta c u0 F0 H0 σ0 ρ0) : ∀ {is : List Nat} {vs : List V} {sds : List Sd} {σ : L2.St} {ρ : Env}, Sta c u F H σ ρ → Mats c.W c.p F H H0 vs sds → is.length = vs.length →
    (∀ (j : Nat) (t : Sd) (k : Nat) (s : Sd), ρ[j]? = some t → t.own = true → sds[k]? = some s → s.own = true → σ[j]? ≠ (vs[k]?).map some) →
    Sta c u F H (setV is vs σ) (Mi.setAll is sds ρ)
  | [], vs, sds, σ, ρ, S, R, hl, far => by
    unfold setV Mi.setAll
    exact S
  | i :: is, [], sds, σ, ρ, S, R, hl, far => by simp at hl
  | i :: is, v :: vs, [], σ, ρ, S, R, hl, far => by have := R.len; simp at this
  | i :: is, v :: vs, s :: ss, σ, ρ, S, R, hl, far => by
    show Sta c u F H (setV is vs (σ.set i (some v))) (Mi.setAll is ss (ρ.set i s))
    have hv := R.at_ 0 v s rfl rfl
    refine Sta.setAll S0 (S.setS (i := i) (v := v) (sd := s) ?_ fun o j t _ e o2 => far j t 0 s e o2 rfl o) R.tail (by simpa using hl) fun j t k s' e o ek ok => ?_
    · cases s with
      | sh d => exact ⟨v, rfl, hv⟩
      | ow ds =>
        obtain ⟨q, ws, rfl, h1, h2, h3, h4⟩ := hv
        exact ⟨q, ws, rfl, h1, h2, fun z => S0.gd.ne (z ▸ h3), S0.ent.back S0.gd.ne h3, h4⟩
      | un => trivial
      | oi _ _ _ => exact False.elim hv
      | od _ _ => exact False.elim hv
      | oz _ _ => exact False.elim hv
    · rcases set_get e with ⟨rfl, rfl, hl'⟩ | ⟨ne, e⟩
      · rw [List.getElem?_set_self (by rw [S.env.len]; exact hl')]
        have := R.ne 0 (k + 1) t s' (by omega) rfl (by simpa using ek) o ok
        intro z
        apply this
        simp at this ⊢
        cases q : vs[k]? with
        | none => rw [q] at z; cases z
        | some w => rw [q] at z; cases z; rfl
      · rw [List.getElem?_set_ne ne]
        have := far j t (k + 1) s' e o (by simpa using ek) ok
        simpa using this
theorem Mats.fresh {c : Cf} {u0 : PuS} {F0 H0 F H : Hp} {σ0 : L2.St} {ρ0 : Env} {vs : List V} {sds : List Sd} (S0 : Sta c u0 F0 H0 σ0 ρ0) (R : Mats c.W c.p F H H0 vs sds) (j : Nat) (t : Sd) (k : Nat) (s : Sd) (e : ρ0[j]? = some t) (o : t.own = true) (ek : sds[k]? = some s) (ok : s.own = true) : σ0[j]? ≠ (vs[k]?).map some := by
  intro z
  obtain ⟨q, hq, hne, _⟩ := (S0.env.at_ j t e).ref o
  rw [hq] at z
  cases ev : vs[k]? with
  | none => rw [ev] at z; cases z
  | some w =>
    rw [ev] at z
    have := R.at_ k w s ev ek
    cases z
    cases s with
    | ow ds =>
      obtain ⟨q', ws, e1, _, _, e4, _⟩ := this
      cases e1
      exact hne e4
    | oi _ _ _ => exact this
    | od _ _ => exact this
    | oz _ _ => exact this
    | _ => cases ok
def mPar (is : List Nat) (ms : MM) : MS := fun ρ => M.bind (ms ρ) fun sds => if sds.length = is.length then M.pure (.nx (setAll is sds ρ)) else lft none
section
variable {X : Cx} {c : Cf} {pos : Pos} {a b d : Expr} {ms : MM}
theorem rdPar {is : List Nat} {Dn : Ends} {σ : L2.St} {H : Hp} (h : rdS c (mPar is ms) Dn σ H) : rdM c ms σ H fun vs H1 => vs.length = is.length ∧ Dn.nx (setV is vs σ) H1 := by
  obtain ⟨F, u, ρ, S, h⟩ := h
  refine ⟨F, u, ρ, S, (flowO.after S h).imp fun sds u1 F1 H1 _ s1 g1 h1 vs R => ?_⟩
  have h2 := h1.2
  split at h2
  · rename_i hl
    exact ⟨R.len.trans hl, h2 _ F1 H1 (Same.refl _) (Sta.setAll S h1.1 R (hl.symm.trans R.len.symm) (Mats.fresh S R))⟩
  · exact False.elim h2
theorem dPar {i j : Nat} {x y : Str} {px py pt : Pos} {kt k2 pt2} (hc : X.calm = true) (hN : X.N.Nodup) (hi : X.N[i]? = some x) (hj : X.N[j]? = some y) (hij : i ≠ j)
    (hx : X.env.scope.names.lookup x = some .local) (hy : X.env.scope.names.lookup y = some .local) (ha : DM X c [a, b] ms)
    (hw : swappedStores [.Tuple [.Name x px, .Name y py] kt pt] (.Tuple [a, b] k2 pt2) X.env = pure (some [x, y]) := by rfl)
    (hs : swapsWithSole [.Tuple [.Name x px, .Name y py] kt pt] (.Tuple [a, b] k2 pt2) pos.line X.env = pure false := by rfl) :
    DS X c (.Assign [.Tuple [.Name x px, .Name y py] kt pt] (.Tuple [a, b] k2 pt2) pos) (mPar [i, j] ms) :=
  (ps_par hc hN hi hj hij hx hy ha hw hs).imp fun Dn σ H h => by
    obtain ⟨F, u, ρ, S, h⟩ := rdPar h
    exact ⟨F, u, ρ, S, h.imp fun sds u1 F1 H1 _ s1 g1 h1 vs R => by
      obtain ⟨hl, hq⟩ := h1 vs R
      match vs, hl, hq with
      | [v, w], _, hq => exact ⟨v, w, rfl, hq⟩⟩
end

/-! ### calls with keywords -/
section
variable {X : Cx} {c : Cf} {k n np : Nat} {f : Addr} {fd : FuncData} {ps ks : List Str} {x : Str} {p pos apos : Pos} {e o : Expr} {es : List Expr} {kws : List Keyword} {ms mk : MA} {mf : List D → M D} {perm : List Nat} {mc : Value} {q g : Addr} {m : Str} {pl : Sem Bool} {nm : Option Str} {kpos : Pos} {me : ME}
end

/-! ### fresh lists out of slices and list(..) -/
theorem fresh_ok {p : Addr} {F H H00 : Hp} {u : PuS} {vs : List V} {ds : List D} {W : Wo} {Q : VK} (g : Gd p u F H) (bk : ∀ q, H q = none → H00 q = none) (r : Reps W p F vs ds)
    (h : After p F H (some (ds, u)) fun ds _ F' H' => ∀ q vs, F' q = none → H00 q = none → H' q = some (.lst vs) → Reps W p F' vs ds → Q (.ref q) H') (q : Addr) (hq : H q = none) : Q (.ref q) (upd H q (.lst vs)) :=
  h F (upd H q (.lst vs)) (Stp.own hq) (g.own hq) q vs (g.fresh hq) (bk q hq) upd_same r
section
variable {X : Cx} {c : Cf} {e : Expr} {lo hi : Option Expr} {m : ME} {ml mh : MO} {pos p2 : Pos}
/-- a built-in call that gives a fresh list -/
def CallL (W : Wo) (r : List V → Hp → VK → Prop) (f : List D → Option (List D)) : Prop := ∀ (p : Addr) (F H : Hp) (u : PuS) (xs : List V) (as ds : List D) (Q : VK), Gd p u F H → Reps W p F xs as → f as = some ds →
  (∀ q vs, H q = none → Reps W p F vs ds → Q (.ref q) (upd H q (.lst vs))) → r xs H Q
def mCBO (f : List D → Option (List D)) (ms : MA) : MA := fun ρ => M.bind (ms ρ) fun xs => lft (f xs)
theorem rdCBO {rc : List V → Hp → VK → Prop} {f : List D → Option (List D)} {ms : MA} (hm : CallL c.W rc f) : ∀ σ H Q, rdL c (mCBO f ms) σ H Q → tCB rc (rdA c ms) σ H Q := fun σ H Q ⟨F, u, ρ, S, h⟩ =>
  ⟨F, u, ρ, S, (After.split h).imp fun ds u1 F1 H1 _ s1 g1 h1 vs rvs => by
    obtain ⟨z, e1, h2⟩ := lft_some h1
    exact hm _ _ _ _ _ _ _ _ g1 rvs e1 fun q ws hq rw => fresh_ok g1 (fun q hq => s1.back g1.ne hq) rw h2 q hq⟩
theorem dCallTO {rc : List V → Hp → VK → Prop} {f : List D → Option (List D)} {id : String} {x : Str} {p : Pos} {es : List Expr} {ms : MA} (hm : CallL c.W rc f) (hc : CallR X (.type id) rc) (hg : Gl X x) (hmg : X.mg x = none) (hv : bootBuiltins x = some (.type id)) (ha : DA X c (e :: es) ms)
    (hn : x ≠ "__name__" := by decide) (hdb : (x == ("__debug__" : Str)) = false := by decide) (he : starEach (e :: es) X.env = (false, eval e X.env) :: starEach es X.env := by rfl) (hpl : (backTo pos (starEach es X.env)).any (·.1) = false := by rfl) :
    DL X c (.Call (.Name x p) (e :: es) [] pos) (mCBO f ms) := (pe_callTy hc hg hmg hv ha hn hdb he hpl).imp (rdCBO hm)
def listO : List D → Option (List D) := fun ds => match ds with
  | [.lst xs] => some xs
  | [.tup xs] => some xs
  | _ => none
theorem m_listO {W : Wo} : CallL W (fun xs H Q => ∃ p ys, xs = [.ref p] ∧ (SqL W.K H p ys ∨ SqT W.K H p ys) ∧ ∀ l, H l = none → Q (.ref l) (upd H l (.lst ys))) listO := by
  intro p F H u xs as ds Q gd r e h
  unfold listO at e
  split at e
  · cases e
    obtain ⟨v, rfl, rv⟩ := r.one
    obtain ⟨q, vs, rfl, hq, rs⟩ := rv.lst_
    exact ⟨q, vs, rfl, .inl (SqL.of (gd.ex _ _ hq)), fun l hl => h l vs hl rs⟩
  · cases e
    obtain ⟨v, rfl, rv⟩ := r.one
    obtain ⟨q, vs, rfl, hq, rs⟩ := rv.tup_
    exact ⟨q, vs, rfl, .inr (sq_t gd.ex hq), fun l hl => h l vs hl rs⟩
  · cases e
end
end Mi

set_option Elab.async false
set_option linter.all false
set_option maxRecDepth 100000
set_option maxHeartbeats 4000000
/-! MiB: the head's facts by names: a Hook of this framework's own. -/
namespace Mi
open PySem PySem.Spec PyProof.Rows L2 He
variable [TB : Tabl]

/-! ### the written part: what the module's names reach -/
def WW (cs : List Str) (K : PySem.W.Frag) : Wo := ⟨K, ga K, cs⟩
/-! ### places of defs -/
abbrev FunP (K : PySem.W.Frag) (d : DefP) : Prop := FunD K d.name d.qual d.params d.body d.scope [] [] (d.at_.ad K) (fdOf K (d.at_.ad K))
theorem DefP.funD {K : PySem.W.Frag} {d : DefP} (e : fnP K (d.at_.ad K) = d.val) (c : d.ok K = true) : FunP K d := by
  obtain ⟨kp, c2⟩ := ba c
  unfold fnP at e
  unfold FunP fdOf
  cases q : K.lookup (d.at_.ad K) with
  | none =>
    rw [q] at c2
    cases c2
  | some o =>
    obtain ⟨oc, od, dt, osl⟩ := o
    rw [q] at c2 e
    cases dt with
    | func fd =>
      obtain ⟨n1, n2, n3, n4, n5, n6, n7, n8, n9, n10, n11, n12, n13, n14, n15⟩ := fd
      have e2 : (some (n1, n2, n3, n4, n5, n6, n7, n15) : FnW) = some (d.name, d.qual, d.params, .stmts d.body, d.scope, mainGlobals, [], builtinsNs) := e
      simp only [Option.some.injEq, Prod.mk.injEq] at e2
      obtain ⟨h1, h2, h3, h4, h5, h6, h7, h8⟩ := e2
      subst h1 h2 h3 h4 h5 h6 h7 h8
      have c3 : (PySem.W.codeIn K n13 d.qual && dflB K n8 []) = true := c2
      obtain ⟨k1, k2⟩ := ba c3
      exact ⟨⟨oc, od, n8, n9, n10, n11, n12, n13, n14, osl, rfl, q, k1, dflB_ok k2, .inl rfl⟩, kp⟩
    | _ => cases c2
/-! ### facts -/
section
variable {K : PySem.W.Frag}
theorem prop_ok {c f : Str} (h : (Ft.prop c f).ok K = true) : PropOf K (ga K c) f (ma K (ga K c) f) ((Pl.prop c f).ad K) := by
  obtain ⟨h1, h⟩ := ba h
  obtain ⟨h2, h⟩ := ba h
  obtain ⟨h3, h4⟩ := ba h
  refine ⟨eqO_ok h1, eqO_ok h2, of_decide_eq_true h3, ?_⟩
  unfold Pl.ad recFn
  split at h4
  · rename_i g rest e
    simp only [e]
    exact ⟨rest, rfl⟩
  · cases h4
theorem stat_ok {c m : Str} (h : (Ft.stat c m).ok K = true) : SMet K (ga K c) (.type "type") m (ma K (ga K c) m) ((Pl.stat c m).ad K) := by
  obtain ⟨h1, h⟩ := ba h
  obtain ⟨h2, h⟩ := ba h
  obtain ⟨h3, h⟩ := ba h
  obtain ⟨h4, h5⟩ := ba h
  refine ⟨h1, eqO_ok h2, ?_, ?_, h5⟩
  · split at h3
    · rename_i q C e
      obtain ⟨e1, e2⟩ := ba h3
      rw [e, of_decide_eq_true e1, of_decide_eq_true e2]
    · cases h3
  · unfold Pl.ad recFn
    split at h4
    · rename_i g rest e
      simp only [e]
      exact ⟨rest, rfl⟩
    · cases h4
theorem clsm_ok {c m : Str} (h : (Ft.clsm c m).ok K = true) : ClX.CRead K (ga K c) (.type "type") ∧ ClX.CMet K (ga K c) (.type "type") m (ma K (ga K c) m) ((Pl.clsm c m).ad K) := by
  obtain ⟨h1, h⟩ := ba h
  obtain ⟨h2, h⟩ := ba h
  obtain ⟨h3, h⟩ := ba h
  obtain ⟨h4, h5⟩ := ba h
  refine ⟨⟨h1, eqO_ok h2⟩, ?_, ?_, h5⟩
  · split at h3
    · rename_i q C e
      obtain ⟨e1, e2⟩ := ba h3
      rw [e, of_decide_eq_true e1, of_decide_eq_true e2]
    · cases h3
  · unfold Pl.ad recFn
    split at h4
    · rename_i g rest e
      simp only [e]
      exact ⟨rest, rfl⟩
    · cases h4
theorem isi_ok {cs : List Str} (h : (Ft.isi cs).ok K = true) : IsiOk (WW cs K) := by
  obtain ⟨h1, h⟩ := ba h
  obtain ⟨h2, h⟩ := ba h
  obtain ⟨h3, h4⟩ := ba h
  refine ⟨fun c hc H a dx fs e => ?_, fun c hc k hk => ?_, fun a ha k hk => ?_, fun c hc n hn => ?_⟩
  · obtain ⟨k1, k⟩ := ba (List.all_eq_true.mp h1 c hc)
    obtain ⟨k2, k⟩ := ba k
    obtain ⟨k3, k⟩ := ba k
    obtain ⟨k4, k5⟩ := ba k
    obtain ⟨c1, c⟩ := ba k1
    obtain ⟨c2, c⟩ := ba c
    obtain ⟨c3, c4⟩ := ba c
    exact .ins e ⟨c1, c2, c3, eqO_ok c4⟩ (eqO_ok k2) (eqO_ok k3) (of_decide_eq_true k4) (of_decide_eq_true k5)
  · exact of_decide_eq_true (List.all_eq_true.mp (List.all_eq_true.mp h2 c hc) k hk)
  · exact of_decide_eq_true (List.all_eq_true.mp (List.all_eq_true.mp h3 a ha) k hk)
  · exact of_decide_eq_true (List.all_eq_true.mp (List.all_eq_true.mp h4 c hc) n hn)
end
/-! ### the Hook -/
/-- all that the walk leans on -/
structure HF (fa : List Ft) (fn : List DefP) (K : PySem.W.Frag) (mg : Str → Option Value) : Prop where
  says : SaysP fa fn K
  ns : ∃ h : Heap, K.In h ∧ h.Ns mainGlobals mg
section
variable {fa : List Ft} {fn : List DefP} {K : PySem.W.Frag} {mg : Str → Option Value}
theorem HF.fact (c : HF fa fn K mg) (i : Nat) {f : Ft} (h : fa[i]? = some f) : f.ok K = true := by
  have c1 := (ba (show ((fa.all fun f => f.ok K) && fn.all fun d => d.ok K) = true from congrArg (fun z : AlP => z.1) c.says)).1
  exact List.all_eq_true.mp c1 f (List.mem_of_getElem? h)
theorem HF.fun_ (c : HF fa fn K mg) (i : Nat) {d : DefP} (h : fn[i]? = some d) : FunP K d := by
  have c2 := (ba (show ((fa.all fun f => f.ok K) && fn.all fun d => d.ok K) = true from congrArg (fun z : AlP => z.1) c.says)).2
  have e : fn.map (fun d => fnP K (d.at_.ad K)) = fn.map DefP.val := congrArg (fun z : AlP => z.2) c.says
  have e2 : (fn.map fun d => fnP K (d.at_.ad K))[i]? = (fn.map DefP.val)[i]? := by rw [e]
  rw [List.getElem?_map, List.getElem?_map, h] at e2
  exact DefP.funD (Option.some.inj e2) (List.all_eq_true.mp c2 d (List.mem_of_getElem? h))
theorem HF.glo (c : HF fa fn K mg) (i : Nat) {x : Str} (h : fa[i]? = some (.b (.glo x))) : mg x = some (.ref (ga K x)) := by
  obtain ⟨_, X, G⟩ := c.ns
  exact glo_ok X G (c.fact i h)
theorem HF.free (c : HF fa fn K mg) (i : Nat) {x : Str} (h : fa[i]? = some (.b (.free x))) : mg x = none := by
  obtain ⟨_, X, G⟩ := c.ns
  exact free_ok X G (c.fact i h)
theorem HF.int (c : HF fa fn K mg) (i : Nat) {x : Str} {n : Int} (h : fa[i]? = some (.b (.int x n))) : ∃ t, mg x = some (.int n t) := by
  obtain ⟨_, X, G⟩ := c.ns
  exact int_ok X G (c.fact i h)
theorem HF.str (c : HF fa fn K mg) (i : Nat) {x z : Str} (h : fa[i]? = some (.b (.str x z))) : ∃ t, mg x = some (.str z t) := by
  obtain ⟨_, X, G⟩ := c.ns
  exact str_ok X G (c.fact i h)
theorem HF.cls (c : HF fa fn K mg) (i : Nat) {x : Str} (h : fa[i]? = some (.b (.cls x))) : Cls K (ga K x) := cls_ok (c.fact i h)
theorem HF.noat (c : HF fa fn K mg) (i : Nat) {x f : Str} (h : fa[i]? = some (.b (.noat x f))) : NoAttr K (ga K x) f := noat_ok (c.fact i h)
theorem HF.meth (c : HF fa fn K mg) (i : Nat) {x m : Str} (h : fa[i]? = some (.b (.meth x m))) : Meth K (ga K x) m ((Pl.meth x m).ad K) := meth_ok (c.fact i h)
theorem HF.mkr (c : HF fa fn K mg) (i : Nat) {x : Str} (h : fa[i]? = some (.b (.mkr x))) : Mk K (ga K x) ((Pl.meth x "__init__").ad K) := mkr_ok (c.fact i h)
end
/-- a def's promise at its place -/
abbrev FO (cs : List Str) (P : Program) (w : World) (K : PySem.W.Frag) (mg : Str → Option Value) (base : Heap) (k : Nat) (pl : Pl) (ps : List Str) (n : Nat) (mf : List D → M D) : Prop := FnOk P w K mg base CX0 k (pl.ad K) (fdOf K (pl.ad K)) ps (spM (WW cs K) n mf)
end Mi

set_option Elab.async false
set_option linter.all false
set_option maxRecDepth 100000
set_option maxHeartbeats 4000000
/-! MiC: walks over lists or tuples; owned lists borrowed by an expression; names of built-ins. -/
namespace Mi
open PySem PySem.Spec PyProof.Rows L2
variable [TB : Tabl]

/-! ### built-ins by name -/
theorem bb_len : bootBuiltins "len" = some (.builtin "len") := by decide +kernel
theorem bb_sum : bootBuiltins "sum" = some (.builtin "sum") := by decide +kernel
theorem bb_max : bootBuiltins "max" = some (.builtin "max") := by decide +kernel
theorem bb_min : bootBuiltins "min" = some (.builtin "min") := by decide +kernel
theorem bb_all : bootBuiltins "all" = some (.builtin "all") := by decide +kernel
theorem bb_abs : bootBuiltins "abs" = some (.builtin "abs") := by decide +kernel
theorem bb_divmod : bootBuiltins "divmod" = some (.builtin "divmod") := by decide +kernel
theorem bb_isinstance : bootBuiltins "isinstance" = some (.builtin "isinstance") := by decide +kernel
theorem bb_int : bootBuiltins "int" = some (.type "int") := by decide +kernel
theorem bb_bool : bootBuiltins "bool" = some (.type "bool") := by decide +kernel
theorem bb_str : bootBuiltins "str" = some (.type "str") := by decide +kernel
theorem bb_list : bootBuiltins "list" = some (.type "list") := by decide +kernel
theorem bb_tuple : bootBuiltins "tuple" = some (.type "tuple") := by decide +kernel

/-! ### walks over lists or tuples -/
theorem _root_.L2.PI.or {X : Cx} {tg e : Expr} {t t' : TI} (h : PI X tg e t) (h' : PI X tg e t') : PI X tg e (fun σ H R => t σ H R ∨ t' σ H R) := ⟨fun pins s σ H R I q => q.elim (h.run pins s σ H R I) (h'.run pins s σ H R I)⟩
/-- what is walked over -/
def itD : D → Option (List D)
  | .lst ds => some ds
  | .tup ds => some ds
  | .str z => some (z.cps.toList.map fun c => .str ⟨#[c]⟩)
  | _ => none
def mIany (m : ME) : MA := fun ρ => M.bind (m ρ) fun d => lft (itD d)
theorem walkD_str {W : Wo} {p : Addr} {F : Hp} {z : Str} : WalkD W p (Its z) F (z.cps.toList.map fun c => .str ⟨#[c]⟩) := by
  refine ⟨_, _, by simpa using walk_str (z := z), fun _ _ => trivial, fun i H x H' F2 u d hd e g hy => ?_⟩
  obtain ⟨rfl, c, hc, rfl⟩ := hy
  refine ⟨F2, Stp.refl, g, ?_⟩
  rw [List.getElem?_map] at hd
  have hc' : z.cps.toList[i]? = some c := by simpa using hc
  rw [hc'] at hd
  cases hd
  exact .str _
def enumA : List D → Option (List D) := fun ds => match ds with
  | [.lst xs] => some (enumD xs)
  | [.tup xs] => some (enumD xs)
  | _ => none
section
variable {X : Cx} {c : Cf} {tg e a b : Expr} {m : ME} {ms : MA} {pos q : Pos}
theorem dIany (h : DE X c e m) (hK : X.K = c.W.K := by rfl) : DI X c tg e (mIany m) :=
  ((dIlist h hK).or ((dItup h hK).or (pi_str h))).imp fun σ H R ⟨F, u, ρ, S, h⟩ => by
    unfold mIany M.bind at h
    cases e1 : m ρ u with
    | none => rw [e1] at h; exact False.elim h
    | some y =>
      obtain ⟨d, u1⟩ := y
      rw [e1] at h
      cases d with
      | lst ds => exact .inl ⟨F, u, ρ, S, by unfold mIseq M.bind; rw [e1]; exact h⟩
      | tup ds => exact .inr (.inl ⟨F, u, ρ, S, by unfold mItup M.bind; rw [e1]; exact h⟩)
      | str z =>
        refine .inr (.inr ⟨F, u, ρ, S, ?_⟩)
        rw [e1]
        exact fun F' H' s' g' v rv => ⟨z, rv.str_, h F' H' s' g' _ walkD_str⟩
      | _ => exact False.elim h
theorem dIenumA {elts : List Expr} {kk : Nat} {tpos : Pos} (hg : Gl X "enumerate") (hm : X.mg "enumerate" = none) (ha : DA X c [a] ms) (hs : starEach [a] X.env = [(false, eval a X.env)] := by rfl) (hK : X.K = c.W.K := by rfl) :
    DI X c (.Tuple elts kk tpos) (.Call (.Name "enumerate" q) [a] [] pos) (mIof enumA ms) :=
  ((dIenum hg hm ha hs hK).or (dIenumT hg hm ha hs hK)).imp fun σ H R ⟨F, u, ρ, S, h⟩ => by
    unfold mIof M.bind at h
    cases e1 : ms ρ u with
    | none => rw [e1] at h; exact False.elim h
    | some y =>
      obtain ⟨ds, u1⟩ := y
      rw [e1] at h
      have key : ∀ f, enumA ds = f ds → rdI c (mIof f ms) σ H R := fun f hf => ⟨F, u, ρ, S, by
        unfold mIof M.bind
        rw [e1]
        show After c.p F H (lft (f ds) u1) _
        rw [← hf]
        exact h⟩
      match ds, h, key with
      | [.lst xs], h, key => exact .inl (key _ rfl)
      | [.tup xs], h, key => exact .inr (key _ rfl)
      | [], h, _ => exact False.elim h
      | [.non], h, _ => exact False.elim h
      | [.bl _], h, _ => exact False.elim h
      | [.int _], h, _ => exact False.elim h
      | [.str _], h, _ => exact False.elim h
      | [.obj _ _ _], h, _ => exact False.elim h
      | [.pur], h, _ => exact False.elim h
      | [.ty _], h, _ => exact False.elim h
      | [.cls _], h, _ => exact False.elim h
      | [.scr _], h, _ => exact False.elim h
      | [.exc _ _ _], h, _ => exact False.elim h
      | [.dct _ _], h, _ => exact False.elim h
      | [.ecl _], h, _ => exact False.elim h
      | [.ndc _ _], h, _ => exact False.elim h
      | x :: y :: r, h, _ => exact (by cases x <;> exact False.elim h)
end

/-! ### borrowing -/
mutual
def noLst : D → Bool
  | .lst _ => false
  | .scr _ => false
  | .tup ds => noLsts ds
  | .obj _ _ ds => noLsts ds
  | .exc _ _ ds => noLsts ds
  | .dct _ ds => noLsts ds
  | .ndc _ _ => false
  | _ => true
def noLsts : List D → Bool
  | [] => true
  | d :: ds => noLst d && noLsts ds
end
theorem noLsts_at : ∀ {ds : List D} {i : Nat} {d : D}, noLsts ds = true → ds[i]? = some d → noLst d = true
  | [], i, d, _, e => by simp at e
  | a :: ds, 0, d, h, e => by
    simp at e
    subst e
    unfold noLsts at h
    exact (Bool.and_eq_true_iff.mp h).1
  | a :: ds, i + 1, d, h, e => by
    unfold noLsts at h
    exact noLsts_at (Bool.and_eq_true_iff.mp h).2 (by simpa using e)
theorem Rep.without {W : Wo} {p q : Addr} {F F' : Hp} {ws : List V} (hq : F q = some (.lst ws)) (sub : ∀ a o, a ≠ q → F a = some o → F' a = some o) {v : V} {d : D} (h : Rep W p F v d) : noLst d = true → Rep W p F' v d := by
  induction h with
  | non => exact fun _ => .non
  | bl b => exact fun _ => .bl b
  | int i => exact fun _ => .int i
  | str x => exact fun _ => .str x
  | ty n => exact fun _ => .ty n
  | cls c hc => exact fun _ => .cls c hc
  | pur => exact fun _ => .pur
  | scr h => intro n; unfold noLst at n; cases n
  | tup h l r ih =>
    intro n
    unfold noLst at n
    refine .tup ?_ l fun i v d e1 e2 => ih i v d e1 e2 (noLsts_at n e2)
    rcases h with (h | ⟨o, h⟩) | h
    · exact .inl (.inl (sub _ _ (fun z => by rw [z, hq] at h; cases h) h))
    · exact .inl (.inr ⟨o, sub _ _ (fun z => by rw [z, hq] at h; cases h) h⟩)
    · exact .inr h
  | lst h l r ih => intro n; unfold noLst at n; cases n
  | obj hc h lk l r ih =>
    intro n
    unfold noLst at n
    exact .obj hc (sub _ _ (fun z => by rw [z, hq] at h; cases h) h) lk l fun i v d e1 e2 => ih i v d e1 e2 (noLsts_at n e2)
  | exc hc h hk hf h2 hx lk l r ih =>
    intro n
    unfold noLst at n
    exact .exc hc (sub _ _ (fun z => by rw [z, hq] at h; cases h) h) hk hf h2 (hx.imp (fun w => ⟨w.1, sub _ _ (fun z => by have := w.2; rw [z, hq] at this; cases this) w.2⟩) id) lk l fun i v d e1 e2 => ih i v d e1 e2 (noLsts_at n e2)
  | ecl c hc => exact fun _ => .ecl c hc
  | ndc h hx lk lv l hk rv rk r ihk ih => exact fun z => by unfold noLst at z; cases z
  | dct h lk l r ih =>
    intro n
    unfold noLst at n
    exact .dct (sub _ _ (fun z => by rw [z, hq] at h; cases h) h) lk l fun i v d e1 e2 => ih i v d e1 e2 (noLsts_at n e2)
def del (F : Hp) (q : Addr) : Hp := fun a => if a = q then none else F a
theorem del_ne {F : Hp} {q a : Addr} (h : a ≠ q) : del F q a = F a := if_neg h
theorem del_of {F : Hp} {q a : Addr} {o : HO} (h : del F q a = some o) : a ≠ q ∧ F a = some o := by
  unfold del at h
  split at h
  · cases h
  · exact ⟨by assumption, h⟩
/-- an owned list lent out: frozen within, taken back behind -/
theorem Sta.lend {c : Cf} {u : PuS} {F H : Hp} {σ : L2.St} {ρ : Env} (S : Sta c u F H σ ρ) (i : Nat) : Mi.frz i ρ = ρ ∨ ∃ q ws F1, Sta c u F1 H σ (Mi.frz i ρ) ∧ F1 q = some (.lst ws) ∧
    ∀ u' F' H', Stp c.p F1 H F' H' → Gd c.p u' F' H' → Stp c.p F H (del F' q) H' ∧ Gd c.p u' (del F' q) H' ∧ F' q = some (.lst ws) := by
  unfold Mi.frz
  cases ho : vOw ρ i with
  | none => exact .inl rfl
  | some ds =>
    right
    obtain ⟨q, vs, e1, hq, hf, hp, h0, r⟩ := S.ow ho
    have hsm : Same F (upd F q (.lst vs)) := fun a o e => by rw [upd_ne (fun z => by rw [z, hf] at e; cases e)]; exact e
    have qs : ∀ {j : Nat} {t : Sd} {a : Addr}, i ≠ j → ρ[j]? = some t → t.own = true → σ[j]? = some (some (.ref a)) → a ≠ q := fun {j t a} ne e2 o z h => by
      subst h
      exact S.env.ne i j _ t ne (vOw_at ho) e2 rfl o (e1.trans z.symm)
    refine ⟨q, vs, upd F q (.lst vs), ⟨⟨S.ent.ef.trans hsm, S.ent.eh, S.ent.et, fun a o e => ?_⟩, ⟨fun a o e => ?_, S.gd.pu, fun l e => by rw [upd_ne (Ne.symm hp)]; exact S.gd.off l e, nt_upd S.gd.nt (by intro _ z; cases z), S.gd.tb, S.gd.hp⟩, by simpa using S.env.len, fun j t e => ?_, fun j k t t' h ea eb o1 o2 => ?_⟩, upd_same, fun u' F' H' s g => ⟨⟨fun a o e => ?_, s.eh, s.et, fun a o e => ?_⟩, ⟨fun a o e => ?_, g.pu, fun l e => ?_, fun a ps z => g.nt a ps (del_of z).2, g.tb, g.hp⟩, s.ef q _ upd_same⟩⟩
    · by_cases ha : a = q
      · subst ha; exact .inr h0
      · rw [upd_ne ha] at e; exact S.ent.nw a o e
    · by_cases ha : a = q
      · subst ha; rw [upd_same] at e; cases e; exact hq
      · rw [upd_ne ha] at e; exact S.gd.ex a o e
    · rcases set_get e with ⟨rfl, rfl, _⟩ | ⟨ne, e⟩
      · exact ⟨.ref q, e1, Rep.mkL upd_same (r.mono hsm)⟩
      · have k := S.env.at_ j t e
        cases t with
        | un => trivial
        | sh d => obtain ⟨v, z, r'⟩ := k; exact ⟨v, z, r'.mono hsm⟩
        | ow es => obtain ⟨a, xs, z, ha, hfa, w1, w2, r'⟩ := k; exact ⟨a, xs, z, ha, by rw [upd_ne (qs ne e rfl z)]; exact hfa, w1, w2, r'.mono hsm⟩
        | oi kk ks es => obtain ⟨dx, xs, z, ha, hfa, w1, w2, w3, r'⟩ := k; exact ⟨dx, xs, z, ha, by rw [upd_ne (qs ne e rfl z)]; exact hfa, w1, w2, w3, r'.mono hsm⟩
        | od ks es => obtain ⟨a, ob, xs, ws, z, ha, hfa, w1, w2, w3, r'⟩ := k; exact ⟨a, ob, xs, ws, z, ha, by rw [upd_ne (qs ne e rfl z)]; exact hfa, w1, w2, w3, r'.mono hsm⟩
        | oz ks es => obtain ⟨a, xs, z, ha, hfa, w1, w2, w3, r'⟩ := k; exact ⟨a, xs, z, ha, by rw [upd_ne (qs ne e rfl z)]; exact hfa, w1, w2, w3, r'.mono hsm⟩
    · rcases set_get ea with ⟨rfl, rfl, _⟩ | ⟨n1, ea⟩
      · cases o1
      · rcases set_get eb with ⟨rfl, rfl, _⟩ | ⟨n2, eb⟩
        · cases o2
        · exact S.env.ne j k t t' h ea eb o1 o2
    · have ha : a ≠ q := fun z => by rw [z, hf] at e; cases e
      rw [del_ne ha]
      exact s.ef a o (by rw [upd_ne ha]; exact e)
    · obtain ⟨ha, e⟩ := del_of e
      rcases s.nw a o e with h | h
      · rw [upd_ne ha] at h; exact .inl h
      · exact .inr h
    · obtain ⟨ha, e⟩ := del_of e
      exact g.ex a o e
    · rw [del_ne (Ne.symm hp)]
      exact g.off l e
def mBor (i : Nat) (m : ME) : ME := fun ρ => M.bind (m (frz i ρ)) fun d => lft (if noLst d = true then some d else none)
def mBorT (i : Nat) (m : MT) : MT := fun ρ => m (frz i ρ)
def mBorL (i : Nat) (m : MA) : MA := fun ρ => M.bind (m (frz i ρ)) fun d => lft (if noLsts d = true then some d else none)
section
variable {X : Cx} {c : Cf} {e : Expr} {m : ME} {mt : MT} {ml : MA} {i : Nat}
theorem dBor (i : Nat) (h : DE X c e m) : DE X c e (mBor i m) := h.imp fun σ H Q ⟨F, u, ρ, S, h⟩ => by
  unfold mBor M.bind at h
  cases e1 : m (frz i ρ) u with
  | none => rw [e1] at h; exact False.elim h
  | some y =>
    obtain ⟨d, u1⟩ := y
    rw [e1] at h
    obtain ⟨hn, h2⟩ := lft_if (b := noLst d = true) (a := d) h
    rcases S.lend i with z | ⟨q, ws, F1, S1, hq, back⟩
    · rw [z] at e1
      exact ⟨F, u, ρ, S, by rw [e1]; exact h2⟩
    · refine ⟨F1, u, frz i ρ, S1, ?_⟩
      rw [e1]
      intro F' H' s' g' v rv
      obtain ⟨s2, g2, hq2⟩ := back _ _ _ s' g'
      exact h2 _ _ s2 g2 v (rv.without hq2 (fun a o ha e => by rw [del_ne ha]; exact e) hn)
theorem dBorT (i : Nat) (h : DT X c e mt) : DT X c e (mBorT i mt) := h.imp fun σ H Q ⟨F, u, ρ, S, h⟩ => by
  unfold mBorT at h
  rcases S.lend i with z | ⟨q, ws, F1, S1, hq, back⟩
  · rw [z] at h
    exact ⟨F, u, ρ, S, h⟩
  · refine ⟨F1, u, frz i ρ, S1, ?_⟩
    cases e1 : mt (frz i ρ) u with
    | none => rw [e1] at h; exact False.elim h
    | some y =>
      obtain ⟨d, u1⟩ := y
      rw [e1] at h
      intro F' H' s' g'
      obtain ⟨s2, g2, hq2⟩ := back _ _ _ s' g'
      exact h _ _ s2 g2
end
end Mi


set_option Elab.async false
set_option linter.all false
set_option maxRecDepth 100000
set_option maxHeartbeats 4000000
/-! MiE: the purse read and written; defs that return fresh lists; a call with a purse of its own. -/
namespace Mi
open PySem PySem.Spec PyProof.Rows L2
variable [TB : Tabl]

/-! ### the purse -/
def getP (d k : D) : M D := fun u => match d, k, u with
  | .pur, .int j, .real l => (atI l j).map fun n => (.int n, u)
  | _, _, _ => none
def putP (d k v : D) : M Unit := fun u => match d, k, v, u with
  | .pur, .int j, .int a, .real l => (ixN l.length j).map fun n => ((), .real (l.set n a))
  | _, _, _, _ => none
def mIxP (i : Nat) (mi : ME) : ME := fun ρ => M.bind (mi ρ) fun k => M.bind (lft (vSh ρ i)) fun d => getP d k
def mPutP (i : Nat) (m mi : ME) : MS := fun ρ => M.bind (m ρ) fun v => M.bind (mi ρ) fun k => M.bind (lft (vSh ρ i)) fun d => M.bind (putP d k v) fun _ => M.pure (.nx ρ)
def mDmP (i : Nat) (mi : ME) (j : Nat) (m : ME) : MS := fun ρ => M.bind (m ρ) fun v => match v with
  | .tup [.int a, .int b] => M.bind (mi ρ) fun k => M.bind (lft (vSh ρ i)) fun d => M.bind (putP d k (.int a)) fun _ => M.pure (.nx (ρ.set j (.sh (.int b))))
  | _ => lft none
theorem Sta.purse {c : Cf} {l l' : List Int} {F H : Hp} {σ : L2.St} {ρ : Env} (S : Sta c (.real l) F H σ ρ) : Sta c (.real l') F (upd H c.p (.lst (l'.map V.int))) σ ρ := by
  have hp := S.gd.off l rfl
  refine ⟨⟨S.ent.ef, fun a o h e n => by rw [upd_ne h]; exact S.ent.eh a o h e n, fun a ps h e => by
    rw [upd_ne h]; exact S.ent.et a ps h e, S.ent.nw⟩, ⟨fun a o e => ?_, upd_same, fun _ _ => hp, S.gd.nt, tabs_over S.gd.pu S.gd.tb, (by intro _ z; cases z)⟩, S.env.len, fun i s e => ?_, S.env.ne⟩
  · rw [upd_ne (fun z => by rw [z, hp] at e; cases e)]; exact S.gd.ex a o e
  · have k := S.env.at_ i s e
    cases s with
    | un => trivial
    | sh d => exact k
    | ow es => obtain ⟨a, xs, z, ha, hf, w1, w⟩ := k; exact ⟨a, xs, z, by rw [upd_ne w1]; exact ha, hf, w1, w⟩
    | oi kk ks es => obtain ⟨dx, xs, z, ha, hf, w1, w⟩ := k; exact ⟨dx, xs, z, by rw [upd_ne w1]; exact ha, hf, w1, w⟩
    | od ks es => obtain ⟨a, ob, xs, ws, z, ha, hf, w1, w⟩ := k; exact ⟨a, ob, xs, ws, z, by rw [upd_ne w1]; exact ha, hf, w1, w⟩
    | oz ks es => obtain ⟨a, xs, z, ha, hf, w1, w⟩ := k; exact ⟨a, xs, z, by rw [upd_ne w1]; exact ha, hf, w1, w⟩
theorem Gd.purse {p : Addr} {l : List Int} {F H : Hp} (g : Gd p (.real l) F H) : H p = some (.lst (l.map V.int)) := g.pu
section
variable {X : Cx} {c : Cf} {pos : Pos} {e ie : Expr} {m mi : ME} {i : Nat} {x : Str}
theorem Rep.pur_ {W : Wo} {p : Addr} {F : Hp} {v : V} (h : Rep W p F v .pur) : v = .ref p := by cases h; rfl
theorem dIxP (i : Nat) {x : Str} {p0 : Pos} (hk : DE X c ie mi) (hN : X.N[i]? = some x := by rfl) (hv : Vis X.env.scope x := by first | exact Or.inl rfl | exact Or.inr (Or.inl rfl) | exact Or.inr (Or.inr rfl)) (hd : (x == ("__debug__" : Str)) = false := by decide)
    (hcd : (x == ("__classdict__" : Str)) = false := by decide) (hs : PlainIx ie := by exact fun _ _ => rfl) : DE X c (.Subscript (.Name x p0) ie pos) (mIxP i mi) :=
  (pe_ix ix_list (pe_var (i := i) hN hv hd hcd) hk hs).imp fun σ H Q ⟨F, u, ρ, S, h⟩ => by
    unfold mIxP at h
    cases ho : vSh ρ i with
    | none =>
      exfalso
      unfold M.bind at h
      cases e1 : mi ρ u with
      | none => rw [e1] at h; exact h
      | some y => rw [e1, ho] at h; exact h
    | some d =>
      obtain ⟨v, ev, rv⟩ := S.var ho
      refine ⟨v, ev, F, u, ρ, S, (After.split h).imp fun k u2 F2 H2 _ s2 g2 h2 w rw => ?_⟩
      obtain ⟨d', e2, h3⟩ := lft_some' h2
      rw [ho] at e2
      cases e2
      cases d with
      | pur =>
        cases k with
        | int j =>
          cases u2 with
          | real l =>
            have h4 : After c.p F2 H2 ((atI l j).map fun n => (D.int n, PuS.real l)) fun d _ F' H' => ∀ v, Rep c.W c.p F' v d → Q v H' := h3
            cases e4 : atI l j with
            | none => rw [e4] at h4; exact False.elim h4
            | some n =>
              rw [e4] at h4
              have h5 : After c.p F2 H2 (some (D.int n, PuS.real l)) fun d _ F' H' => ∀ v, Rep c.W c.p F' v d → Q v H' := h4
              refine ⟨c.p, _, j, .int n, rv.pur_, rw.int_, SqL.of g2.purse, by rw [atI_map, e4]; rfl, After.now g2 h5 _ (.int n)⟩
          | idle o => exact False.elim h3
        | _ => exact False.elim h3
      | _ => cases k <;> exact False.elim h3
theorem put_ok {F H : Hp} {u : PuS} {σ : L2.St} {ρ ρ' : Env} {d k v : D} {vd vk vv : V} {Dn : Ends} {σ' : L2.St} (S : Sta c u F H σ ρ) (rd : Rep c.W c.p F vd d) (rk : Rep c.W c.p F vk k) (rv : Rep c.W c.p F vv v)
    (h : flowO c F Dn (M.bind (putP d k v) (fun _ => M.pure (.nx ρ')) u)) (hs : ∀ {u' F' H'}, Sta c u' F' H' σ ρ → Sta c u' F' H' σ' ρ') : rSetL vd vk vv H fun H4 => Dn.nx σ' H4 := by
  unfold M.bind at h
  cases d with
  | pur =>
    cases k with
    | int j =>
      cases v with
      | int a =>
        cases u with
        | real l =>
          have e0 : putP D.pur (D.int j) (D.int a) (PuS.real l) = (ixN l.length j).map fun n => ((), PuS.real (l.set n a)) := rfl
          rw [e0] at h
          have h2 := h
          cases e1 : ixN l.length j with
          | none => rw [e1] at h2; exact False.elim h2
          | some n =>
            rw [e1] at h2
            refine ⟨c.p, _, j, n, rd.pur_, rk.int_, S.gd.purse, by rw [List.length_map]; exact e1, ?_⟩
            rw [rv.int_, ← List.map_set]
            exact h2 σ' F _ (Same.refl _) (hs (S.purse (l' := l.set n a)))
        | idle o => exact False.elim h
      | _ => exact False.elim h
    | _ => cases v <;> exact False.elim h
  | _ => cases k <;> cases v <;> exact False.elim h
theorem dPutP (i : Nat) {x : Str} {p0 tp : Pos} (he : DE X c e m) (hk : DE X c ie mi) (hN : X.N[i]? = some x := by rfl) (hv : Vis X.env.scope x := by first | exact Or.inl rfl | exact Or.inr (Or.inl rfl) | exact Or.inr (Or.inr rfl)) (hd : (x == ("__debug__" : Str)) = false := by decide)
    (hcd : (x == ("__classdict__" : Str)) = false := by decide)
    (ha : ∀ v, assign (.Subscript (.Name x p0) ie tp) X.env v = (do
      let ov ← holding [v] (eval (.Name x p0) X.env)
      let iv ← holding [v, ov] (eval ie X.env)
      standAt tp
      holding [v, ov, iv] (setItem ov iv v)
      release [v, ov, iv] []) := by intro _; rfl)
    (hs : swapsWithSole [.Subscript (.Name x p0) ie tp] e pos.line X.env = pure false := by rfl) (hw : swappedStores [.Subscript (.Name x p0) ie tp] e X.env = pure none := by rfl)
    (h1 : (assignEach [.Subscript (.Name x p0) ie tp] X.env).map (·.2) = [assign (.Subscript (.Name x p0) ie tp) X.env] := by rfl) : DS X c (.Assign [.Subscript (.Name x p0) ie tp] e pos) (mPutP i m mi) :=
  (ps_asg he (pg_sub (pe_var (i := i) hN hv hd hcd) hk set_list ha) hs hw h1).imp fun Dn σ H ⟨F, u, ρ, S, h⟩ => ⟨F, u, ρ, S, (flowO.after S h).imp fun d u1 F1 H1 _ s1 g1 h1 v rv => by
    cases ho : vSh ρ i with
    | none =>
      exfalso
      have h2 := h1.2
      unfold M.bind at h2
      cases e1 : mi ρ u1 with
      | none => rw [e1] at h2; exact h2
      | some y => rw [e1, ho] at h2; exact h2
    | some dd =>
      obtain ⟨vd, ev, rvd⟩ := h1.1.var ho
      refine ⟨vd, ev, F1, u1, ρ, h1.1, (flowO.after h1.1 h1.2).imp fun k u2 F2 H2 _ s2 g2 h2 w rw => ?_⟩
      obtain ⟨d', e2, h3⟩ := flowO.lft h2.1 h2.2
      rw [ho] at e2
      cases e2
      exact put_ok h2.1 (rvd.mono s2.ef) rw (rv.mono s2.ef) h3 id⟩
/-- x[k], y = e -/
theorem dDmP (i j : Nat) {x y : Str} {p0 p1 tp tq : Pos} {kt : Nat} (hc : X.calm = true) (he : DE X c e m) (hk : DE X c ie mi) (hNd : X.N.Nodup) (hj : X.N[j]? = some y) (hy : Loc X.env.scope y) (hN : X.N[i]? = some x := by rfl) (hv : Vis X.env.scope x := by first | exact Or.inl rfl | exact Or.inr (Or.inl rfl) | exact Or.inr (Or.inr rfl)) (hd : (x == ("__debug__" : Str)) = false := by decide)
    (hcd : (x == ("__classdict__" : Str)) = false := by decide)
    (ha : ∀ v, assign (.Subscript (.Name x p0) ie tp) X.env v = (do
      let ov ← holding [v] (eval (.Name x p0) X.env)
      let iv ← holding [v, ov] (eval ie X.env)
      standAt tp
      holding [v, ov, iv] (setItem ov iv v)
      release [v, ov, iv] []) := by intro _; rfl)
    (hf : X.fn y = true ∨ X.env.scope.names.lookup y = some .local := by first | exact .inl rfl | exact .inr rfl | assumption)
    (ht : (assignEach [.Subscript (.Name x p0) ie tp, .Name y p1] X.env).length = 2 := by rfl) (hst : (assignEach [.Subscript (.Name x p0) ie tp, .Name y p1] X.env).findIdx? (·.1) = none := by rfl)
    (hq1 : (assignEach [.Subscript (.Name x p0) ie tp, .Name y p1] X.env).map (·.2) = assign (.Subscript (.Name x p0) ie tp) X.env :: (assignEach [.Name y p1] X.env).map (·.2) := by rfl)
    (hq2 : (assignEach [.Name y p1] X.env).map (·.2) = assign (.Name y p1) X.env :: (assignEach [] X.env).map (·.2) := by rfl)
    (hs : swapsWithSole [.Tuple [.Subscript (.Name x p0) ie tp, .Name y p1] kt tq] e pos.line X.env = pure false := by rfl) (hw : swappedStores [.Tuple [.Subscript (.Name x p0) ie tp, .Name y p1] kt tq] e X.env = pure none := by rfl)
    (h1 : (assignEach [.Tuple [.Subscript (.Name x p0) ie tp, .Name y p1] kt tq] X.env).map (·.2) = [assign (.Tuple [.Subscript (.Name x p0) ie tp, .Name y p1] kt tq) X.env] := by rfl) (hK : X.K = c.W.K := by rfl) :
    DS X c (.Assign [.Tuple [.Subscript (.Name x p0) ie tp, .Name y p1] kt tq] e pos) (mDmP i mi j m) :=
  (ps_asg he (pg_tup hc (pgs_cons (pg_sub (pe_var (i := i) hN hv hd hcd) hk set_list ha) (pgs_cons (pg_name (i := j) hNd hj hy hf) pgs_nil hq2) hq1) ht hst) hs hw h1).imp fun Dn σ H ⟨F, u, ρ, S, h⟩ => ⟨F, u, ρ, S, (flowO.after S h).imp fun d u1 F1 H1 _ s1 g1 h1 v rv => by
    have h2 := h1.2
    split at h2
    · rename_i a b _hh
      obtain ⟨q, vs, rfl, hq, rs⟩ := rv.tup_
      obtain ⟨v1, v2, rfl, r1, r2⟩ := rs.two
      refine ⟨q, _, rfl, by rw [hK]; exact sq_t g1.ex hq, rfl, v1, [v2], rfl, ?_⟩
      cases ho : vSh ρ i with
      | none =>
        exfalso
        unfold M.bind at h2
        cases e1 : mi ρ u1 with
        | none => rw [e1] at h2; exact h2
        | some y => rw [e1, ho] at h2; exact h2
      | some dd =>
        obtain ⟨vd, ev, rvd⟩ := h1.1.var ho
        refine ⟨vd, ev, F1, u1, ρ, h1.1, (flowO.after h1.1 h2).imp fun k u2 F2 H2 _ s2 g2 h3 w rw => ?_⟩
        obtain ⟨d', e2, h4⟩ := flowO.lft h3.1 h3.2
        rw [ho] at e2
        cases e2
        have h5 := put_ok (Dn := Dn) (ρ' := ρ.set j (.sh (.int b))) (σ' := σ.set j (some v2)) h3.1 (rvd.mono s2.ef) rw (r1.mono s2.ef) h4 fun {u' F' H'} z => by
          rw [r2.int_]
          exact z.set (.int b)
        obtain ⟨pp, xs, kk, n, q1, q2, q3, q4, q5⟩ := h5
        exact ⟨pp, xs, kk, n, q1, q2, q3, q4, v2, [], rfl, rfl, q5⟩
    · exact False.elim h2⟩
end

/-! ### defs that return a fresh list -/
def spL (W : Wo) (n : Nat) (mf : List D → M (List D)) : Sp := fun vs H Q _ => vs.length = n ∧ ∃ p F u ds, Gd p u F H ∧ Reps W p F vs ds ∧
  After p F H (mf ds u) fun es _ F' H' => ∀ q ws, F' q = none → H q = none → H' q = some (.lst ws) → Reps W p F' ws es → Q (.ref q) H'
def mFnL (n : Nat) (mb : MS) : List D → M (List D) := fun ds u => match mb (startE n ds) u with
  | some (.rl d, u') => some (d, u')
  | _ => none
def mRetL (m : MA) : MS := fun ρ => M.bind (m ρ) fun ds => M.pure (.rl ds)
section
variable {X : Cx} {c : Cf} {pos : Pos} {e : Expr} {ml : MA}
theorem dRetL (he : DL X c e ml) : DS X c (.Return (some e) pos) (mRetL ml) :=
  (ps_ret he).imp fun Dn σ H ⟨F, u, ρ, S, h⟩ => ⟨F, u, ρ, S, (flowO.after S h).imp fun ds u1 F1 H1 _ s1 g1 h1 q vs hF hn hq r =>
    h1.2 q vs F1 H1 h1.1.ent g1 hF (S.ent.back S.gd.ne hn) hq r⟩
end
section
variable {P : Program} {w : World} {K : PySem.W.Frag} {mg : Str → Option Value} {base : Heap} {x qual : Str} {params : Arguments} {body : List Stmt} {scope : Scope} {dvs : List V} {kws : List (Str × V)} {f : Addr} {fd : FuncData} {W : Wo} {N ps : List Str} {k : Nat} {mb : MS}
theorem fn_mirL (F : FunD K x qual params body scope dvs kws f fd) (S : FnScope N ps scope)
    (hb : ∀ (cdv : Value) (A : Around) (outer : List PySem.Env) (s : Shared) (H : Hp) (E : XK) (p : Addr) (F0 : Hp), Room k (A.deeper (envOfC qual scope s.heap.objs.size f cdv)) → DB (cxOf CX0 P w K mg base N qual scope f cdv A outer s H E).nox ⟨W, p, F0, H, 0, noX⟩ body mb) :
    FnOk P w K mg base CX0 (k + 1) f fd ps (spL W ps.length (mFnL N.length mb)) := by
  refine F.ok S (fun vs H Q E h => h.1) (fun cdv A outer s H vs Q E hr h => ?_)
  obtain ⟨hl, p, F0, u, ds, g, r, h⟩ := h
  refine ⟨_, PSs.nox (hb cdv A outer s H E p F0 hr), F0, u, startE N.length ds, ⟨Stp.refl, g, env_start r⟩, ?_⟩
  unfold mFnL at h
  cases e : mb (startE N.length ds) u with
  | none => rw [e] at h; exact h
  | some y =>
    obtain ⟨fl, u1⟩ := y
    rw [e] at h
    cases fl with
    | rl es =>
      intro q ws F' H' s' g' hF hn hq rw
      have h2 : After p F0 H (some (es, u1)) (fun es _ F' H' => ∀ q ws, F' q = none → H q = none → H' q = some (.lst ws) → Reps W p F' ws es → Q (.ref q) H') := h
      exact h2 F' H' s' g' q ws hF hn hq rw
    | nx ρ' => exact False.elim h
    | rt d => exact False.elim h
    | bk ρ' => exact False.elim h
    | ct ρ' => exact False.elim h
    | ex ρ' k' ks' ds' => exact False.elim h
end
def mCallL (n : Nat) (mf : List D → M (List D)) (ms : MA) : MA := fun ρ => M.bind (ms ρ) fun ds => if ds.length = n then mf ds else lft none
section
variable {X : Cx} {c : Cf} {k n : Nat} {f : Addr} {fd : FuncData} {ps : List Str} {x : Str} {p pos : Pos} {e : Expr} {es : List Expr} {ms : MA} {mf : List D → M (List D)}
theorem dCallL (G : FnOk X.prog X.w X.K X.mg X.base CX0 k f fd ps (spL c.W n mf)) (hr : Room k X.A) (hg : Gl X x) (hm : X.mg x = some (.ref f)) (hk : PySem.W.keepIn X.K (.ref f) = true) (hb : Binds X.K fd ps [])
    (ha : DA X c (e :: es) ms) (hdb : (x == ("__debug__" : Str)) = false := by decide) (he : starEach (e :: es) X.env = (false, eval e X.env) :: starEach es X.env := by rfl) (hpl : (backTo pos (starEach es X.env)).any (·.1) = false := by rfl) :
    DL X c (.Call (.Name x p) (e :: es) [] pos) (mCallL n mf ms) :=
  (pe_call G hr hg hm hk hb .nil pass0 ha hdb he hpl).imp fun σ H Q ⟨F, u, ρ, S, h⟩ => ⟨F, u, ρ, S, (After.split h).imp fun ds u1 F1 H1 _ s1 g1 h1 vs rvs => by
    show spL c.W n mf (vs ++ []) H1 Q E0
    rw [List.append_nil]
    split at h1
    · rename_i hl
      exact ⟨rvs.1.trans hl, c.p, F1, u1, ds, g1, rvs, h1.imp fun es u2 F2 H2 _ s2 g2 h2 q ws hF hn hq rw => h2 q ws hF (s1.back g1.ne hn) hq rw⟩
    · exact False.elim h1⟩
/-- f(g(..)), where g makes the purse -/
def mWith (mf : List D → M D) (ml : MA) : ME := fun ρ => M.bind (ml ρ) fun ds => lft (match intsD ds with
  | some l => match mf [.pur] (.real l) with
    | some (.bl b, _) => some (.bl b)
    | _ => none
  | none => none)
theorem dWith {mf : List D → M D} {ml : MA} (G : FnOk X.prog X.w X.K X.mg X.base CX0 k f fd ps (spM c.W 1 mf)) (hr : Room k X.A) (hg : Gl X x) (hm : X.mg x = some (.ref f)) (hk : PySem.W.keepIn X.K (.ref f) = true) (hb : Binds X.K fd ps [])
    (ha : DL X c e ml) (hdb : (x == ("__debug__" : Str)) = false := by decide) (he : starEach [e] X.env = (false, eval e X.env) :: starEach [] X.env := by rfl) (hpl : (backTo pos (starEach [] X.env)).any (·.1) = false := by rfl) :
    DE X c (.Call (.Name x p) [e] [] pos) (mWith mf ml) :=
  (pe_call G hr hg hm hk hb .nil pass0 (pa_cons ha pa_nil he) hdb he hpl).imp fun σ H Q ⟨F, u, ρ, S, h⟩ => ⟨F, u, ρ, S, by
    unfold mWith M.bind at h
    cases e0 : ml ρ u with
    | none => rw [e0] at h; exact False.elim h
    | some y0 =>
      obtain ⟨ds, u1⟩ := y0
      rw [e0] at h
      intro F1 H1 s1 g1 q vs hF hn hq r
      have hqp : q ≠ c.p := fun z => S.gd.ne (z ▸ hn)
      obtain ⟨d, e1, h2⟩ := lft_some h
      cases e2 : intsD ds with
      | none => rw [e2] at e1; cases e1
      | some l =>
        rw [e2] at e1
        have hv := intsD_rep r e2
        subst hv
        show spM c.W 1 mf ([.ref q] ++ []) H1 Q E0
        rw [List.append_nil]
        refine ⟨rfl, q, F1, .real l, [.pur], ⟨g1.ex, hq, fun _ _ => hF, g1.nt, g1.tb, (by intro _ z; cases z)⟩, Reps.cons .pur Reps.nil, ?_⟩
        cases e3 : mf [.pur] (.real l) with
        | none => simp [e3] at e1
        | some y =>
          obtain ⟨r3, u3⟩ := y
          cases r3 with
          | bl b =>
            simp [e3] at e1
            subst e1
            intro F' H' s' g' v rv
            rw [rv.bl_]
            refine h2 F' H' ⟨s1.ef.trans s'.ef, fun a o ha e n => ?_, fun a ps ha e => (let ⟨qs, e1⟩ := s1.et a ps ha e; s'.et a qs (fun z => by rw [z, hn] at e; cases e) e1), fun a o e => ?_⟩ ⟨g'.ex, ?_, fun l' e => ?_, g'.nt, g'.tb, g1.hp⟩ (.bl b) (.bl b)
            · exact s'.eh a o (fun z => by rw [z, hn] at e; cases e) (s1.eh a o ha e n) n
            · rcases s'.nw a o e with z | z
              · exact s1.nw a o z
              · exact .inr (s1.back g1.ne z)
            · exact s'.eh c.p _ (Ne.symm hqp) g1.pu (.inr g1.hp)
            · exact s'.off (g1.off l' e) g1.ne
          | _ => simp [e3] at e1⟩
end
end Mi

set_option Elab.async false
set_option linter.all false
set_option maxRecDepth 100000
set_option maxHeartbeats 4000000
/-! MiF: the law's end. -/
namespace Mi
open PySem PySem.Spec PyProof.Rows L2 He
variable [TB : Tabl]
theorem lookup_mem' {a : Addr} {o : Obj} : ∀ {l : PySem.W.Frag}, l.lookup a = some o → (a, o) ∈ l
  | [], h => by cases h
  | (b, u) :: r, h => by
    have h2 : (match a == b with | true => some u | false => r.lookup a) = some o := h
    cases q : (a == b) with
    | true =>
      rw [q] at h2
      have e : u = o := Option.some.inj h2
      rw [beq_iff_eq.mp q, e]
      exact List.mem_cons_self
    | false =>
      rw [q] at h2
      exact List.mem_cons_of_mem _ (lookup_mem' h2)
/-- all but the tables -/
def noTb (H : Hp) : Hp := fun b => match H b with
  | some (.tbl _) => none
  | x => x
theorem noTb_of {H : Hp} {a : Addr} {o : HO} (h : H a = some o) (n : ∀ ps, o ≠ .tbl ps) : noTb H a = some o := by
  unfold noTb
  rw [h]
  cases o with
  | tbl ps => exact absurd rfl (n ps)
  | _ => rfl
theorem of_noTb {H : Hp} {a : Addr} {o : HO} (h : noTb H a = some o) : H a = some o ∧ ∀ ps, o ≠ .tbl ps := by
  unfold noTb at h
  cases e : H a with
  | none => rw [e] at h; cases h
  | some u =>
    rw [e] at h
    cases u with
    | tbl ps => cases h
    | _ => cases h; exact ⟨rfl, fun _ z => by cases z⟩
theorem law_sp {cs : List Str} {K : PySem.W.Frag} {mf : List D → M D} {E : XK} (hK : noListsB K = true) (n : Nat) (h : ∀ (ns : List Int) (o : HO), ns.length ≤ n → ∃ u', mf [.scr ns] (.idle o) = some (.bl true, u')) (H : Hp) (a : Addr) (ns : List Int) (hl : ns.length ≤ n) (hS : SqL K H a (ns.map V.int)) (hT : LamX.Tabs TB.T H) :
    spM (WW cs K) 1 mf [.ref a] H (fun v _ => v = .bl true) E := by
  have ex : ∃ o, H a = some o ∧ (∀ ps, o ≠ .tbl ps) ∧ SqL K (noTb H) a (ns.map V.int) := by
    rcases hS with (z | ⟨o, z⟩) | ⟨o, its, m, hk, hc, _⟩
    · exact ⟨_, z, (by intro _ z; cases z), .inl (.inl (noTb_of z (by intro _ z; cases z)))⟩
    · exact ⟨_, z, (by intro _ z; cases z), .inl (.inr ⟨o, noTb_of z (by intro _ z; cases z)⟩)⟩
    · exfalso
      have := List.all_eq_true.mp hK _ (lookup_mem' hk)
      simp [hc] at this
  obtain ⟨o, ho, hn, hS'⟩ := ex
  obtain ⟨u', hu⟩ := h ns o hl
  refine ⟨rfl, a, noTb H, .idle o, [.scr ns], ⟨fun _ _ e => (of_noTb e).1, ho, (fun l e => by cases e), fun b ps z => (of_noTb z).2 ps rfl, hT, hn⟩, Reps.cons (.scr hS') Reps.nil, ?_⟩
  rw [hu]
  exact fun F' H' _ _ v rv => rv.bl_
/-! ### name = [..] on one line, the name a plain local -/
def mBorLs (is : List Nat) (ml : MA) : MA := is.foldr mBorL ml
section
variable {X : Cx} {c : Cf}
theorem rdBorL {i : Nat} {ml : MA} : ∀ σ H Q, rdL c (mBorL i ml) σ H Q → rdL c ml σ H Q := fun σ H Q ⟨F, u, ρ, S, h⟩ => by
  unfold mBorL M.bind at h
  cases e1 : ml (frz i ρ) u with
  | none => rw [e1] at h; exact False.elim h
  | some y =>
    obtain ⟨d, u1⟩ := y
    rw [e1] at h
    obtain ⟨hn, h2⟩ := lft_if (b := noLsts d = true) (a := d) h
    rcases S.lend i with z | ⟨q, ws, F1, S1, hq, back⟩
    · rw [z] at e1
      exact ⟨F, u, ρ, S, by rw [e1]; exact h2⟩
    · refine ⟨F1, u, frz i ρ, S1, ?_⟩
      rw [e1]
      intro F' H' s' g' q' vs hF hn' hv rv
      obtain ⟨s2, g2, hq2⟩ := back _ _ _ s' g'
      refine h2 _ _ s2 g2 q' vs ?_ hn' hv ⟨rv.1, fun j v d e2 e3 => (rv.2 j v d e2 e3).without hq2 (fun a o ha e => by rw [del_ne ha]; exact e) (noLsts_at hn e3)⟩
      unfold del
      split
      · rfl
      · exact hF
theorem rdBorLs {ml : MA} : ∀ (is : List Nat) σ H Q, rdL c (mBorLs is ml) σ H Q → rdL c ml σ H Q
  | [], _, _, _, h => h
  | _ :: is, σ, H, Q, h => rdBorLs is σ H Q (rdBorL σ H Q h)
variable {elt tg iter : Expr} {ifs : List Expr} {scope : Scope} {own : List (Str × Nat)} {pos spos py : Pos} {is : List Nat} {mi : MA} {g : MG} {mt : MT} {me : ME} {y : Str} {st : Stmt} {R : TE} {ml : MA}
theorem set_of (i : Nat) (h : PS X st (tAsg R (gName i))) (hR : ∀ σ H Q, rdL c ml σ H Q → R σ H Q) : DS X c st (mSet i (mFz ml)) :=
  h.imp fun Dn σ H ⟨F, u, ρ, S, z⟩ => hR σ H _ (by
    have e : PE X (.Constant .none 0 ⟨0, 0, 0, 0⟩) (rdL c ml) → True := fun _ => trivial
    have z2 := flowO.after S z
    refine ⟨F, u, ρ, S, ?_⟩
    unfold mFz M.bind at z2
    cases e1 : ml ρ u with
    | none => rw [e1] at z2; exact z2
    | some x =>
      obtain ⟨ds, u1⟩ := x
      rw [e1] at z2
      intro F1 H1 s1 g1 q ws hF hn hq r
      have h2 : After c.p F H (some (D.lst ds, u1)) (fun a u1 F1 H1 => Sta c u1 F1 H1 σ ρ ∧ flowO c F1 Dn (M.pure (.nx (ρ.set i (.sh a))) u1)) := z2
      have hsm : Same F1 (upd F1 q (.lst ws)) := fun a o e => by rw [upd_ne (fun z => by rw [z, hF] at e; cases e)]; exact e
      have hpq : c.p ≠ q := fun z => S.gd.ne (z ▸ hn)
      have h3 := h2 (upd F1 q (.lst ws)) H1 ⟨s1.ef.trans hsm, s1.eh, s1.et, fun a o e => ?_⟩ ⟨fun a o e => ?_, g1.pu, fun l e => by rw [upd_ne hpq]; exact g1.off l e, nt_upd g1.nt (by intro _ z; cases z), g1.tb, g1.hp⟩
      · exact h3.2 _ _ _ (Same.refl _) (h3.1.set (Rep.mkL upd_same (r.mono hsm)))
      · by_cases ha : a = q
        · subst ha; exact .inr hn
        · rw [upd_ne ha] at e; exact s1.nw a o e
      · by_cases ha : a = q
        · subst ha; rw [upd_same] at e; cases e; exact hq
        · rw [upd_ne ha] at e; exact g1.ex a o e)
theorem dLcSet (i : Nat) (bs : List Nat) (hc : X.calm = true) (hN : X.N.Nodup) (hy : X.N[i]? = some y) (hyl : X.env.scope.names.lookup y = some .local)
    (hsw : swapsWith (.ListComp elt [⟨tg, iter, ifs, 0⟩] scope pos) (some (.Name y py)) spos.line X.env = pure true) (hi : DI X c tg iter mi) (ok : BlkOk X.N X.env.scope scope own)
    (hg : ∀ (s : Shared) (H : Hp) (C : Addr) (cl : List (Str × Addr)) (fp : List Addr), DG (X.blk s H scope (compEnvC scope cl C X.env) fp) c tg is g)
    (ht : ∀ (s : Shared) (H : Hp) (C : Addr) (cl : List (Str × Addr)) (fp : List Addr), PTs (X.blk s H scope (compEnvC scope cl C X.env) fp) ifs (rdT c mt)) (he : ∀ (s : Shared) (H : Hp) (C : Addr) (cl : List (Str × Addr)) (fp : List Addr), DE (X.blk s H scope (compEnvC scope cl C X.env) fp) c elt me)
    (his : ∀ i ∈ is, i ∈ own.map (·.2) := by decide) (hs : ∀ x, foldedSetIterable iter X.env x = pure x := by intro _; rfl) : DS X c (.Assign [.Name y py] (.ListComp elt [⟨tg, iter, ifs, 0⟩] scope pos) spos) (mSet i (mFz (mBorLs bs (mLcO (own.map (·.2)) mi g mt me)))) :=
  set_of i (ps_setLc hc hN hy hyl hsw hi ok hg ht he hs) fun σ H Q h => by
    obtain ⟨F, u, ρ, S, h⟩ := rdBorLs bs σ H Q h
    exact rdLc his σ H Q F u ρ S h
end
end Mi

set_option Elab.async false
set_option linter.all false
set_option maxRecDepth 100000
set_option maxHeartbeats 4000000
/-! MiW: what a mirror gives, told by its parts. -/
namespace Mi
open PySem L2
/-- laws without lambdas -/
instance (priority := 50) noTabl : Tabl := ⟨[], false⟩
def Ok {α : Type} (m : M α) (u : PuS) (P : α → PuS → Prop) : Prop := ∃ a u', m u = some (a, u') ∧ P a u'
/-- a branch -/
def Br (b : Bool) (P Q : Prop) : Prop := if b = true then P else Q
@[simp] theorem br_t {P Q : Prop} : Br true P Q ↔ P := by unfold Br; simp
@[simp] theorem br_f {P Q : Prop} : Br false P Q ↔ Q := by unfold Br; simp
@[simp] theorem br_n {b : Bool} {P Q : Prop} : Br (!b) P Q ↔ Br b Q P := by cases b <;> simp
/-- d is a truth -/
def OnB (d : D) (P : Bool → Prop) : Prop := ∃ b, d = .bl b ∧ P b
@[simp] theorem onB_bl {b : Bool} {P : Bool → Prop} : OnB (.bl b) P ↔ P b := ⟨fun ⟨_, e, h⟩ => by cases e; exact h, fun h => ⟨b, rfl, h⟩⟩
theorem br_of {b : Bool} {P Q : Prop} (h1 : b = true → P) (h2 : b = false → Q) : Br b P Q := by cases b <;> simp [*]
theorem brd {p : Prop} [Decidable p] {P Q : Prop} (h1 : p → P) (h2 : ¬ p → Q) : Br (decide p) P Q := by
  by_cases h : p <;> simp [h, h1, h2]
section
variable {α β : Type} {m : M α} {f : α → M β} {u u' : PuS} {a : α} {P Q : α → PuS → Prop} {R : β → PuS → Prop}
theorem Ok.mono (h : Ok m u P) (k : ∀ a u', P a u' → Q a u') : Ok m u Q := by
  obtain ⟨a, u', e, p⟩ := h
  exact ⟨a, u', e, k a u' p⟩
theorem ok_of (e : m u = some (a, u')) : Ok m u P ↔ P a u' := by
  constructor
  · rintro ⟨b, v, e2, p⟩
    rw [e] at e2
    cases e2
    exact p
  · exact fun p => ⟨a, u', e, p⟩
@[simp] theorem ok_pure : Ok (M.pure a) u P ↔ P a u := ok_of rfl
@[simp] theorem ok_bind : Ok (M.bind m f) u R ↔ Ok m u fun a u1 => Ok (f a) u1 R := by
  constructor
  · rintro ⟨b, v, e, p⟩
    obtain ⟨a, u1, e1, e2⟩ := bind_some e
    exact ⟨a, u1, e1, b, v, e2, p⟩
  · rintro ⟨a, u1, e1, b, v, e2, p⟩
    refine ⟨b, v, ?_, p⟩
    unfold M.bind
    rw [e1]
    exact e2
@[simp] theorem ok_lft {o : Option α} : Ok (lft o) u P ↔ ∃ a, o = some a ∧ P a u := by
  cases o with
  | none => constructor
            · rintro ⟨b, v, e, p⟩; cases e
            · rintro ⟨b, e, p⟩; cases e
  | some a => constructor
              · rintro ⟨b, v, e, p⟩; cases e; exact ⟨_, rfl, p⟩
              · rintro ⟨b, e, p⟩; cases e; exact ⟨_, _, rfl, p⟩
@[simp] theorem ok_lfts : Ok (lft (some a)) u P ↔ P a u := ok_of rfl
@[simp] theorem ok_none : Ok (lft (none : Option α)) u P ↔ False := by
  constructor
  · rintro ⟨b, v, e, p⟩; cases e
  · exact False.elim
@[simp] theorem ok_ite {c : Prop} [Decidable c] {m n : M α} : Ok (if c then m else n) u P ↔ if c then Ok m u P else Ok n u P := by split <;> rfl
end
section
variable {ρ : Env} {u : PuS} {P : D → PuS → Prop} {PT : Bool → PuS → Prop} {PA : List D → PuS → Prop} {PS : Fl → PuS → Prop} {m ma mb mi : ME} {t v : MT} {ms mk : MA} {i j n : Nat}
@[simp] theorem ok_var : Ok (mVar i ρ) u P ↔ ∃ d, vSh ρ i = some d ∧ P d u := ok_lft
@[simp] theorem ok_C {d : D} : Ok (mC d ρ) u P ↔ P d u := ok_pure
@[simp] theorem ok_bin {f : D → D → Option D} : Ok (mBin f ma mb ρ) u P ↔ Ok (ma ρ) u fun x u1 => Ok (mb ρ) u1 fun y u2 => ∃ z, f x y = some z ∧ P z u2 := by
  unfold mBin; simp only [ok_bind, ok_lft]
@[simp] theorem ok_un {f : D → Option D} : Ok (mUn f ma ρ) u P ↔ Ok (ma ρ) u fun x u1 => ∃ z, f x = some z ∧ P z u1 := by
  unfold mUn; simp only [ok_bind, ok_lft]
@[simp] theorem ok_CB {f : List D → Option D} : Ok (mCB f ms ρ) u P ↔ Ok (ms ρ) u fun x u1 => ∃ z, f x = some z ∧ P z u1 := by
  unfold mCB; simp only [ok_bind, ok_lft]
@[simp] theorem ok_CBO {f : List D → Option (List D)} : Ok (mCBO f ms ρ) u PA ↔ Ok (ms ρ) u fun x u1 => ∃ z, f x = some z ∧ PA z u1 := by
  unfold mCBO; simp only [ok_bind, ok_lft]
@[simp] theorem ok_Iof {f : List D → Option (List D)} : Ok (mIof f ms ρ) u PA ↔ Ok (ms ρ) u fun x u1 => ∃ z, f x = some z ∧ PA z u1 := by
  unfold mIof; simp only [ok_bind, ok_lft]
@[simp] theorem ok_nil : Ok (mNil ρ) u PA ↔ PA [] u := ok_pure
@[simp] theorem ok_cons : Ok (mCons m ms ρ) u PA ↔ Ok (m ρ) u fun x u1 => Ok (ms ρ) u1 fun xs u2 => PA (x :: xs) u2 := by
  unfold mCons; simp only [ok_bind, ok_pure]
@[simp] theorem ok_tup : Ok (mTup ms ρ) u P ↔ Ok (ms ρ) u fun xs u1 => xs.length ≤ 100000 ∧ P (.tup xs) u1 := by
  unfold mTup; simp only [ok_bind, ok_lft]
  constructor
  · refine fun h => h.mono fun a u' z => ?_
    obtain ⟨d, e, p⟩ := z
    split at e
    · cases e; exact ⟨by assumption, p⟩
    · cases e
  · refine fun h => h.mono fun a u' z => ⟨_, if_pos z.1, z.2⟩
@[simp] theorem ok_lstO : Ok (mLstO ms ρ) u PA ↔ Ok (ms ρ) u fun xs u1 => xs.length ≤ 100000 ∧ PA xs u1 := by
  unfold mLstO; simp only [ok_bind, ok_lft]
  constructor
  · refine fun h => h.mono fun a u' z => ?_
    obtain ⟨d, e, p⟩ := z
    split at e
    · cases e; exact ⟨by assumption, p⟩
    · cases e
  · refine fun h => h.mono fun a u' z => ⟨_, if_pos z.1, z.2⟩
@[simp] theorem ok_B : Ok (mB m ρ) u PT ↔ Ok (m ρ) u fun d u1 => OnB d fun b => PT b u1 := by
  unfold mB; simp only [ok_bind]
  constructor
  · refine fun h => h.mono fun a u' z => ?_
    cases a <;> first | exact ⟨_, rfl, ok_pure.mp z⟩ | exact (ok_none.mp z).elim
  · refine fun h => h.mono fun a u' z => ?_
    obtain ⟨b, rfl, p⟩ := z
    exact ok_pure.mpr p
@[simp] theorem ok_and : Ok (mAnd t v ρ) u PT ↔ Ok (t ρ) u fun b u1 => Br b (Ok (v ρ) u1 PT) (PT false u1) := by
  unfold mAnd; simp only [ok_bind, ok_ite, ok_pure, Br]
@[simp] theorem ok_or : Ok (mOr t v ρ) u PT ↔ Ok (t ρ) u fun b u1 => Br b (PT true u1) (Ok (v ρ) u1 PT) := by
  unfold mOr; simp only [ok_bind, ok_ite, ok_pure, Br]
@[simp] theorem ok_not : Ok (mNot t ρ) u PT ↔ Ok (t ρ) u fun b u1 => PT (!b) u1 := by
  unfold mNot; simp only [ok_bind, ok_pure]
@[simp] theorem ok_if : Ok (mIf t ma mb ρ) u P ↔ Ok (t ρ) u fun b u1 => Br b (Ok (ma ρ) u1 P) (Ok (mb ρ) u1 P) := by
  unfold mIf; simp only [ok_bind, ok_ite, Br]
@[simp] theorem ok_andV : Ok (mAndV ma mb ρ) u P ↔ Ok (ma ρ) u fun d u1 => OnB d fun b => Br b (Ok (mb ρ) u1 P) (P (.bl false) u1) := by
  unfold mAndV; simp only [ok_bind]
  constructor
  · refine fun h => h.mono fun a u' z => ?_
    cases a with
    | bl b => cases b <;> exact ⟨_, rfl, by simpa [ok_pure] using z⟩
    | _ => exact (ok_none.mp z).elim
  · refine fun h => h.mono fun a u' z => ?_
    obtain ⟨b, rfl, p⟩ := z
    cases b <;> simpa [ok_pure] using p
@[simp] theorem ok_orV : Ok (mOrV ma mb ρ) u P ↔ Ok (ma ρ) u fun d u1 => OnB d fun b => Br b (P (.bl true) u1) (Ok (mb ρ) u1 P) := by
  unfold mOrV; simp only [ok_bind]
  constructor
  · refine fun h => h.mono fun a u' z => ?_
    cases a with
    | bl b => cases b <;> exact ⟨_, rfl, by simpa [ok_pure] using z⟩
    | _ => exact (ok_none.mp z).elim
  · refine fun h => h.mono fun a u' z => ?_
    obtain ⟨b, rfl, p⟩ := z
    cases b <;> simpa [ok_pure] using p
@[simp] theorem ok_notV : Ok (mNotV ma ρ) u P ↔ Ok (ma ρ) u fun d u1 => OnB d fun b => P (.bl (!b)) u1 := by
  unfold mNotV; simp only [ok_bind]
  constructor
  · refine fun h => h.mono fun a u' z => ?_
    cases a with
    | bl b => exact ⟨_, rfl, by simpa [ok_pure] using z⟩
    | _ => exact (ok_none.mp z).elim
  · refine fun h => h.mono fun a u' z => ?_
    obtain ⟨b, rfl, p⟩ := z
    simpa [ok_pure] using p
@[simp] theorem ok_Fz : Ok (mFz ms ρ) u P ↔ Ok (ms ρ) u fun ds u1 => P (.lst ds) u1 := by
  unfold mFz; simp only [ok_bind, ok_pure]
@[simp] theorem ok_sl {ml mh : MO} : Ok (mSl m ml mh ρ) u P ↔ Ok (m ρ) u fun d u1 => Ok (ml ρ) u1 fun lo u2 => Ok (mh ρ) u2 fun hi u3 => ∃ z, slD d lo hi = some z ∧ P z u3 := by
  unfold mSl; simp only [ok_bind, ok_lft]
@[simp] theorem ok_On {P : Option Int → PuS → Prop} : Ok (mOn ρ) u P ↔ P none u := ok_pure
@[simp] theorem ok_Os {P : Option Int → PuS → Prop} : Ok (mOs m ρ) u P ↔ Ok (m ρ) u fun d u1 => ∃ i, d = .int i ∧ P (some i) u1 := by
  unfold mOs; simp only [ok_bind]
  constructor
  · refine fun h => h.mono fun a u' z => ?_
    cases a <;> first | exact ⟨_, rfl, ok_pure.mp z⟩ | exact (ok_none.mp z).elim
  · refine fun h => h.mono fun a u' z => ?_
    obtain ⟨b, rfl, p⟩ := z
    exact ok_pure.mpr p
@[simp] theorem ok_call {mf : List D → M D} : Ok (mCall n mf ms ρ) u P ↔ Ok (ms ρ) u fun ds u1 => ds.length = n ∧ Ok (mf ds) u1 P := by
  unfold mCall; simp only [ok_bind, ok_ite]
  constructor
  · refine fun h => h.mono fun a u' z => ?_
    split at z
    · exact ⟨by assumption, z⟩
    · exact (ok_none.mp z).elim
  · refine fun h => h.mono fun a u' z => ?_
    rw [if_pos z.1]; exact z.2
@[simp] theorem ok_callL {mf : List D → M (List D)} : Ok (mCallL n mf ms ρ) u PA ↔ Ok (ms ρ) u fun ds u1 => ds.length = n ∧ Ok (mf ds) u1 PA := by
  unfold mCallL; simp only [ok_bind, ok_ite]
  constructor
  · refine fun h => h.mono fun a u' z => ?_
    split at z
    · exact ⟨by assumption, z⟩
    · exact (ok_none.mp z).elim
  · refine fun h => h.mono fun a u' z => ?_
    rw [if_pos z.1]; exact z.2
@[simp] theorem ok_self {k : Str} {mf : List D → M D} : Ok (mSelf k mf m ρ) u P ↔ Ok (m ρ) u fun d u1 => ∃ ks ds, d = .obj k ks ds ∧ Ok (mf [.obj k ks ds]) u1 P := by
  unfold mSelf; simp only [ok_bind]
  constructor
  · refine fun h => h.mono fun a u' z => ?_
    cases a with
    | obj c ks ds =>
      simp only [ok_ite] at z
      split at z
      · rename_i h; subst h; exact ⟨_, _, rfl, z⟩
      · exact (ok_none.mp z).elim
    | _ => exact (ok_none.mp z).elim
  · refine fun h => h.mono fun a u' z => ?_
    obtain ⟨ks, ds, rfl, z⟩ := z
    simp only [ok_ite, if_true]; exact z
@[simp] theorem ok_meth {k mm : Str} {mf : List D → M D} : Ok (mMeth k mm n mf m ms ρ) u P ↔ Ok (m ρ) u fun d u1 => ∃ ks ds, d = .obj k ks ds ∧ mm ∉ ks ∧ Ok (ms ρ) u1 fun es u2 => es.length = n ∧ Ok (mf (.obj k ks ds :: es)) u2 P := by
  unfold mMeth; simp only [ok_bind]
  constructor
  · refine fun h => h.mono fun a u' z => ?_
    cases a with
    | obj c ks ds =>
      simp only [ok_ite] at z
      split at z
      · rename_i hh
        obtain ⟨rfl, hh2⟩ := hh
        refine ⟨_, _, rfl, hh2, (ok_bind.mp z).mono fun es u2 z => ?_⟩
        simp only [ok_ite] at z
        split at z
        · exact ⟨by assumption, z⟩
        · exact (ok_none.mp z).elim
      · exact (ok_none.mp z).elim
    | _ => exact (ok_none.mp z).elim
  · refine fun h => h.mono fun a u' z => ?_
    obtain ⟨ks, ds, rfl, hm, z⟩ := z
    simp only [ok_ite]
    rw [if_pos (by first | exact ⟨rfl, hm⟩ | exact ⟨trivial, hm⟩), ok_bind]
    refine z.mono fun es u2 z => ?_
    simp only [ok_ite]
    rw [if_pos z.1]; exact z.2
@[simp] theorem ok_eqO {k : Str} {mf : List D → M D} : Ok (mEqO k mf ma mb ρ) u P ↔ Ok (ma ρ) u fun x u1 => Ok (mb ρ) u1 fun y u2 => ∃ ks ds ks' ds', x = .obj k ks ds ∧ y = .obj k ks' ds' ∧ Ok (mf [x, y]) u2 fun r u3 => OnB r fun b => P (.bl b) u3 := by
  unfold mEqO; simp only [ok_bind]
  constructor
  · refine fun h => h.mono fun x u' z => z.mono fun y u2 z1 => ?_
    split at z1
    · simp only [ok_ite] at z1
      split at z1
      · rename_i hh
        obtain ⟨rfl, hh2⟩ := hh
        subst hh2
        refine ⟨_, _, _, _, rfl, rfl, (ok_bind.mp z1).mono fun r u3 z2 => ?_⟩
        split at z2
        · exact ⟨_, rfl, ok_pure.mp z2⟩
        · exact (ok_none.mp z2).elim
      · exact (ok_none.mp z1).elim
    · exact (ok_none.mp z1).elim
  · refine fun h => h.mono fun x u' z => z.mono fun y u2 z => ?_
    obtain ⟨ks, ds, ks', ds', rfl, rfl, z⟩ := z
    simp only [ok_ite]
    rw [if_pos (by first | exact ⟨rfl, rfl⟩ | exact ⟨trivial, trivial⟩), ok_bind]
    refine z.mono fun r u3 z => ?_
    obtain ⟨b, rfl, z⟩ := z
    exact ok_pure.mpr z
@[simp] theorem ok_make {k : Str} {mf : List D → M (List Str × List D)} : Ok (mMake k n mf ms ρ) u P ↔ Ok (ms ρ) u fun ds u1 => ds.length = n ∧ Ok (mf ds) u1 fun r u2 => P (.obj k r.1 r.2) u2 := by
  unfold mMake; simp only [ok_bind, ok_ite]
  constructor
  · refine fun h => h.mono fun a u' z => ?_
    split at z
    · exact ⟨by assumption, by simpa only [ok_bind, ok_pure] using z⟩
    · exact (ok_none.mp z).elim
  · refine fun h => h.mono fun a u' z => ?_
    rw [if_pos z.1]; simpa only [ok_bind, ok_pure] using z.2
@[simp] theorem ok_ixO : Ok (mIxO i mi ρ) u P ↔ Ok (mi ρ) u fun k u1 => ∃ ds j z, vOw ρ i = some ds ∧ k = .int j ∧ atI ds j = some z ∧ P z u1 := by
  unfold mIxO; simp only [ok_bind, ok_lft]
  constructor
  · refine fun h => h.mono fun a u' z => ?_
    obtain ⟨ds, e, d, e2, p⟩ := z
    cases a <;> first | exact ⟨ds, _, d, e, rfl, e2, p⟩ | cases e2
  · refine fun h => h.mono fun a u' z => ?_
    obtain ⟨ds, j, z, e, rfl, e2, p⟩ := z
    exact ⟨ds, e, z, e2, p⟩
@[simp] theorem ok_lenO : Ok (mLenO i ρ) u P ↔ ∃ ds, vOw ρ i = some ds ∧ P (.int ds.length) u := by
  unfold mLenO; simp only [ok_bind, ok_lft, ok_pure]
@[simp] theorem ok_Iany : Ok (mIany m ρ) u PA ↔ Ok (m ρ) u fun d u1 => ∃ ds, itD d = some ds ∧ PA ds u1 := by
  unfold mIany; simp only [ok_bind, ok_lft]
@[simp] theorem s_itL {ds : List D} : itD (.lst ds) = some ds := rfl
@[simp] theorem s_itT {ds : List D} : itD (.tup ds) = some ds := rfl
@[simp] theorem ok_lcO {vs : List Nat} {g : MG} {mt : MT} {me : ME} : Ok (mLcO vs ms g mt me ρ) u PA ↔ Ok (ms ρ) u fun ds u1 => ds.length ≤ 100000 ∧ Ok (lcD g mt me (wipeE ρ vs) ds) u1 PA := by
  unfold mLcO; simp only [ok_bind, ok_ite]
  constructor
  · refine fun h => h.mono fun a u' z => ?_
    split at z
    · exact ⟨by assumption, z⟩
    · exact (ok_none.mp z).elim
  · refine fun h => h.mono fun a u' z => ?_
    rw [if_pos z.1]; exact z.2
@[simp] theorem ok_bor : Ok (mBor i m ρ) u P ↔ Ok (m (frz i ρ)) u fun d u1 => noLst d = true ∧ P d u1 := by
  unfold mBor; simp only [ok_bind, ok_lft]
  constructor
  · refine fun h => h.mono fun a u' z => ?_
    obtain ⟨d, e, p⟩ := z
    split at e
    · cases e; exact ⟨by assumption, p⟩
    · cases e
  · refine fun h => h.mono fun a u' z => ⟨_, if_pos z.1, z.2⟩
@[simp] theorem ok_borT : Ok (mBorT i t ρ) u PT ↔ Ok (t (frz i ρ)) u PT := Iff.rfl
@[simp] theorem ok_borL : Ok (mBorL i ms ρ) u PA ↔ Ok (ms (frz i ρ)) u fun d u1 => noLsts d = true ∧ PA d u1 := by
  unfold mBorL; simp only [ok_bind, ok_lft]
  constructor
  · refine fun h => h.mono fun a u' z => ?_
    obtain ⟨d, e, p⟩ := z
    split at e
    · cases e; exact ⟨by assumption, p⟩
    · cases e
  · refine fun h => h.mono fun a u' z => ⟨_, if_pos z.1, z.2⟩
@[simp] theorem ok_ixP : Ok (mIxP i mi ρ) u P ↔ Ok (mi ρ) u fun k u1 => ∃ d, vSh ρ i = some d ∧ Ok (getP d k) u1 P := by
  unfold mIxP; simp only [ok_bind, ok_lft]
/-! statements -/
@[simp] theorem ok_next : Ok (mNext ρ) u PS ↔ PS (.nx ρ) u := ok_pure
@[simp] theorem ok_seq {m n : MS} : Ok (mSeq m n ρ) u PS ↔ Ok (m ρ) u fun f u1 => match f with
    | .nx ρ1 => Ok (n ρ1) u1 PS
    | f' => PS f' u1 := by
  unfold mSeq; simp only [ok_bind]
  constructor
  · refine fun h => h.mono fun f u' z => ?_
    cases f <;> first | exact z | exact ok_pure.mp z
  · refine fun h => h.mono fun f u' z => ?_
    cases f <;> first | exact z | exact ok_pure.mpr z
@[simp] theorem ok_drop : Ok (mDrop m ρ) u PS ↔ Ok (m ρ) u fun _ u1 => PS (.nx ρ) u1 := by unfold mDrop; simp only [ok_bind, ok_pure]
@[simp] theorem ok_ret : Ok (mRet m ρ) u PS ↔ Ok (m ρ) u fun d u1 => PS (.rt d) u1 := by unfold mRet; simp only [ok_bind, ok_pure]
@[simp] theorem ok_retL : Ok (mRetL ms ρ) u PS ↔ Ok (ms ρ) u fun d u1 => PS (.rl d) u1 := by unfold mRetL; simp only [ok_bind, ok_pure]
@[simp] theorem ok_ifS {m n : MS} : Ok (mIfS t m n ρ) u PS ↔ Ok (t ρ) u fun b u1 => Br b (Ok (m ρ) u1 PS) (Ok (n ρ) u1 PS) := by unfold mIfS; simp only [ok_bind, ok_ite, Br]
@[simp] theorem ok_set : Ok (mSet i m ρ) u PS ↔ Ok (m ρ) u fun d u1 => PS (.nx (ρ.set i (.sh d))) u1 := by unfold mSet; simp only [ok_bind, ok_pure]
@[simp] theorem ok_setO : Ok (mSetO i ms ρ) u PS ↔ Ok (ms ρ) u fun d u1 => PS (.nx (ρ.set i (.ow d))) u1 := by unfold mSetO; simp only [ok_bind, ok_pure]
@[simp] theorem ok_stuck : Ok (mStuck ρ) u PS ↔ False := ok_none
@[simp] theorem ok_for {g : MG} {mb : MS} : Ok (mFor ms g mb ρ) u PS ↔ Ok (ms ρ) u fun ds u1 => Ok (loopD g mb ds ρ) u1 PS := by unfold mFor; simp only [ok_bind]
@[simp] theorem ok_app : Ok (mApp i m ρ) u PS ↔ Ok (m ρ) u fun d u1 => ∃ ds, vOw ρ i = some ds ∧ ds.length < 100000 ∧ PS (.nx (ρ.set i (.ow (ds ++ [d])))) u1 := by
  unfold mApp; simp only [ok_bind, ok_lft, ok_pure]
  constructor
  · refine fun h => h.mono fun f u' z => ?_
    obtain ⟨ds, e, _, e2, p⟩ := z
    split at e2
    · exact ⟨ds, e, by assumption, p⟩
    · cases e2
  · refine fun h => h.mono fun f u' z => ?_
    obtain ⟨ds, e, e2, p⟩ := z
    exact ⟨ds, e, (), if_pos e2, p⟩
@[simp] theorem ok_put {mv : ME} : Ok (mPut i mv mi ρ) u PS ↔ Ok (mv ρ) u fun d u1 => Ok (mi ρ) u1 fun k u2 => ∃ ds j n, vOw ρ i = some ds ∧ k = .int j ∧ ixN ds.length j = some n ∧ PS (.nx (ρ.set i (.ow (ds.set n d)))) u2 := by
  unfold mPut; simp only [ok_bind, ok_lft, ok_pure]
  constructor
  · refine fun h => h.mono fun f u' z => z.mono fun k u2 z => ?_
    obtain ⟨ds, e, n, e2, p⟩ := z
    cases k <;> first | exact ⟨ds, _, n, e, rfl, e2, p⟩ | cases e2
  · refine fun h => h.mono fun f u' z => z.mono fun k u2 z => ?_
    obtain ⟨ds, j, n, e, rfl, e2, p⟩ := z
    exact ⟨ds, e, n, e2, p⟩
@[simp] theorem ok_putP {mv : ME} : Ok (mPutP i mv mi ρ) u PS ↔ Ok (mv ρ) u fun v u1 => Ok (mi ρ) u1 fun k u2 => ∃ d, vSh ρ i = some d ∧ Ok (putP d k v) u2 fun _ u3 => PS (.nx ρ) u3 := by
  unfold mPutP; simp only [ok_bind, ok_lft, ok_pure]
@[simp] theorem ok_frz {m : MS} : Ok (mFrz i m ρ) u PS ↔ Ok (m (frz i ρ)) u PS := Iff.rfl
@[simp] theorem ok_asg {g : MG} : Ok (mAsg m g ρ) u PS ↔ Ok (m ρ) u fun d u1 => ∃ ρ1, g d ρ = some ρ1 ∧ PS (.nx ρ1) u1 := by
  unfold mAsg; simp only [ok_bind, ok_lft]
  constructor
  · refine fun h => h.mono fun f u' z => ?_
    obtain ⟨a, e, p⟩ := z
    cases e1 : g f ρ with
    | none => rw [e1] at e; cases e
    | some r => rw [e1] at e; cases e; exact ⟨r, rfl, p⟩
  · refine fun h => h.mono fun f u' z => ?_
    obtain ⟨a, e, p⟩ := z
    exact ⟨_, by rw [e]; rfl, p⟩
@[simp] theorem ok_Mnil {P : List Sd → PuS → Prop} : Ok (mMnil ρ) u P ↔ P [] u := ok_pure
@[simp] theorem ok_Msh {mm : MM} {P : List Sd → PuS → Prop} : Ok (mMsh m mm ρ) u P ↔ Ok (m ρ) u fun d u1 => Ok (mm ρ) u1 fun ds u2 => P (.sh d :: ds) u2 := by unfold mMsh; simp only [ok_bind, ok_pure]
@[simp] theorem ok_Mow {mm : MM} {P : List Sd → PuS → Prop} : Ok (mMow ms mm ρ) u P ↔ Ok (ms ρ) u fun d u1 => Ok (mm ρ) u1 fun ds u2 => P (.ow d :: ds) u2 := by unfold mMow; simp only [ok_bind, ok_pure]
@[simp] theorem ok_par {is : List Nat} {mm : MM} : Ok (mPar is mm ρ) u PS ↔ Ok (mm ρ) u fun sds u1 => sds.length = is.length ∧ PS (.nx (setAll is sds ρ)) u1 := by
  unfold mPar; simp only [ok_bind, ok_ite]
  constructor
  · refine fun h => h.mono fun f u' z => ?_
    split at z
    · exact ⟨by assumption, ok_pure.mp z⟩
    · exact (ok_none.mp z).elim
  · refine fun h => h.mono fun f u' z => ?_
    rw [if_pos z.1]; exact ok_pure.mpr z.2
@[simp] theorem ok_selfSet {ck fn : Str} : Ok (mSelfSet i ck fn m ρ) u PS ↔ Ok (m ρ) u fun d u1 => ∃ ks es, ρ[i]? = some (Sd.oi ck ks es) ∧ fn ∉ ks ∧ ks.length < 900 ∧ PS (.nx (ρ.set i (.oi ck (ks ++ [fn]) (es ++ [d])))) u1 := by
  unfold mSelfSet; simp only [ok_bind, ok_lft, ok_pure]
  constructor
  · refine fun h => h.mono fun f u' z => ?_
    obtain ⟨q, e, p⟩ := z
    split at e
    · split at e
      · rename_i e0 hh
        obtain ⟨rfl, h1, h2⟩ := hh
        cases e
        exact ⟨_, _, e0, h1, h2, p⟩
      · cases e
    · cases e
  · refine fun h => h.mono fun f u' z => ?_
    obtain ⟨ks, es, e, h1, h2, p⟩ := z
    exact ⟨(ks, es), by rw [e]; exact if_pos ⟨rfl, h1, h2⟩, p⟩
@[simp] theorem ok_fn {n : Nat} {mb : MS} {ds : List D} : Ok (mFn n mb ds) u P ↔ Ok (mb (startE n ds)) u fun f u1 => match f with
    | .rt d => P d u1
    | .nx _ => P .non u1
    | _ => False := by
  constructor
  · rintro ⟨a, u', e, p⟩
    unfold mFn at e
    cases e1 : mb (startE n ds) u with
    | none => rw [e1] at e; cases e
    | some y =>
      obtain ⟨f, u1⟩ := y
      rw [e1] at e
      cases f <;> first | (cases e; exact ⟨_, _, e1, p⟩) | cases e
  · rintro ⟨f, u1, e, p⟩
    cases f <;> first | exact ⟨_, u1, by unfold mFn; rw [e], p⟩ | exact False.elim p
@[simp] theorem ok_fnL {n : Nat} {mb : MS} {ds : List D} : Ok (mFnL n mb ds) u PA ↔ Ok (mb (startE n ds)) u fun f u1 => match f with
    | .rl d => PA d u1
    | _ => False := by
  constructor
  · rintro ⟨a, u', e, p⟩
    unfold mFnL at e
    cases e1 : mb (startE n ds) u with
    | none => rw [e1] at e; cases e
    | some y =>
      obtain ⟨f, u1⟩ := y
      rw [e1] at e
      cases f <;> first | (cases e; exact ⟨_, _, e1, p⟩) | cases e
  · rintro ⟨f, u1, e, p⟩
    cases f <;> first | exact ⟨_, u1, by unfold mFnL; rw [e], p⟩ | exact False.elim p
@[simp] theorem ok_init {n : Nat} {ck : Str} {mb : MS} {ds : List D} {P : List Str × List D → PuS → Prop} : Ok (mInit n ck mb ds) u P ↔ Ok (mb (startI n ck ds)) u fun f u1 => match f with
    | .nx ρ' => ∃ ks es, ρ'[0]? = some (Sd.oi ck ks es) ∧ P (ks, es) u1
    | _ => False := by
  constructor
  · rintro ⟨a, u', e, p⟩
    unfold mInit at e
    cases e1 : mb (startI n ck ds) u with
    | none => rw [e1] at e; cases e
    | some y =>
      obtain ⟨f, u1⟩ := y
      rw [e1] at e
      cases f with
      | nx ρ' =>
        refine ⟨_, _, e1, ?_⟩
        have e' : (match (ρ'[0]? : Option Sd) with
          | some (Sd.oi k ks es) => if k = ck then some ((ks, es), u1) else none
          | _ => none) = some (a, u') := e
        split at e'
        · rename_i e0
          split at e'
          · rename_i hk
            subst hk
            cases e'
            exact ⟨_, _, e0, p⟩
          · cases e'
        · cases e'
      | _ => cases e
  · rintro ⟨f, u1, e, p⟩
    cases f with
    | nx ρ' =>
      obtain ⟨ks, es, e0, p⟩ := p
      refine ⟨(ks, es), u1, ?_, p⟩
      unfold mInit
      rw [e]
      show (match (ρ'[0]? : Option Sd) with
          | some (Sd.oi k ks es) => if k = ck then some ((ks, es), u1) else none
          | _ => none) = _
      rw [e0]
      exact if_pos rfl
    | _ => exact False.elim p
end
/-! loops -/
theorem ok_loop {g : MG} {mb : MS} {P : Fl → PuS → Prop} (Inv : List D → Env → PuS → Prop)
    (step : ∀ d ds ρ u, Inv (d :: ds) ρ u → ∃ ρ1, g d ρ = some ρ1 ∧ Ok (mb ρ1) u fun f u' => match f with
      | .nx ρ2 => Inv ds ρ2 u'
      | .ct ρ2 => Inv ds ρ2 u'
      | .bk ρ2 => P (.nx ρ2) u'
      | .rt d => P (.rt d) u'
      | .rl d => P (.rl d) u'
      | .ex ρ2 k ks ds => P (.ex ρ2 k ks ds) u')
    (stop : ∀ ρ u, Inv [] ρ u → P (.nx ρ) u) : ∀ (ds : List D) (ρ : Env) (u : PuS), Inv ds ρ u → Ok (loopD g mb ds ρ) u P
  | [], ρ, u, h => ok_pure.mpr (stop ρ u h)
  | d :: ds, ρ, u, h => by
    obtain ⟨ρ1, e, h1⟩ := step d ds ρ u h
    unfold loopD
    rw [ok_bind, ok_lft]
    refine ⟨ρ1, e, ?_⟩
    rw [ok_bind]
    refine h1.mono fun f u' z => ?_
    cases f with
    | nx ρ2 => exact ok_loop Inv step stop ds ρ2 u' z
    | ct ρ2 => exact ok_loop Inv step stop ds ρ2 u' z
    | bk ρ2 => exact ok_pure.mpr z
    | rt d => exact ok_pure.mpr z
    | rl d => exact ok_pure.mpr z
    | ex ρ2 k ks ds => exact ok_pure.mpr z
/-- a comprehension that draws: each element has E, the state keeps I -/
theorem ok_lc {g : MG} {mt : MT} {me : ME} {ρ : Env} (I : PuS → Prop) (E : D → Prop) : ∀ (ds : List D) (u : PuS), I u → (∀ d ∈ ds, ∀ u, I u → ∃ ρ1, g d ρ = some ρ1 ∧ Ok (mt ρ1) u fun b u1 => b = true ∧ Ok (me ρ1) u1 fun y u2 => E y ∧ I u2) →
    Ok (lcD g mt me ρ ds) u fun ys u' => (ys.length = ds.length ∧ ∀ y ∈ ys, E y) ∧ I u'
  | [], u, hu, _ => ok_pure.mpr ⟨⟨rfl, fun y hy => by cases hy⟩, hu⟩
  | d :: ds, u, hu, h => by
    obtain ⟨ρ1, e, h1⟩ := h d List.mem_cons_self u hu
    unfold lcD
    rw [ok_bind, ok_lft]
    refine ⟨ρ1, e, ?_⟩
    rw [ok_bind]
    refine h1.mono fun b u1 z => ?_
    obtain ⟨rfl, z⟩ := z
    simp only [if_true, ok_bind]
    refine z.mono fun y u2 z2 => (ok_lc I E ds u2 z2.2 fun d hd => h d (List.mem_cons_of_mem _ hd)).mono fun ys u3 z3 => ?_
    rw [ok_pure]
    refine ⟨⟨by simp [z3.1.1], fun x hx => ?_⟩, z3.2⟩
    rcases List.mem_cons.mp hx with rfl | hx
    · exact z2.1
    · exact z3.1.2 x hx
theorem ok_list {g : MG} {mb : MS} {P : Fl → PuS → Prop} (xs : List D) (Inv : Nat → Env → PuS → Prop)
    (step : ∀ k d ρ u, xs[k]? = some d → Inv k ρ u → ∃ ρ1, g d ρ = some ρ1 ∧ Ok (mb ρ1) u fun f u' => match f with
      | .nx ρ2 => Inv (k + 1) ρ2 u'
      | .ct ρ2 => Inv (k + 1) ρ2 u'
      | .bk ρ2 => P (.nx ρ2) u'
      | .rt d => P (.rt d) u'
      | .rl d => P (.rl d) u'
      | .ex ρ2 k ks ds => P (.ex ρ2 k ks ds) u')
    (stop : ∀ ρ u, Inv xs.length ρ u → P (.nx ρ) u) (ρ : Env) (u : PuS) (h : Inv 0 ρ u) : Ok (loopD g mb xs ρ) u P := by
  refine ok_loop (fun ds ρ u => ∃ k, k ≤ xs.length ∧ ds = xs.drop k ∧ Inv k ρ u) ?_ ?_ _ ρ u ⟨0, Nat.zero_le _, rfl, h⟩
  · rintro d ds ρ u ⟨k, hk, e, hi⟩
    have hkn : k < xs.length := by
      rcases Nat.lt_or_ge k xs.length with z | z
      · exact z
      · rw [List.drop_eq_nil_of_le z] at e; cases e
    rw [List.drop_eq_getElem_cons hkn] at e
    obtain ⟨e1, e2⟩ := List.cons.inj e
    obtain ⟨ρ1, e4, h1⟩ := step k d ρ u (by rw [e1]; exact List.getElem?_eq_getElem hkn) hi
    refine ⟨ρ1, e4, h1.mono fun f u' z => ?_⟩
    cases f with
    | nx ρ2 => exact ⟨k + 1, hkn, e2, z⟩
    | ct ρ2 => exact ⟨k + 1, hkn, e2, z⟩
    | _ => exact z
  · rintro ρ u ⟨k, hk, e, hi⟩
    have hkn : k = xs.length := by
      have := congrArg List.length e
      simp at this
      omega
    subst hkn
    exact stop ρ u hi
theorem eq_of_ok {α : Type} {m : M α} {u : PuS} {a : α} (h : Ok m u fun b u' => b = a ∧ u' = u) : m u = some (a, u) := by
  obtain ⟨b, u', e, rfl, rfl⟩ := h
  exact e
theorem lc_is {g : MG} {mt : MT} {me : ME} {ρ : Env} {u : PuS} {f : Nat → D} {r : Nat → Env} {t : Nat → Bool} {e : Nat → D} : ∀ (is : List Nat), (∀ i ∈ is, g (f i) ρ = some (r i)) → (∀ i ∈ is, Ok (mt (r i)) u fun b u' => b = t i ∧ u' = u) →
    (∀ i ∈ is, t i = true → Ok (me (r i)) u fun b u' => b = e i ∧ u' = u) → lcD g mt me ρ (is.map f) u = some ((is.filter t).map e, u)
  | [], _, _, _ => rfl
  | i :: is, h1, h2, h3 => by
    have ih := lc_is is (fun x hx => h1 x (List.mem_cons_of_mem _ hx)) (fun x hx => h2 x (List.mem_cons_of_mem _ hx)) (fun x hx => h3 x (List.mem_cons_of_mem _ hx))
    refine eq_of_ok ?_
    rw [List.map_cons]
    unfold lcD
    rw [ok_bind, ok_lft]
    refine ⟨_, h1 i List.mem_cons_self, ?_⟩
    rw [ok_bind, ok_of (eq_of_ok (h2 i List.mem_cons_self))]
    cases ht : t i with
    | false =>
      rw [if_neg (by decide), ok_of ih]
      simp [ht]
    | true =>
      rw [if_pos rfl, ok_bind, ok_of (eq_of_ok (h3 i List.mem_cons_self ht)), ok_bind, ok_of ih, ok_pure]
      simp [ht]
/-- a comprehension over a range that draws nothing -/
theorem ok_lcr {g : MG} {mt : MT} {me : ME} {ρ : Env} {u : PuS} {lo : Int} {n : Nat} (r : Nat → Env) (t : Nat → Bool) (e : Nat → D) {P : List D → PuS → Prop} (h1 : ∀ i, i < n → g (.int (lo + (i : Nat))) ρ = some (r i)) (h2 : ∀ i, i < n → Ok (mt (r i)) u fun b u' => b = t i ∧ u' = u)
    (h3 : ∀ i, i < n → t i = true → Ok (me (r i)) u fun b u' => b = e i ∧ u' = u) (h : P (((List.range n).filter t).map e) u) : Ok (lcD g mt me ρ (rngD lo n)) u P := by
  have := lc_is (g := g) (mt := mt) (me := me) (ρ := ρ) (u := u) (f := fun i => D.int (lo + (i : Nat))) (r := r) (t := t) (e := e) (List.range n) (fun i hi => h1 i (List.mem_range.mp hi)) (fun i hi => h2 i (List.mem_range.mp hi)) (fun i hi => h3 i (List.mem_range.mp hi))
  exact (ok_of this).mpr h
theorem ok_with {mf : List D → M D} {ml : MA} {ρ : Env} {u : PuS} {P : D → PuS → Prop} (b : Bool) (h : Ok (ml ρ) u fun ds u1 => ∃ (l : List Int), ds = l.map D.int ∧ (Ok (mf [.pur]) (.real l) fun d _ => d = .bl b) ∧ P (.bl b) u1) : Ok (mWith mf ml ρ) u P := by
  unfold mWith
  rw [ok_bind]
  refine h.mono fun ds u1 z => ?_
  obtain ⟨l, rfl, ⟨d, u2, e, rfl⟩, p⟩ := z
  rw [ok_lft]
  refine ⟨.bl b, ?_, p⟩
  rw [intsD_map]
  show (match mf [.pur] (.real l) with
    | some (.bl b, _) => some (D.bl b)
    | _ => none) = _
  rw [e]
@[simp] theorem ok_yes {ρ : Env} {u : PuS} {P : Bool → PuS → Prop} : Ok (mYes ρ) u P ↔ P true u := ok_pure
@[simp] theorem ex_two {α β : Type} {a : α} {b : β} {Q : α → β → Prop} : (∃ x y, (a = x ∧ b = y) ∧ Q x y) ↔ Q a b := ⟨fun ⟨_, _, ⟨e1, e2⟩, h⟩ => by rw [← e1, ← e2] at h; exact h, fun h => ⟨a, b, ⟨rfl, rfl⟩, h⟩⟩
/-! data, for simp -/
section
variable {a b i j : Int} {xs ys : List D} {x y : D}
@[simp] theorem s_add : addD (.int a) (.int b) = some (.int (a + b)) := rfl
@[simp] theorem s_sub : subD (.int a) (.int b) = some (.int (a - b)) := rfl
theorem s_mul : mulD (.int a) (.int b) = if mulC a b = true then some (.int (a * b)) else none := rfl
@[simp] theorem s_neg : negD (.int a) = some (.int (-a)) := rfl
@[simp] theorem s_lt : ltD (.int a) (.int b) = some (.bl (decide (a < b))) := rfl
@[simp] theorem s_le : leD (.int a) (.int b) = some (.bl (decide (a ≤ b))) := rfl
@[simp] theorem s_gt : gtD (.int a) (.int b) = some (.bl (decide (b < a))) := rfl
@[simp] theorem s_ge : geD (.int a) (.int b) = some (.bl (decide (b ≤ a))) := rfl
@[simp] theorem e_mul {Q : D → Prop} : (∃ z, mulD (.int a) (.int b) = some z ∧ Q z) ↔ mulC a b = true ∧ Q (.int (a * b)) := by
  rw [s_mul]
  split
  · simp [*]
  · simp [*]
@[simp] theorem mulC_iff : mulC a b = true ↔ (-18446744073709551616 < a ∧ a < 18446744073709551616 ∨ -18446744073709551616 < b ∧ b < 18446744073709551616) ∨ a.natAbs.log2 + b.natAbs.log2 < 1000000 := by
  unfold mulC
  rw [Bool.or_eq_true_iff, decide_eq_true_iff, decide_eq_true_iff]
  exact Iff.rfl
@[simp] theorem e_mod {Q : D → Prop} : (∃ z, modD (.int a) (.int b) = some z ∧ Q z) ↔ 0 < b ∧ Q (.int (a % b)) := by
  show (∃ z, (if decide (0 < b) = true then some (D.int (a % b)) else none) = some z ∧ Q z) ↔ _
  by_cases h : 0 < b <;> simp [h]
theorem log_small (h : b.natAbs < 1000000000) : b.natAbs.log2 < 30 := by
  by_cases z : b.natAbs = 0
  · rw [z]; decide
  · exact (Nat.log2_lt z).mpr (by omega)
@[simp] theorem e_fdiv {Q : D → Prop} : (∃ z, fdivD (.int a) (.int b) = some z ∧ Q z) ↔ fdivC a b = true ∧ Q (.int (a / b)) := by
  show (∃ z, (if fdivC a b = true then some (D.int (a / b)) else none) = some z ∧ Q z) ↔ _
  by_cases h : fdivC a b = true <;> simp [h]
@[simp] theorem fdivC_small (h : 0 < b ∧ b < 1000000000) : fdivC a b = true := by
  unfold fdivC
  have := log_small (b := b) (by omega)
  exact decide_eq_true ⟨h.1, by omega⟩
@[simp] theorem e_pow {Q : D → Prop} : (∃ z, powD (.int a) (.int b) = some z ∧ Q z) ↔ powC a b = true ∧ Q (.int (a ^ b.toNat)) := by
  show (∃ z, (if powC a b = true then some (D.int (a ^ b.toNat)) else none) = some z ∧ Q z) ↔ _
  by_cases h : powC a b = true <;> simp [h]
@[simp] theorem e_dm {Q : D → Prop} : (∃ z, dmD [.int a, .int b] = some z ∧ Q z) ↔ dmC a b = true ∧ Q (.tup [.int (a / b), .int (a % b)]) := by
  show (∃ z, (if dmC a b = true then some (D.tup [.int (a / b), .int (a % b)]) else none) = some z ∧ Q z) ↔ _
  by_cases h : dmC a b = true <;> simp [h]
@[simp] theorem dmC_small (h : 0 < b ∧ b < 1000000000) : dmC a b = true := by
  unfold dmC
  have := log_small (b := b) (by omega)
  have e : Builtin.divisionGoesByPylong a b = false := by
    unfold Builtin.divisionGoesByPylong
    simp only []
    have hb : ¬ ((if (b == 0) = true then 0 else b.natAbs.log2 / 30 + 1) > 300) := by
      split
      · omega
      · omega
    simp only [hb, decide_false, Bool.false_and]
  rw [e, decide_eq_true h.1]; rfl
@[simp] theorem e_rng1 {Q : List D → Prop} : (∃ z, rng1 [.int j] = some z ∧ Q z) ↔ (-100000 ≤ j ∧ j ≤ 100000) ∧ Q (rngD 0 j.toNat) := by
  show (∃ z, (if -100000 ≤ j ∧ j ≤ 100000 then some (rngD 0 j.toNat) else none) = some z ∧ Q z) ↔ _
  by_cases h : -100000 ≤ j ∧ j ≤ 100000 <;> simp [h]
@[simp] theorem s_powC : powC a b = true ↔ 0 ≤ b ∧ b ≤ 1000000 ∧ a.natAbs < 18446744073709551616 := by unfold powC; exact decide_eq_true_iff
@[simp] theorem s_ixL : ixD (.lst xs) (.int i) = atI xs i := rfl
@[simp] theorem s_ixT : ixD (.tup xs) (.int i) = atI xs i := rfl
@[simp] theorem s_slL {lo hi : Option Int} : slD (.lst xs) lo hi = some (.lst (cutD xs lo hi)) := rfl
@[simp] theorem s_slT {lo hi : Option Int} : slD (.tup xs) lo hi = some (.tup (cutD xs lo hi)) := rfl
@[simp] theorem s_listT : listO [.tup xs] = some xs := rfl
@[simp] theorem s_listL : listO [.lst xs] = some xs := rfl
@[simp] theorem s_setAll2 {k l : Nat} {s t : Sd} {ρ : Env} : setAll [k, l] [s, t] ρ = (ρ.set k s).set l t := rfl
@[simp] theorem s_setAll3 {k l m : Nat} {s t r : Sd} {ρ : Env} : setAll [k, l, m] [s, t, r] ρ = ((ρ.set k s).set l t).set m r := rfl
@[simp] theorem s_wipe0 {ρ : Env} : wipeE ρ [] = ρ := rfl
@[simp] theorem s_wipe {ρ : Env} {k : Nat} {ks : List Nat} : wipeE ρ (k :: ks) = (wipeE ρ ks).set k .un := rfl
@[simp] theorem s_frz {ρ : Env} {k : Nat} : frz k ρ = match vOw ρ k with
  | some ds => ρ.set k (.sh (.lst ds))
  | none => ρ := rfl
theorem at_nat {α : Type} {l : List α} {k : Nat} {x : α} (h : l[k]? = some x) : atI l (k : Int) = some x := by
  have hk : k < l.length := (List.getElem?_eq_some_iff.mp h).1
  unfold atI ixN
  rw [if_pos (by omega), if_pos (by omega)]
  simpa using h
theorem at_last {α : Type} {l : List α} {x : α} : atI (l ++ [x]) (-1) = some x := by
  unfold atI ixN
  rw [if_neg (by omega), if_pos (by simp; omega)]
  have : ((-1 : Int) + ((l.length : Int) + 1)).toNat = l.length := by omega
  simp [this]
/-- each turn of a loop over a range -/
theorem ok_range {g : MG} {mb : MS} {P : Fl → PuS → Prop} (lo : Int) (n : Nat) (Inv : Nat → Env → PuS → Prop)
    (step : ∀ k ρ u, k < n → Inv k ρ u → ∃ ρ1, g (.int (lo + (k : Nat))) ρ = some ρ1 ∧ Ok (mb ρ1) u fun f u' => match f with
      | .nx ρ2 => Inv (k + 1) ρ2 u'
      | .ct ρ2 => Inv (k + 1) ρ2 u'
      | .bk ρ2 => P (.nx ρ2) u'
      | .rt d => P (.rt d) u'
      | .rl d => P (.rl d) u'
      | .ex ρ2 k ks ds => P (.ex ρ2 k ks ds) u')
    (stop : ∀ ρ u, Inv n ρ u → P (.nx ρ) u) (ρ : Env) (u : PuS) (h : Inv 0 ρ u) : Ok (loopD g mb (rngD lo n) ρ) u P := by
  refine ok_loop (fun ds ρ u => ∃ k, k ≤ n ∧ ds = (rngD lo n).drop k ∧ Inv k ρ u) ?_ ?_ _ ρ u ⟨0, Nat.zero_le _, rfl, h⟩
  · rintro d ds ρ u ⟨k, hk, e, hi⟩
    have hkn : k < n := by
      rcases Nat.lt_or_ge k n with z | z
      · exact z
      · rw [List.drop_eq_nil_of_le (by rw [rngD_len]; exact z)] at e; cases e
    rw [List.drop_eq_getElem_cons (by rw [rngD_len]; exact hkn)] at e
    obtain ⟨e1, e2⟩ := List.cons.inj e
    have e3 : d = .int (lo + (k : Nat)) := by rw [e1]; simp [rngD]
    subst e3
    obtain ⟨ρ1, e4, h1⟩ := step k ρ u hkn hi
    refine ⟨ρ1, e4, h1.mono fun f u' z => ?_⟩
    cases f with
    | nx ρ2 => exact ⟨k + 1, hkn, e2, z⟩
    | ct ρ2 => exact ⟨k + 1, hkn, e2, z⟩
    | _ => exact z
  · rintro ρ u ⟨k, hk, e, hi⟩
    have hkn : k = n := by
      have := congrArg List.length e
      simp [rngD_len] at this
      omega
    subst hkn
    exact stop ρ u hi
theorem toPDs_ints (ns : List Int) : toPDs (ns.map D.int) = some (ns.map PyData.int) := by
  induction ns with
  | nil => rfl
  | cons n ns ih =>
    show (match toPD (.int n), toPDs (ns.map D.int) with
      | some a, some b => some (a :: b)
      | _, _ => none) = _
    rw [ih]; rfl
theorem lay_ints (ns : List Int) : PyData.canLayAll0 (ns.map PyData.int) = true := by
  induction ns with
  | nil => rfl
  | cons n ns ih => show (true && _) = true; rw [ih]; rfl
theorem depth_ints (ns : List Int) : PyData.depthAll (ns.map PyData.int) = 0 := by
  induction ns with
  | nil => rfl
  | cons n ns ih => show max 0 (PyData.depthAll (ns.map PyData.int)) = 0; rw [ih]; rfl
theorem eqv_ints : ∀ (xs ys : List Int), PyData.eqvAll (xs.map PyData.int) (ys.map PyData.int) = decide (xs = ys)
  | [], [] => rfl
  | [], _ :: _ => rfl
  | _ :: _, [] => rfl
  | x :: xs, y :: ys => by
    show ((x == y) && PyData.eqvAll (xs.map PyData.int) (ys.map PyData.int)) = _
    rw [eqv_ints xs ys]
    by_cases h : x = y <;> by_cases h2 : xs = ys <;> simp [h, h2]
theorem eq_tups (xs ys : List Int) : eqD (.tup (xs.map D.int)) (.tup (ys.map D.int)) = some (decide (xs = ys)) := by
  have e : ∀ zs : List Int, toPD (.tup (zs.map D.int)) = some (.tuple (zs.map PyData.int)) := fun zs => by
    show (toPDs (zs.map D.int)).map PyData.tuple = _
    rw [toPDs_ints]; rfl
  have sh : ∀ zs : List Int, SeqAt.shaped (.tuple (zs.map PyData.int)) = true := fun zs => by
    show (PyData.canLayAll0 (zs.map PyData.int) && decide (PyData.depthAll (zs.map PyData.int) + 1 ≤ 64)) = true
    rw [lay_ints, depth_ints]; rfl
  unfold eqD
  rw [e, e]
  show (if _ then some (PyData.eqvAll (xs.map PyData.int) (ys.map PyData.int)) else none) = _
  rw [if_pos ⟨sh xs, sh ys⟩, eqv_ints]
theorem eq_lsts (xs ys : List Int) : eqD (.lst (xs.map D.int)) (.lst (ys.map D.int)) = some (decide (xs = ys)) := by
  have e : ∀ zs : List Int, toPD (.lst (zs.map D.int)) = some (.list (zs.map PyData.int)) := fun zs => by
    show (toPDs (zs.map D.int)).map PyData.list = _
    rw [toPDs_ints]; rfl
  have sh : ∀ zs : List Int, SeqAt.shaped (.list (zs.map PyData.int)) = true := fun zs => by
    show (PyData.canLayAll0 (zs.map PyData.int) && decide (PyData.depthAll (zs.map PyData.int) + 1 ≤ 64)) = true
    rw [lay_ints, depth_ints]; rfl
  unfold eqD
  rw [e, e]
  show (if _ then some (PyData.eqvAll (xs.map PyData.int) (ys.map PyData.int)) else none) = _
  rw [if_pos ⟨sh xs, sh ys⟩, eqv_ints]
@[simp] theorem s_eqT {xs ys : List Int} : eqMD (.tup (xs.map D.int)) (.tup (ys.map D.int)) = some (.bl (decide (xs = ys))) := by unfold eqMD; rw [eq_tups]; rfl
@[simp] theorem s_neT {xs ys : List Int} : neMD (.tup (xs.map D.int)) (.tup (ys.map D.int)) = some (.bl (!decide (xs = ys))) := by unfold neMD; rw [eq_tups]; rfl
@[simp] theorem s_eqL {xs ys : List Int} : eqMD (.lst (xs.map D.int)) (.lst (ys.map D.int)) = some (.bl (decide (xs = ys))) := by unfold eqMD; rw [eq_lsts]; rfl
@[simp] theorem s_neL {xs ys : List Int} : neMD (.lst (xs.map D.int)) (.lst (ys.map D.int)) = some (.bl (!decide (xs = ys))) := by unfold neMD; rw [eq_lsts]; rfl
@[simp] theorem s_eqL0 {xs : List Int} : eqMD (.lst (xs.map D.int)) (.lst []) = some (.bl (decide (xs = []))) := s_eqL (ys := [])
@[simp] theorem s_neL0 {xs : List Int} : neMD (.lst (xs.map D.int)) (.lst []) = some (.bl (!decide (xs = []))) := s_neL (ys := [])
@[simp] theorem s_eqI : eqMD (.int a) (.int b) = some (.bl (decide (a = b))) := by
  have : eqD (.int a) (.int b) = some (decide (a = b)) := by
    show (if SeqAt.shaped (.int a) = true ∧ SeqAt.shaped (.int b) = true then some (a == b) else none) = _
    rw [if_pos ⟨rfl, rfl⟩]; rfl
  unfold eqMD; rw [this]; rfl
@[simp] theorem s_neI : neMD (.int a) (.int b) = some (.bl (!decide (a = b))) := by
  have : eqD (.int a) (.int b) = some (decide (a = b)) := by
    show (if SeqAt.shaped (.int a) = true ∧ SeqAt.shaped (.int b) = true then some (a == b) else none) = _
    rw [if_pos ⟨rfl, rfl⟩]; rfl
  unfold neMD; rw [this]; rfl
theorem cut_from {xs : List D} {k : Nat} : cutD xs (some (k : Int)) none = xs.drop k := by
  unfold cutD
  rw [HT.sIx_nat, HT.sIx_none]
  rcases Nat.le_total k xs.length with h | h
  · rw [Nat.min_eq_left h]
    exact List.take_of_length_le (by simp)
  · rw [Nat.min_eq_right h, List.drop_eq_nil_of_le (Nat.le_refl _), List.drop_eq_nil_of_le h]
    simp
theorem cut_to {xs : List D} {k : Nat} : cutD xs none (some (k : Int)) = xs.take k := by
  unfold cutD
  rw [HT.sIx_nat, HT.sIx_none]
  simp
@[simp] theorem s_enumT : enumA [.tup xs] = some (enumD xs) := rfl
@[simp] theorem s_enumL : enumA [.lst xs] = some (enumD xs) := rfl
@[simp] theorem s_max2 : maxD [.int a, .int b] = some (.int (if b > a then b else a)) := rfl
@[simp] theorem s_min2 : minD [.int a, .int b] = some (.int (if b < a then b else a)) := rfl
@[simp] theorem s_addL (h : xs.length + ys.length ≤ 100000) : addD (.lst xs) (.lst ys) = some (.lst (xs ++ ys)) := if_pos h
@[simp] theorem s_Gt {n : Nat} {gs : List D → Env → Option Env} {ρ : Env} : mGt n gs (.tup xs) ρ = if xs.length = n then gs xs ρ else none := rfl
@[simp] theorem s_Gc {g : MG} {gs : List D → Env → Option Env} {ρ : Env} : mGcons g gs (x :: xs) ρ = (g x ρ).bind fun ρ' => gs xs ρ' := rfl
@[simp] theorem s_Gnil {ρ : Env} : mGnil [] ρ = some ρ := rfl
@[simp] theorem s_fld {k : Str} {ks : List Str} {n : Nat} : fldD k ks n (.obj k ks xs) = xs[n]? := if_pos ⟨rfl, rfl⟩
@[simp] theorem s_scrLen {ns : List Int} : lenD [.scr ns] = some (.int ns.length) := rfl
@[simp] theorem s_scrIx {ns : List Int} : ixD (.scr ns) (.int i) = (atI ns i).map .int := rfl
@[simp] theorem s_scrSl {ns : List Int} {lo hi : Option Int} : slD (.scr ns) lo hi = some (.lst (cutD (ns.map .int) lo hi)) := rfl
theorem enumD_ints {ns : List Int} {k : Nat} {d : D} (h : (enumD (ns.map D.int))[k]? = some d) : ∃ x, ns[k]? = some x ∧ d = .tup [.int (k : Nat), .int x] := by
  obtain ⟨x, e, rfl⟩ := enumD_at h
  rw [List.getElem?_map] at e
  cases e2 : ns[k]? with
  | none => rw [e2] at e; cases e
  | some y => rw [e2] at e; cases e; exact ⟨y, rfl, rfl⟩
@[simp] theorem s_vSh {ρ : Env} {n : Nat} : vSh ρ n = match ρ[n]? with
  | some (.sh d) => some d
  | _ => none := rfl
@[simp] theorem s_vOw {ρ : Env} {n : Nat} : vOw ρ n = match ρ[n]? with
  | some (.ow d) => some d
  | _ => none := rfl
@[simp] theorem s_start {n : Nat} {ds : List D} : startE n ds = ds.map Sd.sh ++ List.replicate (n - ds.length) Sd.un := rfl
@[simp] theorem s_Gn {n : Nat} {d : D} {ρ : Env} : mGn n d ρ = some (ρ.set n (.sh d)) := rfl
@[simp] theorem s_int1 : int1D [.int a] = some (.int a) := rfl
@[simp] theorem s_lenL : lenD [.lst xs] = some (.int xs.length) := rfl
@[simp] theorem s_lenT : lenD [.tup xs] = some (.int xs.length) := rfl
@[simp] theorem s_tupL : tupD [.lst xs] = some (.tup xs) := rfl
@[simp] theorem s_getP {l : List Int} {P : D → PuS → Prop} : Ok (getP .pur (.int j)) (.real l) P ↔ ∃ n, atI l j = some n ∧ P (.int n) (.real l) := by
  cases e : atI l j with
  | none =>
    constructor
    · rintro ⟨d, u', e2, p⟩
      have e3 : (atI l j).map (fun n => (D.int n, PuS.real l)) = some (d, u') := e2
      rw [e] at e3; cases e3
    · rintro ⟨n, e2, _⟩; cases e2
  | some n =>
    have e3 : getP .pur (.int j) (.real l) = some (.int n, .real l) := by
      show (atI l j).map (fun n => (D.int n, PuS.real l)) = _
      rw [e]; rfl
    rw [ok_of e3]; simp
@[simp] theorem s_putP {l : List Int} {P : Unit → PuS → Prop} : Ok (putP .pur (.int j) (.int a)) (.real l) P ↔ ∃ n, ixN l.length j = some n ∧ P () (.real (l.set n a)) := by
  cases e : ixN l.length j with
  | none =>
    constructor
    · rintro ⟨d, u', e2, p⟩
      have e3 : (ixN l.length j).map (fun n => ((), PuS.real (l.set n a))) = some (d, u') := e2
      rw [e] at e3; cases e3
    · rintro ⟨n, e2, _⟩; cases e2
  | some n =>
    have e3 : putP .pur (.int j) (.int a) (.real l) = some ((), .real (l.set n a)) := by
      show (ixN l.length j).map (fun n => ((), PuS.real (l.set n a))) = _
      rw [e]; rfl
    rw [ok_of e3]; simp
@[simp] theorem ok_dmP {ρ : Env} {u : PuS} {mi m : ME} {n k : Nat} {PS : Fl → PuS → Prop} : Ok (mDmP n mi k m ρ) u PS ↔ Ok (m ρ) u fun v u1 => ∃ a b, v = .tup [.int a, .int b] ∧ Ok (mi ρ) u1 fun kk u2 => ∃ d, vSh ρ n = some d ∧ Ok (putP d kk (.int a)) u2 fun _ u3 => PS (.nx (ρ.set k (.sh (.int b)))) u3 := by
  unfold mDmP; simp only [ok_bind]
  constructor
  · refine fun h => h.mono fun f u' z => ?_
    split at z
    · exact ⟨_, _, rfl, by simpa only [ok_bind, ok_lft, ok_pure] using z⟩
    · exact (ok_none.mp z).elim
  · refine fun h => h.mono fun f u' z => ?_
    obtain ⟨a, b, rfl, z⟩ := z
    simpa only [ok_bind, ok_lft, ok_pure] using z
end
end Mi

set_option Elab.async false
set_option linter.all false
set_option maxRecDepth 100000
set_option maxHeartbeats 4000000
/-! MiG: chained comparisons, += on names, fresh concatenations, range with a step, f-strings. -/
namespace Mi
open PySem PySem.Spec PyProof.Rows L2
variable [TB : Tabl]
/-! ### chained comparisons -/
def mChain (f g : D → D → Option D) (ma mb mc : ME) : ME := fun ρ => M.bind (ma ρ) fun x => M.bind (mb ρ) fun y => M.bind (lft (f x y)) fun z => match z with
  | .bl b => if b = true then M.bind (mc ρ) fun w => lft (g y w) else M.pure (.bl false)
  | _ => lft none
section
variable {X : Cx} {c : Cf} {pos : Pos} {a b d : Expr} {ma mb mc : ME} {r r' : R2} {f g : D → D → Option D}
theorem rdChain (hf : OpM c.W r f) (hg : OpM c.W r' g) : ∀ σ H Q, rdE c (mChain f g ma mb mc) σ H Q → tChain r r' (rdE c ma) (rdE c mb) (rdE c mc) σ H Q := fun σ H Q ⟨F, u, ρ, S, h⟩ =>
  ⟨F, u, ρ, S, (After.split h).imp fun x u1 F1 H1 _ s1 g1 h1 v rv => ⟨F1, u1, ρ, S.step s1 g1, (After.split h1).imp fun y u2 F2 H2 _ s2 g2 h2 w rw =>
    hf c.p F2 H2 u2 v w x y _ g2 (rv.mono s2.ef) rw ((After.split h2).imp fun z u3 F3 H3 _ s3 g3 h3 vz rz => by
      cases z with
      | bl k =>
        refine ⟨k, rz.bl_, ?_⟩
        cases k with
        | true => exact ⟨F3, u3, ρ, ((S.step s1 g1).step s2 g2).step s3 g3, (After.split h3).imp fun w' u4 F4 H4 _ s4 g4 h4 v' rv' => hg c.p F4 H4 u4 w v' y w' Q g4 ((rw.mono s3.ef).mono s4.ef) rv' h4⟩
        | false =>
          have h4 : After c.p F3 H3 (some (D.bl false, u3)) (fun d _ F' H' => ∀ v, Rep c.W c.p F' v d → Q v H') := h3
          exact After.now g3 h4 _ (.bl false)
      | _ => exact False.elim h3)⟩⟩
theorem dTchain {op op' : CmpOp} (ho : OpR X (compareOp op) r) (hf : OpM c.W r f) (ho' : OpR X (compareOp op') r') (hg : OpM c.W r' g) (ha : DE X c a ma) (hb : DE X c b mb) (hd : DE X c d mc) (hm : lastMarks [op, op'] [b, d] = false := by with_unfolding_all rfl) :
    DT X c (.Compare a [op, op'] [b, d] pos) (mB (mChain f g ma mb mc)) :=
  (pt_chain ho ho' ha hb hd hm).imp fun σ H Q h => by
    obtain ⟨F, u, ρ, S, h⟩ := h
    refine rdChain hf hg σ H _ ⟨F, u, ρ, S, (After.split h).imp fun d u1 F1 H1 _ s1 g1 h1 w rw => ?_⟩
    cases d with
    | bl k =>
      have h2 : After c.p F1 H1 (some (k, u1)) (fun b _ _ H' => Q b H') := h1
      exact ⟨k, rw.bl_, After.now g1 h2⟩
    | _ => exact False.elim h1
end
@[simp] theorem ok_chain {ρ : Env} {u : PuS} {P : D → PuS → Prop} {ma mb mc : ME} {f g : D → D → Option D} : Ok (mChain f g ma mb mc ρ) u P ↔ Ok (ma ρ) u fun x u1 => Ok (mb ρ) u1 fun y u2 => ∃ z0, f x y = some z0 ∧ OnB z0 fun b => Br b (Ok (mc ρ) u2 fun w u3 => ∃ z, g y w = some z ∧ P z u3) (P (.bl false) u2) := by
  unfold mChain; simp only [ok_bind, ok_lft]
  constructor
  · refine fun h => h.mono fun x u1 z => z.mono fun y u2 z => ?_
    obtain ⟨d, e, p⟩ := z
    cases d with
    | bl b => exact ⟨_, e, b, rfl, by cases b <;> simpa [ok_pure] using p⟩
    | _ => exact (ok_none.mp p).elim
  · refine fun h => h.mono fun x u1 z => z.mono fun y u2 z => ?_
    obtain ⟨_, e, b, rfl, p⟩ := z
    exact ⟨.bl b, e, by cases b <;> simpa [ok_pure] using p⟩
/-! ### += on a name -/
theorem m_ip {W : Wo} {f : Int → Int → Int} : IpM W (ipI f) (int2 fun i j => some (.int (f i j))) := by
  intro p F H u x y a b Q gd rx ry h
  obtain ⟨d, e, _⟩ := lft_some h
  obtain ⟨i, j, rfl, rfl, e2⟩ := int2_some e
  exact ⟨i, j, rx.int_, ry.int_, OpM.ret gd h rfl (.int _)⟩
def addI : D → D → Option D := int2 fun i j => some (.int (i + j))
theorem m_addI {W : Wo} : IpM W (ipI fun i j => i + j) addI := m_ip
theorem m_subI {W : Wo} : IpM W (ipI fun i j => i - j) subD := m_ip
@[simp] theorem s_addI {a b : Int} : addI (.int a) (.int b) = some (.int (a + b)) := rfl
@[simp] theorem ok_aug {ρ : Env} {u : PuS} {i : Nat} {f : D → D → Option D} {m : ME} {P : Fl → PuS → Prop} : Ok (mAug i f m ρ) u P ↔ ∃ x, vSh ρ i = some x ∧ Ok (m ρ) u fun y u1 => ∃ z, f x y = some z ∧ P (.nx (ρ.set i (.sh z))) u1 := by
  unfold mAug; simp only [ok_bind, ok_lft, ok_pure]
/-! ### fresh lists by + -/
def mBinO (f : D → D → Option (List D)) (ma mb : ME) : MA := fun ρ => M.bind (ma ρ) fun x => M.bind (mb ρ) fun y => lft (f x y)
@[simp] theorem ok_binO {ρ : Env} {u : PuS} {f : D → D → Option (List D)} {ma mb : ME} {P : List D → PuS → Prop} : Ok (mBinO f ma mb ρ) u P ↔ Ok (ma ρ) u fun x u1 => Ok (mb ρ) u1 fun y u2 => ∃ z, f x y = some z ∧ P z u2 := by
  unfold mBinO; simp only [ok_bind, ok_lft]
/-! ### while -/
theorem ok_while {t : MT} {mb : MS} {P : Fl → PuS → Prop} (Inv : Nat → Env → PuS → Prop)
    (step : ∀ n ρ u, Inv n ρ u → Ok (t ρ) u fun b u1 => Br b (∃ m, n = m + 1 ∧ Ok (mb ρ) u1 fun f u' => match f with
      | .nx ρ2 => Inv m ρ2 u'
      | .ct ρ2 => Inv m ρ2 u'
      | .bk ρ2 => P (.nx ρ2) u'
      | .rt d => P (.rt d) u'
      | .rl d => P (.rl d) u'
      | .ex ρ2 k ks ds => P (.ex ρ2 k ks ds) u') (P (.nx ρ) u1)) : ∀ (n k : Nat) (ρ : Env) (u : PuS), n < k → Inv n ρ u → Ok (loopW t mb k ρ) u P
  | n, 0, ρ, u, hk, h => by omega
  | n, k + 1, ρ, u, hk, h => by
    unfold loopW
    rw [ok_bind]
    refine (step n ρ u h).mono fun b u1 z => ?_
    cases b with
    | false => simpa [ok_pure] using z
    | true =>
      simp only [if_true, br_t] at z ⊢
      obtain ⟨m, rfl, z⟩ := z
      rw [ok_bind]
      refine z.mono fun f u' z => ?_
      cases f with
      | nx ρ2 => exact ok_while Inv step m k ρ2 u' (by omega) z
      | ct ρ2 => exact ok_while Inv step m k ρ2 u' (by omega) z
      | bk ρ2 => exact ok_pure.mpr z
      | rt d => exact ok_pure.mpr z
      | rl d => exact ok_pure.mpr z
      | ex ρ2 k ks ds => exact ok_pure.mpr z
@[simp] theorem ok_mWhile {n : Nat} {t : MT} {mb : MS} {ρ : Env} {u : PuS} {P : Fl → PuS → Prop} : Ok (mWhile n t mb ρ) u P ↔ Ok (loopW t mb n ρ) u P := Iff.rfl
end Mi

set_option Elab.async false
set_option linter.all false
set_option maxRecDepth 100000
set_option maxHeartbeats 4000000
/-! MiQ: == and != of data that stand for plain things. -/
namespace Mi
open PySem L2
variable [TB : Tabl]
/-- one statement, with what holds behind it -/
theorem seq_cut {m n : MS} {ρ : Env} {u : PuS} {P : Fl → PuS → Prop} (Q : Env → PuS → Prop) (h1 : Ok (m ρ) u fun f u1 => match f with
    | .nx ρ1 => Q ρ1 u1
    | f' => P f' u1) (h2 : ∀ ρ1 u1, Q ρ1 u1 → Ok (n ρ1) u1 P) : Ok (mSeq m n ρ) u P := ok_seq.mpr (h1.mono fun f u1 z => by
  cases f with
  | nx ρ1 => exact h2 _ _ z
  | _ => exact z)
structure EqT {α : Type} [DecidableEq α] (f : α → D) (g : α → PyData) (k : Nat) : Prop where
  to : ∀ x, toPD (f x) = some (g x)
  lay : ∀ x, PyData.canLay0 (g x) = true
  dep : ∀ x, PyData.depth (g x) ≤ k
  eqv : ∀ x y, PyData.eqv (g x) (g y) = decide (x = y)
section
variable {α β : Type} [DecidableEq α] [DecidableEq β] {f : α → D} {g : α → PyData} {k : Nat}
theorem EqT.shaped (h : EqT f g k) (hk : k ≤ 64) (x : α) : SeqAt.shaped (g x) = true := by
  unfold SeqAt.shaped
  rw [h.lay x, decide_eq_true (Nat.le_trans (h.dep x) hk)]; rfl
theorem EqT.eqD (h : EqT f g k) (hk : k ≤ 64) (x y : α) : Mi.eqD (f x) (f y) = some (decide (x = y)) := by
  unfold Mi.eqD
  rw [h.to, h.to]
  show (if SeqAt.shaped (g x) = true ∧ SeqAt.shaped (g y) = true then some (PyData.eqv (g x) (g y)) else none) = _
  rw [if_pos ⟨h.shaped hk x, h.shaped hk y⟩, h.eqv]
theorem EqT.ne (h : EqT f g k) (hk : k ≤ 64) (x y : α) : neMD (f x) (f y) = some (.bl (!decide (x = y))) := by unfold neMD; rw [h.eqD hk]; rfl
theorem EqT.int : EqT D.int PyData.int 0 := ⟨fun _ => rfl, fun _ => rfl, fun _ => Nat.le_refl 0, fun x y => by
  show (x == y) = _
  by_cases h : x = y <;> simp [h]⟩
theorem EqT.bl : EqT D.bl PyData.bool 0 := ⟨fun _ => rfl, fun _ => rfl, fun _ => Nat.le_refl 0, fun x y => by
  show (x == y) = _
  by_cases h : x = y <;> simp [h]⟩
theorem EqT.toPDs (h : EqT f g k) : ∀ xs : List α, Mi.toPDs (xs.map f) = some (xs.map g)
  | [] => rfl
  | x :: xs => by
    show (match toPD (f x), Mi.toPDs (xs.map f) with
      | some a, some b => some (a :: b)
      | _, _ => none) = _
    rw [h.toPDs xs, h.to]; rfl
theorem EqT.lays (h : EqT f g k) : ∀ xs : List α, PyData.canLayAll0 (xs.map g) = true
  | [] => rfl
  | x :: xs => by show (PyData.canLay0 (g x) && _) = true; rw [h.lays xs, h.lay]; rfl
theorem EqT.deps (h : EqT f g k) : ∀ xs : List α, PyData.depthAll (xs.map g) ≤ k
  | [] => Nat.zero_le _
  | x :: xs => Nat.max_le.mpr ⟨h.dep x, h.deps xs⟩
theorem EqT.eqvs (h : EqT f g k) : ∀ xs ys : List α, PyData.eqvAll (xs.map g) (ys.map g) = decide (xs = ys)
  | [], [] => rfl
  | [], _ :: _ => rfl
  | _ :: _, [] => rfl
  | x :: xs, y :: ys => by
    show (PyData.eqv (g x) (g y) && PyData.eqvAll (xs.map g) (ys.map g)) = _
    rw [h.eqvs xs ys, h.eqv]
    by_cases h1 : x = y <;> by_cases h2 : xs = ys <;> simp [h1, h2]
theorem EqT.lst (h : EqT f g k) : EqT (fun xs : List α => .lst (xs.map f)) (fun xs => .list (xs.map g)) (k + 1) :=
  ⟨fun xs => by show (Mi.toPDs (xs.map f)).map PyData.list = _; rw [h.toPDs]; rfl, fun xs => h.lays xs, fun xs => Nat.succ_le_succ (h.deps xs), fun xs ys => h.eqvs xs ys⟩
theorem EqT.tup (h : EqT f g k) : EqT (fun xs : List α => .tup (xs.map f)) (fun xs => .tuple (xs.map g)) (k + 1) :=
  ⟨fun xs => by show (Mi.toPDs (xs.map f)).map PyData.tuple = _; rw [h.toPDs]; rfl, fun xs => h.lays xs, fun xs => Nat.succ_le_succ (h.deps xs), fun xs ys => h.eqvs xs ys⟩
/-- pairs -/
theorem EqT.pair {f' : β → D} {g' : β → PyData} {k' : Nat} (h : EqT f g k) (h' : EqT f' g' k') : EqT (fun q : α × β => .tup [f q.1, f' q.2]) (fun q => .tuple [g q.1, g' q.2]) (max k k' + 1) :=
  ⟨fun q => by
    show (match toPD (f q.1), (match toPD (f' q.2), Mi.toPDs [] with
      | some a, some b => some (a :: b)
      | _, _ => none) with
      | some a, some b => some (a :: b)
      | _, _ => none).map PyData.tuple = _
    rw [h.to, h'.to]; rfl,
   fun q => by show (PyData.canLay0 (g q.1) && (PyData.canLay0 (g' q.2) && true)) = true; rw [h.lay, h'.lay]; rfl,
   fun q => by
    show max (PyData.depth (g q.1)) (max (PyData.depth (g' q.2)) 0) + 1 ≤ _
    have := h.dep q.1
    have := h'.dep q.2
    omega,
   fun q r => by
    show (PyData.eqv (g q.1) (g r.1) && (PyData.eqv (g' q.2) (g' r.2) && true)) = _
    rw [h.eqv, h'.eqv]
    obtain ⟨a, b⟩ := q
    obtain ⟨c, d⟩ := r
    by_cases h1 : a = c <;> by_cases h2 : b = d <;> simp [h1, h2]⟩
/-- a thing or None -/
def opD (f : α → D) : Option α → D
  | some x => f x
  | none => .non
def opP (g : α → PyData) : Option α → PyData
  | some x => g x
  | none => .none
theorem eqv_none_l {p : PyData} (h : p ≠ .none) : PyData.eqv .none p = false := by
  cases p <;> first | exact absurd rfl h | rfl
theorem eqv_none_r {p : PyData} (h : p ≠ .none) : PyData.eqv p .none = false := by
  cases p <;> first | exact absurd rfl h | rfl
theorem EqT.opt (h : EqT f g k) (hn : ∀ x, g x ≠ .none) : EqT (opD f) (opP g) k :=
  ⟨fun x => by cases x with
    | none => rfl
    | some x => exact h.to x,
   fun x => by cases x with
    | none => rfl
    | some x => exact h.lay x,
   fun x => by cases x with
    | none => exact Nat.zero_le _
    | some x => exact h.dep x,
   fun x y => by
    cases x with
    | none =>
      cases y with
      | none => rfl
      | some y => show PyData.eqv .none (g y) = _; rw [eqv_none_l (hn y)]; simp
    | some x =>
      cases y with
      | none => show PyData.eqv (g x) .none = _; rw [eqv_none_r (hn x)]; simp
      | some y => show PyData.eqv (g x) (g y) = _; rw [h.eqv]; by_cases e : x = y <;> simp [e]⟩
/-- rows of ints or None -/
theorem EqT.row : EqT (opD fun xs : List Int => .tup (xs.map D.int)) (opP fun xs => .tuple (xs.map PyData.int)) 1 := EqT.opt (EqT.tup EqT.int) fun x h => by cases h
end
end Mi

set_option Elab.async false
set_option linter.all false
set_option maxRecDepth 100000
set_option maxHeartbeats 4000000
/-! MiR: list(enumerate(x)): an iterator whose tuples are kept. -/
namespace PySem
open PySem PySem.Spec PySem.Calls PyProof.Rows
structure OutG (P : Nat → Array Value → Prop) (lo : Addr) (h : Heap) (as : List Addr) : Prop where
  rise : as.Pairwise (· < ·)
  above : ∀ a ∈ as, lo < a
  tups : ∀ (j : Nat) (a : Addr), as[j]? = some a → ∃ vals, P j vals ∧ h.get? a = some { cls := .type "tuple", data := .seq vals }
section
variable {prog : Program} {w : World} {A : Around} {s : Shared} {R : Result → Shared → Prop} {I S : Addr} {fp wr : List Addr} {n : Nat} {P : Nat → Array Value → Prop} {St : Nat → Heap → Prop}
theorem OutG.there {h : Heap} {as : List Addr} (g : OutG P S h as) {a : Addr} (ha : a ∈ as) : a < h.objs.size := by
  obtain ⟨j, hj⟩ := List.mem_iff_getElem?.mp ha
  obtain ⟨_, _, e⟩ := g.tups j a hj
  exact Heap.lt_size e
end
/-! ### enumerate -/
section
variable {prog : Program} {w : World} {A : Around} {E : Value → Shared → Prop} {s : Shared}
end
end PySem


set_option Elab.async false
set_option linter.all false
set_option maxRecDepth 100000
set_option maxHeartbeats 4000000
/-! MiT: reversed, range downwards, sorted ints, f-strings. -/
namespace Mi
open PySem PySem.Spec PyProof.Rows L2
variable [TB : Tabl]
/-! ### reversed(list) -/
/-! ### range(a, b, -1) -/
/-! ### sorted ints -/
theorem bb_sorted : bootBuiltins "sorted" = some (.builtin "sorted") := by decide +kernel
/-! ### f-strings -/
def fmtD : D → Option D
  | .str y => if y.length ≤ 100000 then some (.str y) else none
  | .int i => if i.natAbs.log2 < 1920 then some (.str (toString i)) else none
  | _ => none
def mFmt (m : ME) : ME := fun ρ => M.bind (m ρ) fun d => lft (fmtD d)
theorem dFmt {X : Cx} {c : Cf} {e : Expr} {m : ME} {pos : Pos} (he : DE X c e m) : DE X c (.FormattedValue e (-1) none pos) (mFmt m) :=
  (pe_fmt he).imp fun σ H Q ⟨F, u, ρ, S, h⟩ => ⟨F, u, ρ, S, (After.split h).imp fun d u1 F1 H1 _ s1 g1 h1 v rv => by
    obtain ⟨z, e1, h2⟩ := lft_some h1
    unfold fmtD at e1
    cases d with
    | str y =>
      simp only [] at e1
      split at e1
      · rename_i hl
        cases e1
        exact .inl ⟨y, rv.str_, sz5 hl, After.now g1 h2 _ (.str y)⟩
      · cases e1
    | int i =>
      simp only [] at e1
      split at e1
      · rename_i hl
        cases e1
        exact .inr ⟨i, rv.int_, hl, After.now g1 h2 _ (.str _)⟩
      · cases e1
    | _ => cases e1⟩
def mJs : List ME → Str → Env → M Str
  | [], acc, _ => M.pure acc
  | m :: ms, acc, ρ => M.bind (m ρ) fun d => match d with
    | .str y => if (acc ++ y).length ≤ 100000 then mJs ms (acc ++ y) ρ else lft none
    | _ => lft none
def mFs (ms : List ME) : ME := fun ρ => M.bind (mJs ms Str.empty ρ) fun s => M.pure (.str s)
inductive DJ (X : Cx) (c : Cf) : List Expr → List ME → Prop
  | nil : DJ X c [] []
  | cons {e : Expr} {m : ME} {es : List Expr} {ms : List ME} (h : DE X c e m) (r : DJ X c es ms) : DJ X c (e :: es) (m :: ms)
theorem DJ.pj {X : Cx} {c : Cf} {es : List Expr} {ms : List ME} (h : DJ X c es ms) : PJ X es (ms.map (rdE c)) := by
  induction h with
  | nil => exact .nil
  | cons h r ih => exact .cons h ih
theorem rdJs {c : Cf} : ∀ (ms : List ME) (acc : Str) (σ : L2.St) (H : Hp) (Q : Str → Hp → Prop) (F : Hp) (u : PuS) (ρ : Env), Sta c u F H σ ρ → After c.p F H (mJs ms acc ρ u) (fun s _ _ H' => Q s H') → tJs (ms.map (rdE c)) acc σ H Q
  | [], acc, σ, H, Q, F, u, ρ, S, h => After.now S.gd h
  | m :: ms, acc, σ, H, Q, F, u, ρ, S, h => ⟨F, u, ρ, S, (After.split h).imp fun d u1 F1 H1 _ s1 g1 h1 v rv => by
      cases d with
      | str y =>
        have h2 : After c.p F1 H1 ((if (acc ++ y).length ≤ 100000 then mJs ms (acc ++ y) ρ else lft none) u1) (fun s _ _ H' => Q s H') := h1
        by_cases hl : (acc ++ y).length ≤ 100000
        · rw [if_pos hl] at h2
          exact ⟨y, rv.str_, sz5 hl, rdJs ms (acc ++ y) σ H1 Q F1 u1 ρ (S.step s1 g1) h2⟩
        · rw [if_neg hl] at h2; exact False.elim h2
      | _ => exact False.elim h1⟩
theorem dFs {X : Cx} {c : Cf} {v1 v2 : Expr} {rest : List Expr} {ms : List ME} {pos : Pos} (h : DJ X c (v1 :: v2 :: rest) ms) : DE X c (.JoinedStr (v1 :: v2 :: rest) pos) (mFs ms) :=
  (pe_joined h.pj).imp fun σ H Q ⟨F, u, ρ, S, h⟩ => rdJs ms _ σ H _ F u ρ S ((After.split h).imp fun s u1 F1 H1 _ s1 g1 h1 => After.now g1 h1 _ (.str s))
@[simp] theorem ok_Fmt {ρ : Env} {u : PuS} {m : ME} {P : D → PuS → Prop} : Ok (mFmt m ρ) u P ↔ Ok (m ρ) u fun d u1 => ∃ z, fmtD d = some z ∧ P z u1 := by unfold mFmt; simp only [ok_bind, ok_lft]
@[simp] theorem ok_Fs {ρ : Env} {u : PuS} {ms : List ME} {P : D → PuS → Prop} : Ok (mFs ms ρ) u P ↔ Ok (mJs ms Str.empty ρ) u fun s u1 => P (.str s) u1 := by unfold mFs; simp only [ok_bind, ok_pure]
@[simp] theorem ok_Js0 {ρ : Env} {u : PuS} {acc : Str} {P : Str → PuS → Prop} : Ok (mJs [] acc ρ) u P ↔ P acc u := ok_pure
@[simp] theorem ok_Js {ρ : Env} {u : PuS} {acc : Str} {m : ME} {ms : List ME} {P : Str → PuS → Prop} : Ok (mJs (m :: ms) acc ρ) u P ↔ Ok (m ρ) u fun d u1 => ∃ y, d = .str y ∧ (acc ++ y).length ≤ 100000 ∧ Ok (mJs ms (acc ++ y) ρ) u1 P := by
  show Ok (M.bind _ _) u P ↔ _
  rw [ok_bind]
  constructor
  · refine fun h => h.mono fun d u1 z => ?_
    cases d with
    | str y =>
      by_cases hl : (acc ++ y).length ≤ 100000
      · simp only [hl, if_true] at z; exact ⟨y, rfl, hl, z⟩
      · simp only [hl, if_false] at z; exact (ok_none.mp z).elim
    | _ => exact (ok_none.mp z).elim
  · refine fun h => h.mono fun d u1 z => ?_
    obtain ⟨y, rfl, hl, z⟩ := z
    simp only [hl, if_true]; exact z
end Mi

set_option Elab.async false
set_option linter.all false
set_option maxRecDepth 100000
set_option maxHeartbeats 4000000
namespace Mi
open PySem L2
variable [TB : Tabl]
/-- one statement; what follows and what is wanted are hidden -/
theorem seq_go {m n : MS} {ρ : Env} {u : PuS} {P : Fl → PuS → Prop} (h : ∀ (K : Env → PuS → Prop) (R : Fl → PuS → Prop), (∀ ρ1 u1, Ok (n ρ1) u1 P → K ρ1 u1) → (∀ f u1, P f u1 → R f u1) → Ok (m ρ) u fun f u1 => match f with
    | .nx ρ1 => K ρ1 u1
    | f' => R f' u1) : Ok (mSeq m n ρ) u P := ok_seq.mpr ((h (fun ρ1 u1 => Ok (n ρ1) u1 P) P (fun _ _ => id) (fun _ _ => id)).mono fun f u1 z => by
  cases f with
  | nx ρ1 => exact z
  | _ => exact z)
/-- a statement; what is wanted is hidden -/
theorem st_go {m : MS} {ρ : Env} {u : PuS} {P : Fl → PuS → Prop} (h : ∀ (R : Fl → PuS → Prop), (∀ f u1, P f u1 → R f u1) → Ok (m ρ) u R) : Ok (m ρ) u P := h P fun _ _ => id
end Mi

set_option Elab.async false
set_option linter.all false
set_option maxRecDepth 100000
set_option maxHeartbeats 4000000
/-! MiV: a, b, c, d = .., fresh lists among them. -/
namespace Mi
open PySem PySem.Spec PyProof.Rows L2
variable [TB : Tabl]
section
variable {X : Cx} {c : Cf} {pos : Pos} {ms : MM}
end
@[simp] theorem s_setAll4 {k l m n : Nat} {s t r q : Sd} {ρ : Env} : setAll [k, l, m, n] [s, t, r, q] ρ = (((ρ.set k s).set l t).set m r).set n q := rfl
@[simp] theorem s_setAll5 {k l m n o : Nat} {s t r q p : Sd} {ρ : Env} : setAll [k, l, m, n, o] [s, t, r, q, p] ρ = ((((ρ.set k s).set l t).set m r).set n q).set o p := rfl
end Mi


set_option Elab.async false
set_option linter.all false
set_option maxRecDepth 100000
set_option maxHeartbeats 4000000
/-! MiY: == of equal tuples that hold objects with an own ==. -/
namespace Mi
open PySem PySem.Spec PyProof.Rows L2
variable [TB : Tabl]
theorem Gd.ext {p : Addr} {u : PuS} {F H H' : Hp} (g : Gd p u F H) (e : L2.Ext H H') : Gd p u F H' := ⟨fun a o h => e a o (g.ex a o h), e _ _ g.pu, g.off, g.nt, g.tb.ext e, g.hp⟩
section
variable {X : Cx} {W : Wo} {k : Nat} {f C : Addr} {fd : FuncData} {ps : List Str} {mf : List D → M D} {b : D → Bool}
end
end Mi


set_option Elab.async false
set_option linter.all false
set_option maxRecDepth 100000
set_option maxHeartbeats 4000000
/-! MiP: facts about own methods. -/
namespace Mi
open PySem PySem.Spec PyProof.Rows L2 He
variable [TB : Tabl]
/-! ### facts -/
structure OwnM (K : PySem.W.Frag) (C f : Addr) (n : Str) : Prop where
  has : PySem.W.findIn K (.ref C) n = some (some (.ref f))
  fn : PySem.W.isFn K (.ref f) = true
theorem own_ok {K : PySem.W.Frag} {c n : Str} (h : (Ft.raw (ownB c n)).ok K = true) : OwnM K (ga K c) ((Pl.meth c n).ad K) n := by
  obtain ⟨h1, h2⟩ := ba h
  exact ⟨eqO_ok h1, h2⟩
/-! checks of own == and other own operators, of truth -/
end Mi

set_option Elab.async false
set_option linter.all false
set_option maxRecDepth 100000
set_option maxHeartbeats 4000000
/-! MiO: in, [..] and the binary operators by own methods. -/
namespace Mi
open PySem PySem.Spec PyProof.Rows L2 He
variable [TB : Tabl]
/-! ### in -/
/-- the right operand is an instance of the class at C, then its own in -/
def rIn (C : Addr) (g : Bool → Bool) (sp : Sp) : R2 := fun x y H Q => ∃ b dy gs, y = .ref b ∧ H b = some (.ins C dy gs) ∧ sp [.ref b, x] H (fun v H' => ∃ c, v = .bl c ∧ Q (.bl (g c)) H') E0
section
variable {X : Cx} {k : Nat} {f C : Addr} {fd : FuncData} {ps : List Str} {sp : Sp}
end
/-! ### mirrors -/
section
variable {X : Cx} {c : Cf} {k : Nat} {f : Addr} {fd : FuncData} {ps : List Str} {mf : List D → M D} {ck : Str} {a b : Expr} {ma mb : ME} {pos : Pos}
end
/-! ### wp -/
section
variable {ρ : Env} {u : PuS} {P : D → PuS → Prop} {k : Str} {mf : List D → M D} {ma mb : ME}
end
end Mi


set_option Elab.async false
set_option linter.all false
set_option maxRecDepth 100000
set_option maxHeartbeats 4000000
/-! MiJ: max(xs, default=d) of ints; [x] * n as a fresh list. -/
namespace L2
open PySem PySem.Spec PyProof.Rows
section
variable {X : Cx}
theorem dpAll_ints {K : PySem.W.Frag} {H : Hp} : ∀ ns : List Int, DpAll K H (ns.map V.int) (ns.map PyData.int)
  | [] => .nil
  | n :: ns => .cons (.int n) (dpAll_ints ns)
end
end L2
namespace Mi
open PySem PySem.Spec PyProof.Rows L2
variable [TB : Tabl]
theorem room65' {k : Nat} {A : Around} (r : Room k A) : A.units + 65 < cLine := by have := r.un; omega
/-! ### int of a bool -/
/-! ### [x] * n -/
def repO : D → D → Option (List D)
  | .lst a, .int k => if k ≤ 100000 ∧ -100000 ≤ k ∧ a.length * k.toNat ≤ 100000 then some (List.replicate k.toNat a).flatten else none
  | _, _ => none
theorem dRepO {X : Cx} {c : Cf} {pos : Pos} {a b : Expr} {ma mb : ME} (ha : DE X c a ma) (hb : DE X c b mb) : DL X c (.BinOp a .Mult b pos) (mBinO repO ma mb) :=
  (pe_op op_rep ha hb).imp fun σ H Q ⟨F, u, ρ, S, h⟩ => ⟨F, u, ρ, S, (After.split h).imp fun x u1 F1 H1 _ s1 g1 h1 v rv => ⟨F1, u1, ρ, S.step s1 g1, (After.split h1).imp fun y u2 F2 H2 _ s2 g2 h2 w rw => by
    obtain ⟨ds, e, h3⟩ := lft_some h2
    unfold repO at e
    split at e
    · rename_i xs k _h _h2
      split at e
      · rename_i hl
        cases e
        obtain ⟨p1, v1, rfl, f1, q1⟩ := (rv.mono s2.ef).lst_
        refine ⟨p1, k, v1, rfl, rw.int_, g2.ex _ _ f1, by omega, by omega, sz5 (by rw [q1.1]; exact hl.2.2), fun q hq => ?_⟩
        exact h3 _ _ (Stp.own hq) (g2.own hq) q _ (g2.fresh hq) (s1.back g1.ne (s2.back g2.ne hq)) upd_same (q1.rep _)
      · cases e
    · cases e⟩⟩
end Mi

set_option Elab.async false
set_option linter.all false
set_option maxRecDepth 100000
set_option maxHeartbeats 4000000
/-! MiI: repr(..), str(..) by own methods, sep.join(list of texts). -/
namespace Mi
open PySem PySem.Spec PyProof.Rows L2 He
variable [TB : Tabl]
/-! ### str of an instance -/
theorem str_K {prog : Program} {w : World} {A : Around} {E : Value → Shared → Prop} {s : Shared} {K : PySem.W.Frag} {x C L f : Addr} {h₀ : Heap} {m : Str → Option Value} {ox : Obj} {od : Option Obj} {Q : Value → Shared → Prop} (hu : A.in1.in1.units < cLine) (F : Fr h₀ L s.heap m) (X₀ : K.In h₀) (I : PySem.W.InstAt s.heap x ox C od) (hs : PySem.W.findIn K (.ref C) "__str__" = some (some (.ref f))) (hf : PySem.W.isFn K (.ref f) = true)
    (h : wpAny (model prog w) A.in1.in1 (call (.ref f) [.ref x]) (PySem.W.StrBack Q) E s) : wpAny (model prog w) A (call (.type "str") [.ref x]) Q E s := by
  refine callType_codes (Q₁ := fun obj s₁ => s₁.TypeIs obj "str" ∧ Q obj s₁) PySem.F.called_str (PySem.F.typeCall_str_1 _) PySem.F.entry_object_init ?_ fun obj s₁ h₁ =>
    ⟨h₁.1, PySem.F.args_object_init_2 obj _, object_init_meets PySem.F.called_str.init.lookup PySem.F.called_str.made (by decide) prog w A.in1 _ s₁ ⟨h₁.1, rfl, h₁.2⟩⟩
  refine codeAny_call_builtin PySem.F.called_str.plain PySem.F.entry_str_new (wpAny_of_eq (PySem.F.newCall_str_1 _) ?_)
  rw [str_new_tree]
  refine wpAny_bind (wpAny_pure ?_)
  refine wpAny_bind (wpAny_of_eq isSubtype_str_str ?_)
  refine wpAny_bind ?_
  unfold Builtin.Str.strOf
  show wpAny _ _ (do
    cRoomFor "str" [.ref x]
    let some r ← callSpecial? (.ref x) "__str__" | unsupported "internal:no-__str__"
    if (← asStr? r).isNone then
      rule "str-of.not-a-str"; raiseError "TypeError" s!"__str__ returned non-string (type {← typeNameOf r})"
    pure r) _ _ _
  refine wpAny_bind (wpAny_cRoomFor hu ?_)
  refine wpAny_bind (m := callSpecial? (.ref x) (Str.ofString "__str__")) (PySem.W.special_fn (X₀.keeps F.keep) I hs (beq_iff_eq.mp hf) (wpAny_mono h (fun r s' hr => ?_) fun _ _ y => y))
  cases r <;> first | exact hr.elim | skip
  refine wpAny_bind (wpAny_pure ?_)
  refine wpAny_pure ?_
  refine wpAny_pure ?_
  exact ⟨typeIs_str _ _ _, hr⟩
/-! ### repr, str of what is an instance, None or a truth -/
def rTxt (C : Addr) (sp : Sp) : List V → Hp → VK → Prop := fun xs H Q => ∃ a dx fs, xs = [.ref a] ∧ H a = some (.ins C dx fs) ∧ sp [.ref a] H (fun v H' => ∃ n : Str, v = .str n ∧ Q (.str n) H') E0
section
variable {X : Cx} {c : Cf} {k : Nat} {f C : Addr} {fd : FuncData} {ps : List Str} {sp : Sp} {mf : List D → M D} {ck : Str} {a : Expr} {ma : ME} {pos : Pos}
theorem call_strOb (G : FnOk X.prog X.w X.K X.mg X.base CX0 k f fd ps sp) (hr : Room (k + 2) X.A) (hb : Binds X.K fd ps []) (hc : OwnM X.K C f "__str__") : CallR X (.type "str") (rTxt C sp) := by
  intro pins s σ H vs us Q I r h
  obtain ⟨a, dx, fs, rfl, ha, q⟩ := h
  obtain ⟨u1, rfl, ru⟩ := Vals.one r
  cases ru
  obtain ⟨mA, J, _⟩ := ins_get I.hok ha
  obtain ⟨od, J, _⟩ := J.look
  obtain ⟨m, hF⟩ := I.fr
  refine str_K hr.in1.in1.units0 hF I.ok.mod.kin J hc.has hc.fn ?_
  refine wpAny_mono (call_at (vs := [.ref a]) G hr.in1.in1 rfl hb I (.cons rfl .nil) q) (fun v s' z => ?_) fun _ _ z => z
  obtain ⟨w, H', I', rw, n, ew, qq⟩ := z
  subst ew
  obtain ⟨t, rfl⟩ := rw
  exact ⟨.str n, H', I', ⟨_, rfl⟩, qq⟩
def bTx (b : Bool) : Str := if b then "True" else "False"
def rRep (C : Addr) (sp : Sp) : List V → Hp → VK → Prop := fun xs H Q => rTxt C sp xs H Q ∨ (xs = [.non] ∧ Q (.str "None") H) ∨ ∃ b, xs = [.bl b] ∧ Q (.str (bTx b)) H
def mTxt (mf : List D → M D) (ds : List D) : M D := M.bind (mf ds) fun r => match r with
  | .str n => M.pure (.str n)
  | _ => lft none
/-- str of an instance of the class k -/
def mStrO (k : Str) (mf : List D → M D) (mo : ME) : ME := fun ρ => M.bind (mo ρ) fun d => match d with
  | .obj c ks ds => if c = k then mTxt mf [.obj c ks ds] else lft none
  | _ => lft none
theorem txt_go {c : Cf} {F1 H1 : Hp} {u1 : PuS} {p1 : Addr} {dx : Addr} {vs : List V} {ks : List Str} {ds : List D} {Q : VK} (g1 : Gd c.p u1 F1 H1) (h3 : F1 p1 = some (.ins (c.W.cl ck) dx (ks.zip vs))) (rv : Rep c.W c.p F1 (.ref p1) (.obj ck ks ds))
    (h1 : After c.p F1 H1 (mTxt mf [.obj ck ks ds] u1) (fun d _ F' H' => ∀ v, Rep c.W c.p F' v d → Q v H')) : rTxt (c.W.cl ck) (spM c.W 1 mf) [.ref p1] H1 Q := by
  refine ⟨p1, dx, _, rfl, g1.ex _ _ h3, rfl, c.p, F1, u1, [_], g1, Reps.cons rv Reps.nil, (After.split h1).imp fun d u3 F3 H3 _ s3 g3 h5 z rz => ?_⟩
  split at h5
  · rename_i n _h
    have h6 : After c.p F3 H3 (some (D.str n, u3)) (fun d _ F' H' => ∀ v, Rep c.W c.p F' v d → Q v H') := h5
    exact ⟨n, rz.str_, After.now g3 h6 _ (.str n)⟩
  · exact False.elim h5
theorem dStrO {p0 : Pos} (G : FnOk X.prog X.w X.K X.mg X.base CX0 k f fd ps (spM c.W 1 mf)) (hr : Room (k + 2) X.A) (hb : Binds X.K fd ps []) (hc : OwnM X.K (c.W.cl ck) f "__str__")
    (hg : Gl X "str") (hm : X.mg "str" = none) (ha : DE X c a ma) (he : starEach [a] X.env = (false, eval a X.env) :: starEach [] X.env := by rfl) : DE X c (.Call (.Name "str" p0) [a] [] pos) (mStrO ck mf ma) :=
  (pe_callTy (call_strOb G hr hb hc) hg hm bb_str (pa_cons ha pa_nil he) (by decide) (by decide) he rfl).imp fun σ H Q ⟨F, u, ρ, S, h⟩ =>
    ⟨F, u, ρ, S, (After.split h).imp fun x u1 F1 H1 _ s1 g1 h1 v rv => by
      cases x with
      | obj cc ks ds =>
        have h2 : After c.p F1 H1 ((if cc = ck then mTxt mf [.obj cc ks ds] else lft none) u1) (fun d _ F' H' => ∀ v, Rep c.W c.p F' v d → Q v H') := h1
        by_cases hh : cc = ck
        · subst hh
          rw [if_pos rfl] at h2
          obtain ⟨p1, dx, vs, rfl, h3, _⟩ := id rv.obj_
          exact txt_go g1 h3 rv h2
        · rw [if_neg hh] at h2; exact False.elim h2
      | _ => exact False.elim h1⟩
/-! ### join -/
def strsD : List D → Option (List Str)
  | [] => some []
  | .str i :: ds => (strsD ds).map (i :: ·)
  | _ => none
theorem strsD_rep {W : Wo} {p : Addr} {F : Hp} : ∀ {vs : List V} {ds : List D} {ns : List Str}, Reps W p F vs ds → strsD ds = some ns → vs = ns.map V.str
  | vs, [], ns, r, h => by
    cases h
    exact r.none
  | vs, d :: ds, ns, r, h => by
    obtain ⟨v, vr, rfl, r1, r2⟩ := r.uncons
    cases d with
    | str i =>
      have h' : (strsD ds).map (i :: ·) = some ns := h
      cases e : strsD ds with
      | none => rw [e] at h'; cases h'
      | some ms =>
        rw [e] at h'
        cases h'
        rw [r1.str_, strsD_rep r2 e]
        rfl
    | _ => cases h
theorem strsD_map (ns : List Str) : strsD (ns.map D.str) = some ns := by
  induction ns with
  | nil => rfl
  | cons n ns ih => show (strsD (ns.map D.str)).map (n :: ·) = _; rw [ih]; rfl
def joinD (a : Str) : D → Option D
  | .lst xs => (strsD xs).bind fun ys => if (ys.map (·.length)).sum + ys.length * a.length ≤ 100000 then some (.str (Txt.join a ys)) else none
  | _ => none
def mJoin (mo me : ME) : ME := fun ρ => M.bind (mo ρ) fun d => match d with
  | .str a => M.bind (me ρ) fun y => lft (joinD a y)
  | _ => lft none
theorem dJoin {o e : Expr} {mo me : ME} {apos : Pos} (ho : DE X c o mo) (he : DE X c e me) (hK : X.K = c.W.K := by rfl) (hs : starEach [e] X.env = [(false, eval e X.env)] := by rfl) (hbase : attributeBase o "join" X.env (eval o X.env) = eval o X.env := by rfl) (hline : (apos.endLine == pos.line) = true := by rfl) :
    DE X c (.Call (.Attribute o "join" apos) [e] [] pos) (mJoin mo me) :=
  (pe_join ho he hs hbase hline).imp fun σ H Q ⟨F, u, ρ, S, h⟩ => ⟨F, u, ρ, S, (After.split h).imp fun x u1 F1 H1 _ s1 g1 h1 v rv => by
    cases x with
    | str a =>
      have h2 : After c.p F1 H1 (M.bind (me ρ) (fun y => lft (joinD a y)) u1) (fun d _ F' H' => ∀ v, Rep c.W c.p F' v d → Q v H') := h1
      refine ⟨⟨a, rv.str_⟩, F1, u1, ρ, S.step s1 g1, (After.split h2).imp fun y u2 F2 H2 _ s2 g2 h3 w rw => ?_⟩
      obtain ⟨z, e1, h4⟩ := lft_some h3
      cases y with
      | lst xs =>
        have e2 : (strsD xs).bind (fun ys => if (ys.map (·.length)).sum + ys.length * a.length ≤ 100000 then some (D.str (Txt.join a ys)) else none) = some z := e1
        cases e3 : strsD xs with
        | none => rw [e3] at e2; cases e2
        | some ys =>
          rw [e3] at e2
          simp only [Option.bind_some] at e2
          split at e2
          · rename_i hl
            cases e2
            obtain ⟨q, ws, rfl, hq, rs⟩ := rw.lst_
            have ew := strsD_rep rs e3
            subst ew
            exact ⟨a, q, ys, rv.str_, rfl, .inl (by rw [hK]; exact SqL.of (g2.ex _ _ hq)), by omega, After.now g2 h4 _ (.str _)⟩
          · cases e2
      | _ => cases e1
    | _ => exact False.elim h1⟩
end
@[simp] theorem ok_txt {mf : List D → M D} {ds : List D} {u : PuS} {P : D → PuS → Prop} : Ok (mTxt mf ds) u P ↔ Ok (mf ds) u fun d u1 => ∃ n, d = .str n ∧ P (.str n) u1 := by
  unfold mTxt
  rw [ok_bind]
  constructor
  · refine fun h => h.mono fun d u1 z => ?_
    cases d with
    | str y => exact ⟨y, rfl, ok_pure.mp z⟩
    | _ => exact (ok_none.mp z).elim
  · refine fun h => h.mono fun d u1 z => ?_
    obtain ⟨n, rfl, z⟩ := z
    exact ok_pure.mpr z
theorem ok_strO {k : Str} {mf : List D → M D} {mo : ME} {ρ : Env} {u : PuS} {P : D → PuS → Prop} : Ok (mStrO k mf mo ρ) u P ↔ Ok (mo ρ) u fun d u1 => Ok ((match d with
  | .obj c ks ds => if c = k then mTxt mf [.obj c ks ds] else lft none
  | _ => lft none : M D)) u1 P := by
  unfold mStrO
  rw [ok_bind]
theorem ok_join {mo me : ME} {ρ : Env} {u : PuS} {P : D → PuS → Prop} : Ok (mJoin mo me ρ) u P ↔ Ok (mo ρ) u fun d u1 => ∃ a, d = .str a ∧ Ok (me ρ) u1 fun y u2 => ∃ z, joinD a y = some z ∧ P z u2 := by
  unfold mJoin
  rw [ok_bind]
  constructor
  · refine fun h => h.mono fun d u1 z => ?_
    cases d with
    | str y => exact ⟨y, rfl, by simpa using z⟩
    | _ => exact (ok_none.mp z).elim
  · refine fun h => h.mono fun d u1 z => ?_
    obtain ⟨n, rfl, z⟩ := z
    simpa using z
/-! ### == of texts -/
def neSD : D → D → Option D
  | .str a, .str b => some (.bl (!decide (a = b)))
  | _, _ => none
theorem m_neS {W : Wo} : OpM W rNe neSD := by
  intro p F H u x y a b Q gd rx ry h
  obtain ⟨d, e, _⟩ := lft_some h
  have e0 := e
  unfold neSD at e
  split at e
  · cases e
    rename_i a b _hh
    rw [rx.str_, ry.str_]
    refine ⟨rfl, ?_⟩
    have e1 : decide (V.str a = V.str b) = decide (a = b) := by rw [Bool.eq_iff_iff]; simp
    rw [e1]
    exact OpM.ret gd h e0 (.bl _)
  · cases e
@[simp] theorem s_neS' {a b : Str} : neSD (.str a) (.str b) = some (.bl (!decide (a = b))) := rfl
/-! ### recursion -/
end Mi






set_option Elab.async false
set_option linter.all false
set_option maxRecDepth 100000
set_option maxHeartbeats 4000000
/-! MiTx: s.split(t), s.partition(t), int(text); C(k = v); class methods without a star. -/
namespace Mi
open PySem PySem.Spec PyProof.Rows L2 He StX
variable [TB : Tabl]
/-- s.m(e), s a text -/
def mS1 (f : Str → D → Option D) (mo me : ME) : ME := fun ρ => M.bind (mo ρ) fun d => match d with
  | .str a => M.bind (me ρ) fun y => lft (f a y)
  | _ => lft none
def splD (a : Str) : D → Option D
  | .str b => if (b.length == 0) = false ∧ a.length ≤ 90000 then some (.lst ((Txt.split a b).map D.str)) else none
  | _ => none
def prtD (a : Str) : D → Option D
  | .str b => if (b.length == 0) = false ∧ a.length ≤ 90000 then some (.tup [.str (Txt.partition a b).1, .str (Txt.partition a b).2.1, .str (Txt.partition a b).2.2]) else none
  | _ => none
theorem reps_strs {W : Wo} {p : Addr} {F : Hp} : ∀ ys : List Str, Reps W p F (ys.map V.str) (ys.map D.str)
  | [] => Reps.nil
  | y :: ys => Reps.cons (.str y) (reps_strs ys)
section
variable {X : Cx} {c : Cf} {o e : Expr} {mo me : ME} {pos apos : Pos}
theorem dSplit (ho : DE X c o mo) (he : DE X c e me) (hs : starEach [e] X.env = [(false, eval e X.env)] := by rfl) (hbase : attributeBase o "split" X.env (eval o X.env) = eval o X.env := by rfl) (hline : (apos.endLine == pos.line) = true := by rfl) : DE X c (.Call (.Attribute o "split" apos) [e] [] pos) (mS1 splD mo me) :=
  (pe_split ho he hs hbase hline).imp fun σ H Q ⟨F, u, ρ, S, h⟩ => ⟨F, u, ρ, S, (After.split h).imp fun x u1 F1 H1 _ s1 g1 h1 v rv => by
    cases x with
    | str a =>
      have h2 : After c.p F1 H1 (M.bind (me ρ) (fun y => lft (splD a y)) u1) (fun d _ F' H' => ∀ v, Rep c.W c.p F' v d → Q v H') := h1
      refine ⟨⟨a, rv.str_⟩, F1, u1, ρ, S.step s1 g1, (After.split h2).imp fun y u2 F2 H2 _ s2 g2 h3 w rw => ?_⟩
      obtain ⟨z, e1, h4⟩ := lft_some h3
      cases y with
      | str b =>
        have e2 : (if (b.length == 0) = false ∧ a.length ≤ 90000 then some (D.lst ((Txt.split a b).map D.str)) else none) = some z := e1
        split at e2
        · rename_i hc
          cases e2
          refine ⟨a, b, rv.str_, by rw [rw.str_], hc.1, sz5 (by omega), fun q hq => ?_⟩
          exact h4 _ _ (Stp.new g2 hq) (g2.new hq) _ (Rep.mkL upd_same (reps_strs _))
        · cases e2
      | _ => cases e1
    | _ => exact False.elim h1⟩
theorem dPart (ho : DE X c o mo) (he : DE X c e me) (hs : starEach [e] X.env = [(false, eval e X.env)] := by rfl) (hbase : attributeBase o "partition" X.env (eval o X.env) = eval o X.env := by rfl) (hline : (apos.endLine == pos.line) = true := by rfl) : DE X c (.Call (.Attribute o "partition" apos) [e] [] pos) (mS1 prtD mo me) :=
  (pe_partition ho he hs hbase hline).imp fun σ H Q ⟨F, u, ρ, S, h⟩ => ⟨F, u, ρ, S, (After.split h).imp fun x u1 F1 H1 _ s1 g1 h1 v rv => by
    cases x with
    | str a =>
      have h2 : After c.p F1 H1 (M.bind (me ρ) (fun y => lft (prtD a y)) u1) (fun d _ F' H' => ∀ v, Rep c.W c.p F' v d → Q v H') := h1
      refine ⟨⟨a, rv.str_⟩, F1, u1, ρ, S.step s1 g1, (After.split h2).imp fun y u2 F2 H2 _ s2 g2 h3 w rw => ?_⟩
      obtain ⟨z, e1, h4⟩ := lft_some h3
      cases y with
      | str b =>
        have e2 : (if (b.length == 0) = false ∧ a.length ≤ 90000 then some (D.tup [.str (Txt.partition a b).1, .str (Txt.partition a b).2.1, .str (Txt.partition a b).2.2]) else none) = some z := e1
        split at e2
        · rename_i hc
          cases e2
          refine ⟨a, b, rv.str_, by rw [rw.str_], hc.1, sz5 (by omega), fun q hq => ?_⟩
          exact h4 _ _ (Stp.new g2 hq) (g2.new hq) _ (Rep.mkT upd_same (Reps.cons (.str _) (Reps.cons (.str _) (Reps.cons (.str _) Reps.nil))))
        · cases e2
      | _ => cases e1
    | _ => exact False.elim h1⟩
end
theorem ok_S1 {f : Str → D → Option D} {mo me : ME} {ρ : Env} {u : PuS} {P : D → PuS → Prop} : Ok (mS1 f mo me ρ) u P ↔ Ok (mo ρ) u fun d u1 => ∃ a, d = .str a ∧ Ok (me ρ) u1 fun y u2 => ∃ z, f a y = some z ∧ P z u2 := by
  unfold mS1
  rw [ok_bind]
  constructor
  · refine fun h => h.mono fun d u1 z => ?_
    cases d with
    | str y => exact ⟨y, rfl, by simpa using z⟩
    | _ => exact (ok_none.mp z).elim
  · refine fun h => h.mono fun d u1 z => ?_
    obtain ⟨n, rfl, z⟩ := z
    simpa using z
/-- int(text) -/
def intSD : List D → Option D := fun ds => match ds with
  | [.str a] => match PySem.intText? a with
    | some n => if a.length ≤ 640 then some (.int n) else none
    | none => none
  | _ => none
theorem m_intS {W : Wo} : CallM W (fun xs H Q => ∃ a n, xs = [.str a] ∧ PySem.intText? a = some n ∧ a.length ≤ 640 ∧ Q (.int n) H) intSD := by
  intro p F H u xs as Q gd r h
  obtain ⟨d, e, _⟩ := lft_some h
  have e0 := e
  unfold intSD at e
  split at e
  · rename_i a
    split at e
    · rename_i n hn
      split at e
      · rename_i hl
        cases e
        obtain ⟨v, rfl, rv⟩ := r.one
        exact ⟨a, n, by rw [rv.str_], hn, hl, OpM.ret gd h e0 (.int n)⟩
      · cases e
    · cases e
  · cases e
/-! ### C(k = v, ..) -/
section
variable {X : Cx} {c : Cf} {k n : Nat} {f : Addr} {fd : FuncData} {ps ks : List Str} {x ck : Str} {p pos : Pos} {kws : List Keyword} {mk : MA} {mf : List D → M (List Str × List D)} {perm perm' : List Nat}
end
/-! ### C.m(..), m a class method without a star -/
def mCMet1 (ck : Str) (n : Nat) (mf : List D → M D) (mo : ME) (ms : MA) : ME := fun ρ => M.bind (mo ρ) fun d => match d with
  | .cls c => if c = ck then M.bind (ms ρ) fun ds => if ds.length + 1 = n then mf (.cls ck :: ds) else lft none else lft none
  | _ => lft none
section
variable {X : Cx} {c : Cf} {k n : Nat} {p g : Addr} {mc : Value} {fd : FuncData} {ps : List Str} {o e : Expr} {es : List Expr} {m ck : Str} {pos apos : Pos} {mo : ME} {ms : MA} {pl : Sem Bool} {mf : List D → M D}
theorem dCMet1 (hc : ck ∈ c.W.cs) (he : DE X c o mo) (r : ClX.CRead X.K (c.W.cl ck) mc ∧ ClX.CMet X.K (c.W.cl ck) mc m p g) (F : FnOk X.prog X.w X.K X.mg X.base CX0 k g fd ps (spM c.W n mf)) (hr : Room k X.A) (hb : L2.Binds X.K fd ps []) (ha : DA X c (e :: es) ms)
    (hst : starEach (e :: es) X.env = (false, eval e X.env) :: starEach es X.env := by rfl) (hpl : (backTo pos (starEach es X.env)).any (·.1) = false := by rfl)
    (ht : eval (.Call (.Attribute o m apos) (e :: es) [] pos) X.env = (do
      let ov ← eval o X.env
      standAt apos.atName
      let (f, first) ← holding [ov] (getMethod ov m pl)
      callWith pos f first (backTo pos (starEach (e :: es) X.env)) (backToKw pos (keywordEach [] X.env))) := by rfl) :
    DE X c (.Call (.Attribute o m apos) (e :: es) [] pos) (mCMet1 ck n mf mo ms) :=
  (ClX.pe_cmeth he r.1 r.2 (F.raw hb .nil) hr pass0 ha hst hpl ht).imp fun σ H Q ⟨F, u, ρ, S, h⟩ => ⟨F, u, ρ, S, (After.split h).imp fun x u1 F1 H1 _ s1 g1 h1 v rv => by
    cases x with
    | cls cc =>
      have h3 : After c.p F1 H1 ((if cc = ck then M.bind (ms ρ) (fun ds => if ds.length + 1 = n then mf (.cls ck :: ds) else lft none) else lft none) u1) (fun d _ F' H' => ∀ v, Rep c.W c.p F' v d → Q v H') := h1
      by_cases hh : cc = ck
      · subst hh
        rw [if_pos rfl] at h3
        refine ⟨by cases rv; rfl, F1, u1, ρ, S.step s1 g1, (After.split h3).imp fun ds u2 F2 H2 ems s2 g2 h4 vs rvs => ?_⟩
        have h5 : After c.p F2 H2 ((if ds.length + 1 = n then mf (.cls cc :: ds) else lft none) u2) (fun d _ F' H' => ∀ v, Rep c.W c.p F' v d → Q v H') := h4
        by_cases hl : ds.length + 1 = n
        · rw [if_pos hl] at h5
          show spM c.W n mf ((.ref (c.W.cl cc) :: vs) ++ []) H2 Q E0
          rw [List.append_nil]
          exact ⟨by simp [rvs.1, hl], c.p, F2, u2, .cls cc :: ds, g2, Reps.cons (.cls cc hc) rvs, h5⟩
        · rw [if_neg hl] at h5; exact False.elim h5
      · rw [if_neg hh] at h3; exact False.elim h3
    | _ => exact False.elim h1⟩
end
@[simp] theorem ok_cmet1 {ck : Str} {n : Nat} {mf : List D → M D} {mo : ME} {ms : MA} {ρ : Env} {u : PuS} {P : D → PuS → Prop} : Ok (mCMet1 ck n mf mo ms ρ) u P ↔ Ok (mo ρ) u fun d u1 => d = .cls ck ∧ Ok (ms ρ) u1 fun ds u2 => ds.length + 1 = n ∧ Ok (mf (.cls ck :: ds)) u2 P := by
  unfold mCMet1; simp only [ok_bind]
  constructor
  · refine fun h => h.mono fun a u' z => ?_
    split at z
    · simp only [ok_ite] at z
      split at z
      · rename_i hh
        subst hh
        refine ⟨rfl, (ok_bind.mp z).mono fun es u2 z => ?_⟩
        simp only [ok_ite] at z
        split at z
        · rename_i hl; exact ⟨hl, z⟩
        · exact (ok_none.mp z).elim
      · exact (ok_none.mp z).elim
    · exact (ok_none.mp z).elim
  · refine fun h => h.mono fun a u' z => ?_
    obtain ⟨rfl, z⟩ := z
    simp only [ok_ite]
    rw [if_pos (by first | rfl | trivial), ok_bind]
    refine z.mono fun es u2 z => ?_
    simp only [ok_ite]
    rw [if_pos z.1]
    exact z.2
/-! ### C.m(k = v, ..), m a class method -/
section
variable {X : Cx} {c : Cf} {k n : Nat} {p g C : Addr} {mc : Value} {fd : FuncData} {ps ks : List Str} {o : Expr} {kws : List Keyword} {m ck : Str} {pos apos : Pos} {mo : ME} {mk : MA} {pl : Sem Bool} {mf : List D → M D} {perm : List Nat}
end
/-! ### f"{x}" by an own __str__ -/
section
variable {X : Cx} {c : Cf} {k : Nat} {f C : Addr} {fd : FuncData} {ps : List Str} {sp : Sp} {mf : List D → M D} {ck : Str} {a : Expr} {ma : ME} {pos : Pos}
end
/-! ### a, b = xs, xs a list -/
def mGl (n : Nat) (gs : List D → Env → Option Env) : MG := fun d ρ => match d with
  | .lst ds => if ds.length = n then gs ds ρ else none
  | _ => none
section
variable {X : Cx} {c : Cf} {es : List Expr} {is : List Nat} {gs : List D → Env → Option Env} {pos : Pos}
theorem dGl {k n : Nat} (hc : X.calm = true) (h : DGs X c es is gs) (hn : (assignEach es X.env).length = n := by rfl) (hst : (assignEach es X.env).findIdx? (·.1) = none := by rfl) (hK : X.K = c.W.K := by rfl) : DG X c (.Tuple es k pos) is (mGl n gs) :=
  (pg_lst hc h hn hst).imp fun v σ H Q ⟨F, u, ρ, d, S, r, h⟩ => by
    cases d with
    | lst ds =>
      obtain ⟨a, vs, rfl, ht, rs⟩ := r.lst_
      have h' : match (if ds.length = n then gs ds ρ else none) with
        | some ρ' => ∀ σ', Sta c u F H σ' ρ' → Agr is σ σ' → Q σ' H
        | none => False := h
      by_cases hl : ds.length = n
      · rw [if_pos hl] at h'
        exact ⟨a, vs, rfl, by rw [hK]; exact SqL.of (S.gd.ex _ _ ht), rs.1.trans hl, F, u, ρ, ds, S, rs, h'⟩
      · rw [if_neg hl] at h'; exact False.elim h'
    | _ => exact False.elim h
end
@[simp] theorem s_Gl {n : Nat} {gs : List D → Env → Option Env} {ρ : Env} {xs : List D} : mGl n gs (.lst xs) ρ = if xs.length = n then gs xs ρ else none := rfl
end Mi

set_option Elab.async false
set_option linter.all false
set_option maxRecDepth 100000
set_option maxHeartbeats 4000000
/-! MiTy: xs.insert(i, v). -/
namespace Mi
open PySem PySem.Spec PyProof.Rows L2 He StX
variable [TB : Tabl]
/-! ### xs.insert(i, v) -/
def mIns (i : Nat) (mk m : ME) : MS := fun ρ => M.bind (mk ρ) fun k => M.bind (m ρ) fun d => M.bind (lft (vOw ρ i)) fun ds => M.bind (lft (match k with
  | .int j => if 0 ≤ j ∧ j ≤ 100000 ∧ ds.length < 100000 then some j.toNat else none
  | _ => none)) fun n => M.pure (.nx (ρ.set i (.ow (ds.take n ++ [d] ++ ds.drop n))))
section
variable {X : Cx} {c : Cf} {k e : Expr} {mk m : ME} {pos : Pos}
theorem dIns (i : Nat) {x : Str} {p0 apos cpos : Pos} (hk : DE X c k mk) (he : DE X c e m) (hN : X.N[i]? = some x := by rfl) (hv : Vis X.env.scope x := by first | exact Or.inl rfl | exact Or.inr (Or.inl rfl) | exact Or.inr (Or.inr rfl)) (hd : (x == ("__debug__" : Str)) = false := by decide)
    (hcd : (x == ("__classdict__" : Str)) = false := by decide) (hbase : attributeBase (.Name x p0) "insert" X.env (eval (.Name x p0) X.env) = eval (.Name x p0) X.env := by rfl)
    (hfew : ((backTo cpos (starEach [k, e] X.env)).all (fun x => !x.1) && (backToKw cpos (keywordEach [] X.env)).all (fun x => x.1.isSome)
      && decide (([k, e] : List Expr).length + ([] : List Keyword).length + (if ([] : List Keyword).isEmpty then 0 else 1) < 30)) = true := by rfl)
    (hline : (apos.endLine == cpos.line) = true := by rfl) (hst : starEach [k, e] X.env = (false, eval k X.env) :: starEach [e] X.env := by rfl) (hst2 : starEach [e] X.env = (false, eval e X.env) :: starEach [] X.env := by rfl) (hplain : (backTo cpos (starEach [e] X.env)).any (·.1) = false := by rfl)
    (hs : swapsWith (.Call (.Attribute (.Name x p0) "insert" apos) [k, e] [] cpos) none pos.line X.env = pure false := by rfl) :
    DS X c (.Expr (.Call (.Attribute (.Name x p0) "insert" apos) [k, e] [] cpos) pos) (mIns i mk m) :=
  (ps_expr (pe_bm PySem.F.plainAttrs_list PySem.F.slot_list_insert PySem.F.type_list_insert mt_insert (pe_var (i := i) hN hv hd hcd) (pa_cons hk (pa_cons he pa_nil hst2) hst) hbase hfew hline hst hplain) hs).imp fun Dn σ H ⟨F, u, ρ, S, h⟩ => by
    unfold mIns at h
    cases ho : vOw ρ i with
    | none =>
      exfalso
      cases e1 : mk ρ u with
      | none =>
        unfold M.bind at h
        rw [e1] at h
        exact h
      | some y =>
        obtain ⟨kd, u1⟩ := y
        unfold M.bind at h
        rw [e1] at h
        dsimp only at h
        cases e2 : m ρ u1 with
        | none =>
          rw [e2] at h
          exact h
        | some z =>
          rw [e2, ho] at h
          exact h
    | some ds =>
      obtain ⟨q, vs, e1, hq, _⟩ := S.ow ho
      refine ⟨.ref q, e1, .inl ⟨rfl, vs, SqL.of hq⟩, F, u, ρ, S, (flowO.after S h).imp fun kd u1 F1 H1 _ s1 g1 h1 kv rkv => ?_⟩
      refine ⟨F1, u1, ρ, h1.1, (flowO.after h1.1 h1.2).imp fun d u2 F2 H2 _ s2 g2 h2 v rv => ?_⟩
      obtain ⟨ds', e2, h3⟩ := flowO.lft h2.1 h2.2
      rw [ho] at e2
      cases e2
      obtain ⟨n, e3, h4⟩ := flowO.lft h2.1 h3
      obtain ⟨q', vs', e1', hq', _, _, _, r'⟩ := h2.1.ow ho
      rw [e1] at e1'
      cases e1'
      cases kd with
      | int j =>
        have e4 : (if 0 ≤ j ∧ j ≤ 100000 ∧ ds.length < 100000 then some j.toNat else none) = some n := e3
        split at e4
        · rename_i hc
          cases e4
          refine ⟨q, vs', j, v, rfl, by rw [(rkv.mono s2.ef).int_], hq', sz5l (by rw [r'.1]; omega), hc.1, by omega, h4 σ F2 _ (Same.refl _) ?_⟩
          exact h2.1.put (vOw_at ho) e1 (((r'.take _).append (Reps.cons rv Reps.nil)).append (r'.drop _))
        · cases e4
      | _ => cases e3
end
@[simp] theorem ok_ins {i : Nat} {mk m : ME} {ρ : Env} {u : PuS} {P : Fl → PuS → Prop} : Ok (mIns i mk m ρ) u P ↔ Ok (mk ρ) u fun k u1 => Ok (m ρ) u1 fun d u2 => ∃ ds, vOw ρ i = some ds ∧ ∃ j : Int, k = .int j ∧ (0 ≤ j ∧ j ≤ 100000 ∧ ds.length < 100000) ∧ P (.nx (ρ.set i (.ow (ds.take j.toNat ++ [d] ++ ds.drop j.toNat)))) u2 := by
  unfold mIns; simp only [ok_bind, ok_lft, ok_pure]
  constructor
  · refine fun h => h.mono fun k u1 z => z.mono fun d u2 z => ?_
    obtain ⟨ds, e, n, e2, p⟩ := z
    cases k with
    | int j =>
      have e4 : (if 0 ≤ j ∧ j ≤ 100000 ∧ ds.length < 100000 then some j.toNat else none) = some n := e2
      split at e4
      · rename_i hc
        cases e4
        exact ⟨ds, e, j, rfl, hc, p⟩
      · cases e4
    | _ => cases e2
  · refine fun h => h.mono fun k u1 z => z.mono fun d u2 z => ?_
    obtain ⟨ds, e, j, rfl, hc, p⟩ := z
    exact ⟨ds, e, j.toNat, if_pos hc, p⟩
end Mi

set_option Elab.async false
set_option linter.all false
set_option maxRecDepth 100000
set_option maxHeartbeats 4000000
/-! MiMn: min of a list of pairs, max and min of a tuple of ints. -/
namespace L2
open PySem PySem.Spec PyProof.Rows
def rMinT (K : PySem.W.Frag) : List V → Hp → VK → Prop := fun vs H Q => ∃ (a : Addr) (n : Int) (ns : List Int), vs = [V.ref a] ∧ SqT K H a ((n :: ns).map V.int) ∧ Q (.int (PySem.W.minOf n ns)) H
section
variable {X : Cx}
theorem cr_minT (hc : X.calm = true) (hu : X.A.units + 65 < cLine) : CallR X (.builtin "min") (rMinT X.K) := by
  intro pins s σ H vs us Q I r h
  obtain ⟨a, n, ns, rfl, hs, q⟩ := h
  obtain rfl := Vals.ref1 r
  obtain ⟨its, rv, hl, hz⟩ := I.tuple hs
  obtain ⟨as, hr⟩ := Dp.readsAll I ((n :: ns).map PyData.int) ((n :: ns).map V.int) its (dpAll_ints _) rv
  refine PySem.W.min_tuple_datum (α := Int) (x := n) (xs := ns) (vs := its.toArray) (I.ok.hd hc) (show s.heap.IsTuple a its.toArray from hl) ⟨as, hr⟩ ?_ fun i v h' tk hi hv hk => ?_
  · show X.A.units + 1 + 0 < cLine
    omega
  obtain ⟨bs, hv⟩ := hv
  have hv' : Reads h' v (PyData.int (PySem.W.minOf n ns)) bs := hv
  cases hv' with
  | int i t => exact ⟨.int _, H, I.kept (t' := tk) hk, ⟨_, rfl⟩, q⟩
end
end L2
namespace Mi
open PySem PySem.Spec PyProof.Rows L2
variable [TB : Tabl]
def minTD : List D → Option D := fun ds => match ds with
  | [.tup xs] => match intsD xs with
    | some (n :: ns) => some (.int (PySem.W.minOf n ns))
    | _ => none
  | _ => none
theorem m_minT {W : Wo} : CallM W (rMinT W.K) minTD := by
  intro p F H u xs as Q gd r h
  obtain ⟨d, e, h2⟩ := lft_some h
  unfold minTD at e
  split at e
  · rename_i ds
    split at e
    · rename_i n ns e1
      cases e
      obtain ⟨v, rfl, rv⟩ := r.one
      obtain ⟨q, vs, rfl, hq, rs⟩ := rv.tup_
      exact ⟨q, n, ns, rfl, by rw [← intsD_rep rs e1]; exact sq_t gd.ex hq, After.now gd h2 _ (.int _)⟩
    · cases e
  · cases e
end Mi


set_option Elab.async false
set_option linter.all false
set_option maxRecDepth 100000
set_option maxHeartbeats 4000000
/-! MiQu: == of tuples that hold objects with an own ==, either way. -/
namespace PySem.W
open PySem PySem.Calls PyProof.Rows Builtin
section
variable {prog : Program} {w : World} {A : Around} {E : Value → Shared → Prop} {s : Shared}
end
end PySem.W
namespace Mi
open PySem PySem.Spec PyProof.Rows L2
variable [TB : Tabl]
abbrev DecV := V → V → Bool → Hp → Prop
def MonB (D : DecV) : Prop := ∀ x y b H H', L2.Ext H H' → D x y b H → D x y b H'
def EqB (X : Cx) (n : Nat) (D : DecV) : Prop :=
  ∀ (A : Around) (pins : List (Addr × Obj)) (s : Shared) (σ : L2.St) (H : Hp) (x y : V) (u v : Value) (b : Bool), L2.Sub X n A → Inv X pins σ H s → L2.RelV x u → L2.RelV y v → D x y b H →
    wpAny (model X.prog X.w) A (eqBool u v) (fun r s' => r = b ∧ ∃ H', Inv X pins σ H' s' ∧ L2.Ext H H') X.xe s
/-- the same value is equal to itself -/
def ReflB (X : Cx) (D : DecV) : Prop := ∀ (pins : List (Addr × Obj)) (σ : L2.St) (s : Shared) (H : Hp) (x : V) (b : Bool), Inv X pins σ H s → D x x b H → b = true
section
variable {X : Cx} {n m : Nat} {D D' : DecV}
theorem EqB.mono (h : EqB X n D) (hn : n ≤ m) : EqB X m D := fun A pins s σ H x y u v b sb => h A pins s σ H x y u v b (sb.mono hn)
theorem EqB.or (h : EqB X n D) (h' : EqB X n D') : EqB X n (fun x y b H => D x y b H ∨ D' x y b H) := fun A pins s σ H x y u v b sb I rx ry d => by
  rcases d with d | d
  · exact h A pins s σ H x y u v b sb I rx ry d
  · exact h' A pins s σ H x y u v b sb I rx ry d
theorem MonB.or (h : MonB D) (h' : MonB D') : MonB (fun x y b H => D x y b H ∨ D' x y b H) := fun x y b H H' e d => d.elim (fun d => .inl (h x y b H H' e d)) fun d => .inr (h' x y b H H' e d)
theorem ReflB.or (h : ReflB X D) (h' : ReflB X D') : ReflB X (fun x y b H => D x y b H ∨ D' x y b H) := fun pins σ s H x b I d => d.elim (h pins σ s H x b I) (h' pins σ s H x b I)
section
variable {f C : Addr} {fd : FuncData} {ps : List Str} {R : Addr → V → Bool → Hp → Prop}
end
end
end Mi






set_option Elab.async false
set_option linter.all false
set_option maxRecDepth 100000
set_option maxHeartbeats 4000000
/-! MiEb: what may raise: mirrors that answer a value or an error. -/
namespace Mi
open PySem PySem.Spec PyProof.Rows L2
variable [TB : Tabl]
inductive RX where
  | ok (d : D) | er (c : Str) (ks : List Str) (ds : List D)
abbrev MX := Env → M RX
/-! ### raise -/
/-! ### statements whose expression may raise -/
section
variable {X : Cx} {c : Cf} {pos : Pos} {e : Expr} {m : MX} {i : Nat}
end
/-! ### a def that may raise -/
section
variable {P : Program} {w : World} {K : PySem.W.Frag} {mg : Str → Option Value} {base : Heap} {x qual : Str} {params : Arguments} {body : List Stmt} {scope : Scope} {dvs : List V} {kws : List (Str × V)} {f : Addr} {fd : FuncData} {W : Wo} {N ps : List Str} {k : Nat} {mb : MS}
end
/-! ### calls -/
section
variable {X : Cx} {c : Cf} {k n : Nat} {f : Addr} {fd : FuncData} {ps : List Str} {x m : Str} {p pos apos : Pos} {e o : Expr} {es : List Expr} {ms : MA} {mo : ME} {mf : List D → M RX}
end
end Mi


set_option Elab.async false
set_option linter.all false
set_option maxRecDepth 100000
set_option maxHeartbeats 4000000
/-! MiEd: try with one clause of three classes; the caught error is known to the abstract heap. -/
namespace Mi
open PySem PySem.Spec PyProof.Rows L2
/-- a thing that stands as it is -/
def anyO (a : Addr) (oe : Obj) : HO := .ext fun h => h.get? a = some oe
theorem any_ok {P : Program} {w : World} {H : Hp} {h : Heap} {a : Addr} {oe : Obj} (e : h.get? a = some oe) : ObjOk P w H h a (.frz oe (anyO a oe)) := ⟨e, e, ⟨oe, e⟩, fun _ _ z k => k _ z⟩
section
variable {X : Cx} {pins : List (Addr × Obj)} {σ : L2.St} {H : Hp} {s : Shared} {a : Addr} {oe : Obj}
/-- a thing of the heap that is not tracked yet becomes known -/
theorem Inv.known (I : L2.Inv X pins σ H s) (he : s.heap.get? a = some oe) (hn : H a = none) (h0 : X.s_0.heap.get? a = none) (hL : a ≠ X.env.locals) (hc : ∀ x c, X.env.cells.lookup x = some c → c ≠ a) (hp : ∀ p ∈ X.pn ++ pins, p.1 ≠ a) : L2.Inv X pins σ (upd H a (.frz oe (anyO a oe))) s := by
  have ne : ∀ {b : Addr} {o : HO}, H b = some o → b ≠ a := fun e z => by rw [z, hn] at e; cases e
  refine ⟨I.ok, I.os, I.bare, ⟨I.base.keep, I.base.slot, fun b o e n x => ?_, I.base.there, fun b xs e => ?_, fun b o u e => ?_, fun b ps e => ?_⟩, I.loc, I.cell, ?_, fun x c e => ?_, fun p h => ?_, fun b o e => ?_, I.len⟩
  · rw [upd_ne (fun z => by rw [z, h0] at e; cases e)]; exact I.base.free b o e n x
  · have := I.base.tups b xs e; rw [upd_ne (ne this)]; exact this
  · have := I.base.frzs b o u e; rw [upd_ne (ne this)]; exact this
  · obtain ⟨more, this⟩ := I.base.tbls b ps e; exact ⟨more, by rw [upd_ne (ne this)]; exact this⟩
  · rw [upd_ne (Ne.symm hL)]; exact I.free
  · rw [upd_ne (hc x c e)]; exact I.freeC x c e
  · obtain ⟨z1, z2, z3⟩ := I.pin p h
    exact ⟨z1, by rw [upd_ne (hp p h)]; exact z2, z3⟩
  · by_cases hb : b = a
    · subst hb
      rw [upd_same] at e
      cases e
      exact any_ok he
    · rw [upd_ne hb] at e
      exact (I.hok b o e).stay (fun c u _ q => q) (fun c q => by rw [upd_ne (ne q)]; exact q) fun c xs q => by rw [upd_ne (ne q)]; exact q
end
section
variable {X : Cx} {x1 x2 x3 n : Str} {c1 c2 c3 : Value} {i kk : Nat} {body suite : List Stmt} {b₀ : Stmt} {p1 p2 p3 tp pos pos' : Pos} {tb : WX → TS} {ts : Addr → Obj → TS}
end
end Mi

set_option Elab.async false
set_option linter.all false
set_option maxRecDepth 100000
set_option maxHeartbeats 4000000
/-! MiEe: a lambda handed to a def that calls it within a try. -/
namespace Mi
open PySem PySem.Spec PyProof.Rows L2 LamX
section
variable {X : Cx} {pins : List (Addr × Obj)} {σ : L2.St} {H : Hp} {s : Shared}
end
/-- the table stays or grows by a new code object -/
def Grown (H H1 : Hp) : Prop := H1 = H ∨ ∃ (P : Addr) (ps qs : Array Value) (c : Addr) (q : Str), H P = some (.tbl ps) ∧ H c = none ∧ H1 = upd (upd H P (.tbl qs)) c (CodeO c q)
theorem Grown.tb {H H1 : Hp} (g : Grown H H1) : ∀ a ps, H a = some (.tbl ps) → ∃ qs, H1 a = some (.tbl qs) := fun a ps e => by
  rcases g with rfl | ⟨P, p0, qs, c, q, hP, hc, rfl⟩
  · exact ⟨ps, e⟩
  · have n1 : a ≠ c := fun z => by rw [z, hc] at e; cases e
    by_cases h : a = P
    · exact ⟨qs, by rw [upd_ne n1, h, upd_same]⟩
    · exact ⟨ps, by rw [upd_ne n1, upd_ne h]; exact e⟩
theorem Grown.ext {H H1 : Hp} (g : Grown H H1) : ExtN H H1 := fun a o e n => by
  rcases g with rfl | ⟨P, p0, qs, c, q, hP, hc, rfl⟩
  · exact e
  · rw [upd_ne (fun z => by rw [z, hc] at e; cases e), upd_ne (fun z => by rw [z, hP] at e; exact n _ (Option.some.inj e).symm)]
    exact e
theorem Grown.nw {H H1 : Hp} (g : Grown H H1) {a : Addr} (h : H1 a = none) : H a = none := by
  cases e : H a with
  | none => rfl
  | some o =>
    rcases tbl_or o with ⟨ps, rfl⟩ | n
    · obtain ⟨qs, z⟩ := g.tb a ps e
      rw [z] at h; cases h
    · rw [g.ext a o e n] at h; cases h
section
variable {X : Cx} {pins : List (Addr × Obj)} {σ : L2.St} {H : Hp} {s : Shared}
end
section
variable {X : Cx}
end
end Mi

set_option Elab.async false
set_option linter.all false
set_option maxRecDepth 100000
set_option maxHeartbeats 4000000
/-! MiEf: the mirrors of a try around a call of a lambda, of such a def's call. -/
namespace Mi
open PySem PySem.Spec PyProof.Rows L2 LamX
variable [TB : Tabl]
/-- what is known of the error that is handled -/
structure HotO (A : Around) (H : Hp) (p a : Addr) (oe : Obj) : Prop where
  hd : A.handled = some (.ref a)
  at_ : H a = some (.frz oe (anyO a oe))
  ne : a ≠ p
  fld : ∃ vs, oe.data = .fields vs ∧ vs[2]? = some .none
section
variable {X : Cx} {c : Cf} {x1 x2 x3 n y a q : Str} {c1 c2 c3 : Value} {i j kk : Nat} {suite : List Stmt} {b₀ : Stmt} {p1 p2 p3 tp pos pos' py pa pb pas : Pos} {f c' : Addr} {act : M RX} {tl : XK → Hp → VK → Prop} {ok : Str → Bool} {ms : MS}
end
/-! ### the def that calls a lambda -/
section
variable {X : Cx} {c : Cf}
end
end Mi






set_option Elab.async false
set_option linter.all false
set_option maxRecDepth 100000
set_option maxHeartbeats 4000000
/-! MiEi: defs called while an error is handled; repr of anything. -/
namespace Mi
open PySem PySem.Spec PyProof.Rows L2
variable [TB : Tabl]
/-- what a def promises while the error at a is handled and no repr is under way -/
structure FnHt (P : Program) (w : World) (K : PySem.W.Frag) (mg : Str → Option Value) (base : Heap) (k : Nat) (f : Addr) (fd : FuncData) (ps : List Str) (sp : Addr → Sp) : Prop where
  len : ∀ a vs H Q E, sp a vs H Q E → vs.length = ps.length
  run : ∀ (A : Around) (outer : List PySem.Env) (s : Shared) (H : Hp) (args : Args) (us : List Value) (vs : List V) (Q : VK) (E : XK) (a : Addr) (oe : Obj), A.guards = some [] → L2H.RoomH k A → A.handled = some (.ref a) → H a = some (.frz oe (anyO a oe)) → (∃ gs, oe.data = .fields gs ∧ gs[2]? = some .none) →
    Env0 P w K mg base A outer s H → BindsTo s fd args (ps.zip us) → Vals vs us → sp a vs H Q E → codeAny (model P w) A (.call (.ref f) args) (CR CX0 outer P w H s Q E) s
/-- the same frames without the handled error -/
def still (A : Around) : Around := { A with handled := none }
section
variable {P : Program} {w : World} {K : PySem.W.Frag} {mg : Str → Option Value} {base : Heap} {x qual : Str} {params : Arguments} {body : List Stmt} {scope : Scope} {dvs : List V} {kws : List (Str × V)} {f : Addr} {fd : FuncData} {W : Wo} {N ps : List Str} {k : Nat} {mb : MS}
end
/-! ### a call there -/
section
variable {X : Cx} {c : Cf} {k n : Nat} {f : Addr} {fd : FuncData} {ps : List Str} {x : Str} {p pos : Pos} {e : Expr} {es : List Expr} {ms : MA} {mf : List D → M D} {a : Addr} {oe : Obj}
theorem HotO.now {u : PuS} {F H : Hp} {σ : L2.St} {ρ : Env} (h : HotO X.A c.H0 c.p a oe) (S : Sta c u F H σ ρ) : H a = some (.frz oe (anyO a oe)) := S.ent.eh a _ h.ne h.at_ (.inr (by intro _ z; cases z))
theorem HotO.step {u : PuS} {F H F' H' : Hp} {σ : L2.St} {ρ : Env} (h : HotO X.A c.H0 c.p a oe) (S : Sta c u F H σ ρ) (s : Stp c.p F H F' H') : H' a = some (.frz oe (anyO a oe)) := s.eh a _ h.ne (h.now S) (.inr (by intro _ z; cases z))
end
/-! ### repr of plain data -/
end Mi

set_option Elab.async false
set_option linter.all false
set_option maxRecDepth 100000
set_option maxHeartbeats 4000000
/-! MiEj: repr of anything. -/
namespace Mi
open PySem PySem.Spec PyProof.Rows L2
variable [TB : Tabl]
section
variable {X : Cx} {c : Cf} {e : Expr} {m : ME} {pos : Pos} {t : List (Str × (List D → M D))}
/-! ### .. while an error is handled -/
theorem RoomH.in1 {k : Nat} {A : Around} (r : L2H.RoomH (k + 1) A) : L2H.RoomH k A.in1 := ⟨by have := r.dp; show A.depth + 3 * k + 5 < _; omega, by have := r.un; show A.units + 1 + 16 * k + 200 < _; omega⟩
end
end Mi



set_option Elab.async false
set_option linter.all false
set_option maxRecDepth 100000
set_option maxHeartbeats 4000000
/-! MiEl: choices between what may raise; defs with a star parameter that may raise; {}; the written part's facts about errors. -/
namespace Mi
open PySem PySem.Spec PyProof.Rows L2 He StX
variable [TB : Tabl]
section
variable {X : Cx} {c : Cf} {t : MT} {ma mb : MX} {k a b : Expr} {pos : Pos}
end
/-! ### a def with a star parameter that may raise -/
section
variable {P : Program} {w : World} {K : PySem.W.Frag} {mg : Str → Option Value} {base : Heap} {x qual : Str} {params : Arguments} {body : List Stmt} {scope : Scope} {dvs : List V} {kws : List (Str × V)} {f : Addr} {fd : FuncData} {W : Wo} {N ps : List Str} {pv : Str} {k : Nat} {mb : MS}
end
section
variable {X : Cx} {c : Cf} {k n : Nat} {p g : Addr} {mc : Value} {o e : Expr} {es : List Expr} {m ck : Str} {pos apos : Pos} {mo : ME} {ms : MA} {pl : Sem Bool} {mf : List D → M RX} {E : XK}
end
/-! ### what the written part says of errors -/
/-- own reprs while an error is handled: room -/
theorem _root_.L2H.RoomH.units {k : Nat} {A : Around} (r : L2H.RoomH k A) : A.units + 64 < cLine := by have := r.un; omega
/-- tables of reprs -/
theorem _root_.L2.FnOk.more {P : Program} {w : World} {K : PySem.W.Frag} {mg : Str → Option Value} {base : Heap} {CX : CXT} {j k : Nat} {f : Addr} {fd : FuncData} {ps : List Str} {sp : Sp} (G : FnOk P w K mg base CX j f fd ps sp) (h : j ≤ k) : FnOk P w K mg base CX k f fd ps sp :=
  ⟨G.len, fun A outer s H args us vs Q E hr e0 hb r hsp => G.run A outer s H args us vs Q E (hr.mono h) e0 hb r hsp⟩
theorem FnHt.more {P : Program} {w : World} {K : PySem.W.Frag} {mg : Str → Option Value} {base : Heap} {j k : Nat} {f : Addr} {fd : FuncData} {ps : List Str} {sp : Addr → Sp} (G : FnHt P w K mg base j f fd ps sp) (h : j ≤ k) : FnHt P w K mg base k f fd ps sp :=
  ⟨G.len, fun A outer s H args us vs Q E a oe hg hr hh ha hv e0 hb r hsp => G.run A outer s H args us vs Q E a oe hg (hr.mono h) hh ha hv e0 hb r hsp⟩
abbrev RT := List (Str × (List D → M D))
section
variable {X : Cx} {W : Wo} {k j : Nat} {t : RT} {ck : Str} {mf : List D → M D} {f : Addr} {fd : FuncData} {ps : List Str}
end
/-! ### the tables of the law -/
end Mi




set_option Elab.async false
set_option linter.all false
set_option maxRecDepth 100000
set_option maxHeartbeats 4000000
/-! MiDs: *e within a tuple or a list display. -/
namespace Mi
open PySem PySem.Spec PyProof.Rows L2 He
variable [TB : Tabl]
def mStar (m : ME) (ms : MA) : MA := fun ρ => M.bind (m ρ) fun x => M.bind (lft (seqD x)) fun xs => M.bind (ms ρ) fun ys => M.pure (xs ++ ys)
section
variable {X : Cx} {c : Cf} {p : Pos} {e : Expr} {es : List Expr} {m : ME} {ms : MA}
end
section
variable {m : ME} {ms : MA} {ρ : Env} {u : PuS} {PA : List D → PuS → Prop}
@[simp] theorem ok_star : Ok (mStar m ms ρ) u PA ↔ Ok (m ρ) u fun x u1 => ∃ xs, seqD x = some xs ∧ Ok (ms ρ) u1 fun ys u2 => PA (xs ++ ys) u2 := by
  unfold mStar
  simp only [ok_bind, ok_lft, ok_pure]
@[simp] theorem s_seqL {ds : List D} : seqD (.lst ds) = some ds := rfl
@[simp] theorem s_seqT {ds : List D} : seqD (.tup ds) = some ds := rfl
end
end Mi


set_option Elab.async false
set_option linter.all false
set_option maxRecDepth 100000
set_option maxHeartbeats 4000000
/-! MiSu: a method whose body is `super().m(*v)`, by the promise of the base's m. -/
namespace Su
open PySem PySem.Spec PyProof.Rows L2 NdefX StX ClX
section
variable {α : Type} {prog : Program} {w : World} {M : Model} {A : Around} {c : Code} {E : Value → Shared → Prop} {s : Shared} {env : Env}
/-- o.name(*e) where the code is known -/
theorem at_starCall {o : Expr} {name : Str} {apos pos : Pos} {args : List Expr} {Q : Value → Shared → Prop}
    (h : PySem.wpAt M A c (attributeBase o name env (eval o env)) (fun ov s₁ => wpAny M A (getAttr ov name true) (fun f s₂ => wpAny M A (callWith pos f [] (backTo pos (starEach args env)) []) Q E s₂) E s₁) E s)
    (he : eval (.Call (.Attribute o name apos) args [] pos) env = (do
      let ov ← attributeBase o name env (eval o env)
      standAt apos.atName
      let (f, first) ← holding [ov] (do pure (← getAttr ov name true, []))
      let callPos ← (pure pos : Sem Pos)
      callWith callPos f first (backTo pos (starEach args env)) []) := by rfl) :
    PySem.wpAt M A c (eval (.Call (.Attribute o name apos) args [] pos) env) Q E s := by
  rw [he]
  refine PySem.wpAt_bind (PySem.wpAt_mono h (fun ov s₁ h₁ => PySem.wpAt_of_wpAny (wpAny_bind (wpAny_standAt (wpAny_bind (wpAny_holding (wpAny_bind (wpAny_mono h₁ (fun f s₂ h₂ => ?_) fun _ _ x => x))))))) fun _ _ x => x)
  exact wpAny_pure (wpAny_bind (wpAny_pure h₂))
end
section
variable {prog : Program} {w : World} {A : Around} {E : Value → Shared → Prop} {h : Heap} {g : Array GenState} {d : Drawn} {t : Nat} {os : OsState}
/-- super().name as a value -/
theorem super_getAttr {so D x C f : Addr} {of : Obj} {l₀ l : List Value} {K : PySem.W.Frag} {name : Str} {Q : Value → Shared → Prop}
    (hso : h.get? so = some { cls := .type "super", dict := none, data := .fields #[.ref D, .ref x, .ref C], slots := #[] }) (hno : PySem.W.Looks (model prog w) h (opaqueClassAbove (.ref C)) none)
    (hC : PySem.W.Looks (model prog w) h (mroOf (.ref C)) l₀) (hl : (l₀.dropWhile (· != .ref D)).drop 1 = l) (X : K.In h)
    (hf : PySem.W.alongIn K name l = some (some (.ref f))) (hfo : h.get? f = some of) (hfc : of.cls = .type "function") (hxC : x ≠ C) (hn : (name == ("__class__" : Str)) = false)
    (hq : Q (.ref h.objs.size) ⟨h.push { cls := .type "method", data := .fields #[.ref f, .ref x] }, g, d, t + 1, os⟩) :
    wpAny (model prog w) A (getAttr (.ref so) name true) Q E ⟨h, g, d, t, os⟩ := by
  have hlk := F.ks_slot_super_ga.lookup
  have hT : ∀ t', (⟨h, g, d, t', os⟩ : Shared).TypeIs (.ref so) "super" := fun _ => ⟨_, hso, rfl⟩
  unfold getAttr getAttrBy
  refine wpAny_bind (wpAny_mkText (wpAny_holding (wpAny_bind (wpAny_typeOf (hT _) (wpAny_bind (wpAny_of_eq hlk ?_))))))
  show wpAny _ _ (getAttrByItsOwn (.ref so) (.str name t) (.type "super") (.builtin "super.__getattribute__") true true) _ _ _
  unfold getAttrByItsOwn hookBefore callGetattribute boundAndCalled
  refine wpAny_bind (wpAny_of_eq (show (if onTheHeap (.type "super") then typeLookup (.type "super") "__getattr__" else pure none) = pure none from rfl) ?_)
  refine wpAny_bind (wpAny_attempt (wpAny_holding ?_))
  show wpAny _ _ (bindSpecial (.builtin "super.__getattribute__") (.ref so) >>= _) _ _ _
  refine wpAny_bind (wpAny_of_eq (F.ks_slot_super_ga.bind _) ?_)
  refine wpAny_mono (Q := fun v s' => v = .ref h.objs.size ∧ s' = ⟨h.push { cls := .type "method", data := .fields #[.ref f, .ref x] }, g, d, t + 1, os⟩) (E := fun _ _ => False)
    (wpAny_call_entry F.ks_slot_super_ga (hT _) F.ks_entry_super_ga (ks_wpAny_super_ga hso hno hC hl X hf hfo hfc hxC hn ⟨_, rfl, rfl, rfl⟩) (F.ks_gaArgs_super _ _)) (fun v s' hv => ?_) fun _ _ z => z.elim
  obtain ⟨rfl, rfl⟩ := hv
  exact wpAny_pure hq
end
/-- what the written part says of such a method at f of the class at D; g: the base's -/
structure SupF (P : Program) (K : PySem.W.Frag) (mg : Str → Option Value) (D f g cc : Addr) (F : NF) (m : Str) : Prop where
  lk : ∃ (oc : Value) (od : Option Addr) (doc pm ct : Value) (an : Option Addr) (osl : Array (Option Value)), K.lookup f = some ⟨oc, od, .func (PySem.W.fnX F.name F.qual F.params F.body F.scope F.cl .none .none doc pm an (.ref F.c) ct), osl⟩
  cl : F.cl = [(("__class__" : Str), cc)]
  hcd : PySem.W.codeIn K (.ref F.c) F.qual = true
  code : ∃ (oc : Value) (od : Option Addr) (vs : Array Value) (file : Str) (tf : Tok) (sl : Array (Option Value)), K.lookup F.c = some ⟨oc, od, .fields vs, sl⟩ ∧ vs[2]? = some (.str file tf) ∧ ((P.main.file : Str) == file) = true
  cell : ∃ (oc : Value) (od : Option Addr) (sl : Array (Option Value)), K.lookup cc = some ⟨oc, od, .cell (some (.ref D)), sl⟩
  cls : (PySem.W.clsIn K D).isSome = true
  sub : PySem.W.mroIn K D (.ref D) = some true
  sup : PySem.W.ks_superIn K D D m = some (some (.ref g))
  fn : PySem.W.typeIn K (.ref g) = some (.type "function")
  fni : PySem.W.fnIn K g = true
  opq : PySem.W.nsIn K cStatics "thirdparty.any" = some none
section
variable {CX : CXT} {P : Program} {w : World} {K : PySem.W.Frag} {mg : Str → Option Value} {base : Heap} {k : Nat} {D f g cc : Addr} {F : NF} {N : List Str} {m p1 pv : Str} {sp : Sp}
theorem cls_at {h : Heap} (X : K.In h) (hc : (PySem.W.clsIn K D).isSome = true) : ∃ (cd : ClassData) (oD : Obj), PySem.W.clsIn K D = some cd ∧ h.get? D = some oD ∧ oD.data = .cls cd := by
  obtain ⟨cd, e⟩ := Option.isSome_iff_exists.mp hc
  refine ⟨cd, ?_⟩
  have e2 := e
  unfold PySem.W.clsIn at e2
  split at e2
  · rename_i c d cd' sl ho
    cases e2
    exact ⟨_, e, X _ _ ho, rfl⟩
  · cases e2
theorem fnR_super {q0 q1 q2 q3 q4 q5 ap : Pos} (S : SupF P K mg D f g cc F m) (Sc : NScope N [p1, pv] ["__class__"] F.scope) (hN : N[0]? = some p1 ∧ N[1]? = some pv) (hCX : CXUp CX)
    (hb : ∀ (doc pm ct : Value) (an : Option Addr) (us rest : List Value), us.length = [p1].length → bindArgs (PySem.W.fnX F.name F.qual F.params F.body F.scope F.cl .none .none doc pm an (.ref F.c) ct) ⟨us ++ rest, []⟩ = (newTuple rest >>= fun t => pure ([p1].zip us ++ [(pv, t)])))
    (hbody : F.body = [.Expr (.Call (.Attribute (.Call (.Name "super" q0) [] [] q1) m ap) [.Starred (.Name pv q2) q3] [] q4) q5])
    (hp : (F.params.posonlyargs ++ F.params.args).head?.map (·.arg) = some p1)
    (hmg : mg "super" = none) (hks : F.scope.names.lookup ("super" : Str) = some .globalImplicit) (hat : (m == ("__class__" : Str)) = false) (htop : (P.main.scope.names.lookup ("super" : Str)).isSome = false)
    (hpd : (pv == ("__debug__" : Str)) = false) (hboot : bootBuiltins "super" = some (.type "super")) (hpass : ∀ (A : Around) (outer : List Env) (s : Shared) (H : Hp) (E : XK), Passes CX (ncx CX P w K mg base N F f A outer s H E) E)
    (G : FnR P w K mg base CX k g sp) :
    FnR P w K mg base CX (k + 2) f (fun vs H Q E => ∃ (x : Addr) (ws : List V) (dx : Addr) (fs : List (Str × V)), vs = .ref x :: ws ∧ H x = some (.ins D dx fs) ∧ ws.length ≤ sizeLine ∧ ∀ p, H p = Option.none → sp vs (upd H p (.tup ws)) (fun _ H' => Q .non H') E) := by
  intro A outer s H us vs Q E hr e0 r hsp
  obtain ⟨x, ws, dx, fs, rfl, hx, hz, hq⟩ := hsp
  cases r with
  | @cons _ u0 _ us' r0 r' =>
  have r0 : u0 = Value.ref x := r0
  subst r0
  obtain ⟨oc, od, doc, pm, ct, an, osl, lk⟩ := S.lk
  have KX : K.In s.heap := e0.mod.kin.keeps fun b o e => (e0.bs b o e).1
  have hn : H s.heap.objs.size = Option.none := e0.hok.fresh (Nat.le_refl _)
  have hl2 : us'.length ≤ sizeLine := by rw [← r'.length]; exact hz
  refine codeAny_call_function hr.depth (KX _ _ lk) rfl Sc.co Sc.gen rfl (PySem.W.codeRec_of KX S.hcd) ?_
  have hb2 := hb doc pm ct an [.ref x] us' rfl
  have hb3 : bindArgs (PySem.W.fnX F.name F.qual F.params F.body F.scope F.cl .none .none doc pm an (.ref F.c) ct) ⟨.ref x :: us', []⟩ = (newTuple us' >>= fun t => pure [(p1, .ref x), (pv, t)]) := hb2
  rw [hb3]
  refine wpAny_bind (wpAny_newTuple (wpAny_pure ?_) hl2)
  have new : ObjOk P w (upd H s.heap.objs.size (.tup ws)) (s.heap.push ({ cls := .type "tuple", data := .seq us'.toArray } : Obj)) s.heap.objs.size (.tup ws) := ⟨hz, us', r', ⟨_, Heap.get?_push_size _ rfl, rfl, _, rfl⟩⟩
  have un := un_laid (fs := frs outer) (s := s) (o := ({ cls := .type "tuple", data := .seq us'.toArray } : Obj)) (u := .tup ws) hn
  have e2 := env0_laid e0 new
  have hT := hq _ hn
  generalize hs2 : ({ s with heap := s.heap.push ({ cls := .type "tuple", data := .seq us'.toArray } : Obj) } : Shared) = s2 at e2 ⊢
  have kp2 : ∀ b o, s.heap.get? b = some o → s2.heap.get? b = some o := fun b o e => by rw [← hs2]; exact Heap.get?_push_of_some _ e
  have os2 : s2.os = s.os := by rw [← hs2]
  have un2 : Un (frs outer) [] H (upd H s.heap.objs.size (.tup ws)) s.heap s2.heap := by rw [← hs2]; exact un
  generalize hT0 : s.heap.objs.size = T at *
  generalize hH2 : upd H T (.tup ws) = H2 at *
  have hHT : H2 T = some (.tup ws) := by rw [← hH2]; exact upd_same
  have hHx : H2 x = some (.ins D dx fs) := by rw [← hH2, upd_ne (ne_of_none hx hn)]; exact hx
  have KX2 : K.In s2.heap := KX.keeps kp2
  have lim : s2.heap.NoLimit := e0.mod.nolimit.keeps fun b o e => (e2.bs b o e).1
  refine wpAny_newFunctionEnv Sc.nocell (fun y hy => ?_) (fun h₁ hns hsb => ⟨lim.fresh _ hsb, ?_⟩) Sc.kind
  · have hy : y = (p1, Value.ref x) ∨ y = (pv, Value.ref T) := by simpa using hy
    rcases hy with rfl | rfl
    · exact Sc.par _ (by simp)
    · exact Sc.par _ (by simp)
  have kp : ∀ b o, s2.heap.get? b = some o → h₁.get? b = some o := fun b o e => hsb.extBut b o (Nat.ne_of_lt (Heap.lt_size e)) (Heap.get?_push_of_some _ e)
  obtain ⟨ocl, ocd, csl, hcell⟩ := S.cell
  have hccb : base.get? cc = some ⟨ocl, ocd, .cell (some (.ref D)), csl⟩ := e0.mod.kin _ _ hcell
  have CA : CellsAt F.cl ["__class__"] [some (.ref D)] s2.heap H2 := by
    rw [S.cl]
    refine ⟨rfl, fun y c e => ?_, fun y z c h1 h2 => ?_, fun i y e => ?_⟩
    · have e : c = cc := by
        simp only [List.lookup] at e
        split at e
        · exact (Option.some.inj e).symm
        · cases e
      subst e
      exact ⟨(e2.bs _ _ hccb).2, _, ⟨_, (e2.bs _ _ hccb).1, rfl⟩⟩
    · simp only [List.lookup] at h1 h2
      split at h1
      · rename_i q1'
        split at h2
        · rename_i q2'
          exact (eq_of_beq q1').trans (eq_of_beq q2').symm
        · cases h2
      · cases h1
    · cases i with
      | zero =>
        have ey : y = ("__class__" : Str) := by simpa using e.symm
        subst ey
        refine ⟨cc, by simp, fun v hv => ?_⟩
        have hv : v = .ref D := by simpa using hv.symm
        subst hv
        exact ⟨_, rfl, ⟨_, (e2.bs _ _ hccb).1, rfl⟩⟩
      | succ i => simp at e
  have rr : Vals [.ref x, .ref T] [Value.ref x, Value.ref T] := .cons rfl (.cons rfl .nil)
  have I := inv_startN (CX := CX) (E := E) (K := K) (mg := mg) (base := base) (F := F) (f := f) (N := N) (tk := s2.toks + [(p1, Value.ref x), (pv, Value.ref T)].length) Sc hr.hd e2 rfl rr CA hns kp
  have fin : ∀ {s' : Shared} {σ' : L2.St} {pins : List (Addr × Obj)} {H' : Hp}, Inv (ncx CX P w K mg base N F f A outer s2 H2 E) pins σ' H' s' → Q .non H' → CR CX outer P w H s Q E (.ok (.ret .none)) s' :=
    fun {s' σ' pins H'} J q => ⟨.non, H', J.os.trans os2, J.bare, un2.trans J.base, J.hok, rfl, q⟩
  show codeAny _ _ (.func F.body (envF F f s2.heap.objs.size)) _ _
  refine PySem.ks_codeAny_funcAt ?_
  rw [hbody]
  generalize hs3 : ({ s2 with heap := h₁, toks := s2.toks + [(p1, Value.ref x), (pv, Value.ref T)].length } : Shared) = s3 at I ⊢
  have KX3 : K.In s3.heap := I.kIn
  refine PySem.ks_wpAt_execs_cons (PySem.ks_wpAt_Expr_any (at_starCall ?_ (by rfl)) ?_ ?_)
  · obtain ⟨occ, odc, vsc, file, tf, slc, hcode, hvs, hfile⟩ := S.code
    obtain ⟨ar, har, hap⟩ := Option.map_eq_some_iff.mp hp
    refine PySem.ks_wpAt_super_base (f := f) hks (Sc.frk _ (by simp)) hat rfl (KX3 _ _ lk) rfl har rfl (KX3 _ _ hcode) rfl hvs hfile htop ?_
    rw [hap]
    obtain ⟨mb, g1, g2⟩ := I.mod.blt
    refine PySem.W.ks_loadName_global Sc.kind hks (Calls.loadGlobal_builtin (I.mod.glob.keeps I.bk) hmg (g1.keeps I.bk) ((g2 "super" (by decide)).trans hboot) ⟨rfl, ?_⟩)
    have hcl : (envF F f s2.heap.objs.size).cells.lookup ("__class__" : Str) = some cc := by
      show F.cl.lookup ("__class__" : Str) = some cc
      rw [S.cl]
      simp
    refine wpAny_loadName_free Sc.kind (Sc.frk _ (by simp)) hcl ⟨_, KX3 _ _ hcell, rfl⟩ ?_
    have nd : pv ≠ p1 := fun z => by
      have q := (List.getElem?_inj (i := 0) (j := 1) (List.getElem?_eq_some_iff.mp hN.1).1 Sc.nd).mp (by rw [hN.1, hN.2, z])
      cases q
    have hns3 : s3.heap.Ns s2.heap.objs.size (fun y => [(p1, Value.ref x), (pv, Value.ref T)].reverse.lookup y) := by rw [← hs3]; exact hns
    refine wpAny_loadName_local (v := .ref x) Sc.kind (Sc.par p1 (by simp)) hns3 (by
      show List.lookup p1 [(pv, Value.ref T), (p1, Value.ref x)] = _
      have : (p1 == pv) = false := beq_eq_false_iff_ne.mpr (Ne.symm nd)
      simp [List.lookup, this]) ?_
    obtain ⟨cd, oD, hcd, hD1, hD2⟩ := cls_at KX3 S.cls
    refine PySem.ks_wpAny_isType_cls hD1 hD2 ⟨rfl, ?_⟩
    obtain ⟨mA, J, _⟩ := ins_get I.hok hHx
    obtain ⟨oxd, J, _⟩ := J.look
    obtain ⟨h3, g3, d3, t3, o3⟩ := s3
    refine PySem.ks_wpAny_call_super hD1 hD2 J.at_ J.cls (fun c e => ?_) (PySem.W.looks_mroIn KX3 S.sub) (fun h4 e4 k4 => ?_)
    · have z := J.no
      unfold PySem.W.notCls at z
      rw [e] at z
      exact Bool.noConfusion z
    have I4 := I.kept (t' := t3) k4
    have KX4 : K.In h4 := I4.kIn
    obtain ⟨of, hof, hofc⟩ : ∃ of, h4.get? g = some of ∧ of.cls = .type "function" := by
      have ht' : (K.lookup g).map (·.cls) = some (.type "function") := S.fn
      cases z : K.lookup g with
      | none => rw [z] at ht'; cases ht'
      | some of => rw [z] at ht'; exact ⟨of, KX4 _ _ z, Option.some.inj ht'⟩
    have hsup := S.sup
    unfold PySem.W.ks_superIn at hsup
    rw [hcd] at hsup
    refine super_getAttr e4 (PySem.W.looks_opaque KX4 S.opq) (l₀ := cd.mro) (fun A Q E s k q => wpAny_bind ((PySem.W.looks_clsIn KX4 hcd) A _ E s k (wpAny_pure q))) rfl KX4 hsup hof hofc (PySem.W.ks_ne KX3 J hcd) hat ?_
    have I5 := pin_new (o := PySem.W.methodObj (.ref g) (.ref x)) (h' := h4.push (PySem.W.methodObj (.ref g) (.ref x))) (a := h4.objs.size) (t' := t3 + 1) I4 (fun _ _ z => Heap.get?_push_of_some _ z) (Nat.le_refl _) (Heap.get?_push_size h4 rfl) (fun v z => nomatch z)
    generalize hq5 : h4.objs.size = qa at I5 ⊢
    have hns5 : (h4.push (PySem.W.methodObj (.ref g) (.ref x))).Ns s2.heap.objs.size (fun y => [(p1, Value.ref x), (pv, Value.ref T)].reverse.lookup y) := (hns3.keeps k4).keeps fun _ _ z => Heap.get?_push_of_some _ z
    refine PySem.W.ks_call (P := PySem.W.MethP K qa g (.ref x)) rfl (PySem.W.keeps_M S.fni) (PySem.W.ks_lone (wpAny_Name (wpAny_loadName_local (v := .ref T) Sc.kind (Sc.par pv (by simp)) hns5 (by
      show List.lookup pv [(pv, Value.ref T), (p1, Value.ref x)] = _
      simp [List.lookup]) ?_) hpd))
    refine star_tup I5 (.inl (.inl hHT)) fun us6 s6 I6 r6 => ⟨⟨pin_at I6, I6.kIn⟩, ?_⟩
    refine wpAny_mono (wpAny_call (PySem.W.method_call (pin_at I6) (run_fnR (us := .ref x :: us6) (vs := .ref x :: ws) G ((hr.mono (Nat.le_succ _)).deeper _) (hpass A outer s2 H2 E) I6 (.cons rfl r6) hT))) (fun u s7 h7 => ?_) fun e s7 h7 => ?_
    · obtain ⟨v7, H7, I7, rv7, q7⟩ := h7
      show PySem.wpAt _ _ _ (execs [] _) _ _ _
      exact PySem.wpAt_of_wpAny (wpAny_pure (fin I7 q7))
    · exact wpAny_mono h7 (fun _ s'' z => hCX outer s H s2 H2 E e s'' un2 kp2 os2 z) fun e' s'' z => hCX outer s H s2 H2 E e' s'' un2 kp2 os2 z
  · show (F.scope.kind == .module && _) = false
    rw [Sc.kind]
    rfl
  · rfl
end
end Su

set_option Elab.async false
set_option linter.all false
set_option maxRecDepth 100000
set_option maxHeartbeats 4000000
/-! MiSi: objects whose __init__ has a star parameter, own or inherited by super().__init__(*v); C(e, ..), C(*e), C(). -/
namespace Mi
open PySem PySem.Spec PyProof.Rows L2 He
variable [TB : Tabl]
def spIS (W : Wo) (ck : Str) (mf : List D → M (List Str × List D)) : Sp := fun vs H Q _ => vs.length ≤ 90000 ∧ ∃ p F u H1 x dx ws ds, vs = .ref x :: ws ∧ H1 x = none ∧ H1 dx = none ∧ dx ≠ x ∧
  H = upd (upd H1 dx (.own x)) x (.ins (W.cl ck) dx []) ∧ Gd p u F H1 ∧ Reps W p F ws ds ∧ After p F H1 (mf ds u) fun r _ F' H' => ∀ dx' vs', F' x = none → H' x = some (.ins (W.cl ck) dx' (r.1.zip vs')) → r.1.length = vs'.length → Reps W p F' vs' r.2 → Q .non H'
def mInitS (n : Nat) (ck : Str) (mb : MS) : List D → M (List Str × List D) := fun ds => mInit n ck mb [.tup ds]
theorem upd3 {H : Hp} {q a b : Addr} {o o1 o2 : HO} (h1 : q ≠ a) (h2 : q ≠ b) : upd (upd (upd H a o1) b o2) q o = upd (upd (upd H q o) a o1) b o2 := by
  funext c
  by_cases hq : c = q
  · subst hq; rw [upd_same, upd_ne h2, upd_ne h1, upd_same]
  · rw [upd_ne hq]
    by_cases hb : c = b
    · subst hb; rw [upd_same, upd_same]
    · rw [upd_ne hb, upd_ne hb]
      by_cases ha : c = a
      · subst ha; rw [upd_same, upd_same]
      · rw [upd_ne ha, upd_ne ha, upd_ne hq]
theorem none2 {H : Hp} {q a b : Addr} {o1 o2 : HO} (h : upd (upd H a o1) b o2 q = none) : q ≠ a ∧ q ≠ b ∧ H q = none := by
  by_cases hb : q = b
  · subst hb; rw [upd_same] at h; cases h
  · rw [upd_ne hb] at h
    by_cases ha : q = a
    · subst ha; rw [upd_same] at h; cases h
    · rw [upd_ne ha] at h
      exact ⟨ha, hb, h⟩
section
variable {P : Program} {w : World} {K : PySem.W.Frag} {mg : Str → Option Value} {base : Heap} {x qual : Str} {params : Arguments} {body : List Stmt} {scope : Scope} {dvs : List V} {kws : List (Str × V)} {f : Addr} {fd : FuncData} {W : Wo} {N ps : List Str} {k n : Nat} {mb : MS} {ck nm pv : Str}
theorem init_body (hb : ∀ (cdv : Value) (A : Around) (outer : List PySem.Env) (s : Shared) (H : Hp) (E : XK) (p : Addr) (F0 H0 : Hp) (sf : Addr), Room k (A.deeper (envOfC qual scope s.heap.objs.size f cdv)) → DB (cxOf CX0 P w K mg base (nm :: N) qual scope f cdv A outer s H E).nox ⟨W, p, F0, H0, sf, noX⟩ body mb)
    (cdv : Value) (A : Around) (outer : List PySem.Env) (s : Shared) (H : Hp) (vs : List V) (Q : VK) (E : XK) (hr : Room k (A.deeper (envOfC qual scope s.heap.objs.size f cdv))) (h : spI W ck n (mInit (N.length + 1) ck mb) vs H Q E) :
    ∃ t, PSs (cxOf CX0 P w K mg base (nm :: N) qual scope f cdv A outer s H E) body t ∧ t { nx := fun _ H' => Q .non H', rt := Q } (L2.start (nm :: N) vs) H := by
  obtain ⟨hlen, p, F0, u, H1, x, dx, ws, ds, rfl, hx, hdx, hne, rfl, g, r, h⟩ := h
  have hpx : p ≠ x := fun z => g.ne (z ▸ hx)
  have hpd : p ≠ dx := fun z => g.ne (z ▸ hdx)
  have s1 : Stp p F0 H1 F0 (upd (upd H1 dx (.own x)) x (.ins (W.cl ck) dx [])) := ⟨fun _ _ e => e, fun a o _ e _ => by rw [upd_ne (ne_of_none e hx), upd_ne (ne_of_none e hdx)]; exact e, fun a ps _ e => ⟨ps, by rw [upd_ne (ne_of_none e hx), upd_ne (ne_of_none e hdx)]; exact e⟩, fun _ _ e => .inl e⟩
  have g1 : Gd p u F0 (upd (upd H1 dx (.own x)) x (.ins (W.cl ck) dx [])) := ⟨fun a o e => by rw [upd_ne (ne_of_none (g.ex a o e) hx), upd_ne (ne_of_none (g.ex a o e) hdx)]; exact g.ex a o e, by rw [upd_ne hpx, upd_ne hpd]; exact g.pu, g.off, g.nt, g.tb.ext fun b o e => by rw [upd_ne (ne_of_none e hx), upd_ne (ne_of_none e hdx)]; exact e, g.hp⟩
  have hFx : F0 x = none := g.fresh hx
  refine ⟨_, PSs.nox (hb cdv A outer s _ E p F0 H1 x hr), F0, u, startI (N.length + 1) ck ds, ⟨s1, g1, ?_⟩, ?_⟩
  · have e0 := env_start (c := ⟨W, p, F0, H1, x, noX⟩) (H := upd (upd H1 dx (.own x)) x (.ins (W.cl ck) dx [])) (N := N) r
    have es : L2.start (nm :: N) (.ref x :: ws) = some (.ref x) :: L2.start N ws := by
      unfold L2.start
      rw [List.length_cons, List.length_cons, Nat.add_sub_add_right]
      rfl
    have er : startI (N.length + 1) ck ds = .oi ck [] [] :: startE N.length ds := rfl
    rw [es, er]
    have nown : ∀ {i : Nat} {s : Sd}, (startE N.length ds)[i]? = some s → s.own = false := fun {i s} e => by
      unfold startE at e
      by_cases hi : i < (ds.map Sd.sh).length
      · rw [List.getElem?_append_left hi, List.getElem?_map] at e
        cases q : ds[i]? with
        | none => rw [q] at e; cases e
        | some d => rw [q] at e; cases e; rfl
      · rw [List.getElem?_append_right (by omega), List.getElem?_replicate] at e
        split at e
        · cases e; rfl
        · cases e
    refine ⟨by simp [e0.len], fun i t e => ?_, fun i j t t' hij e1 e2 o1 o2 => ?_⟩
    · cases i with
      | zero =>
        simp at e
        subst e
        exact ⟨dx, [], rfl, upd_same, hFx, Ne.symm hpx, hx, rfl, Reps.nil⟩
      | succ i => exact e0.at_ i t (by simpa using e)
    · cases i with
      | zero =>
        cases j with
        | zero => exact absurd rfl hij
        | succ j => rw [nown (by simpa using e2)] at o2; cases o2
      | succ i => rw [nown (by simpa using e1)] at o1; cases o1
  · unfold mInit at h
    cases e : mb (startI (N.length + 1) ck ds) u with
    | none => rw [e] at h; exact h
    | some y =>
      obtain ⟨fl, u1⟩ := y
      rw [e] at h
      cases fl with
      | nx ρ' =>
        intro σ' F' H' _ S'
        have h' : After p F0 H1 (match (ρ'[0]? : Option Sd) with
          | some (Sd.oi k ks es) => if k = ck then some ((ks, es), u1) else none
          | _ => none) fun r _ F' H' => ∀ dx' vs', F' x = none → H' x = some (.ins (W.cl ck) dx' (r.1.zip vs')) → r.1.length = vs'.length → Reps W p F' vs' r.2 → Q .non H' := h
        split at h'
        · rename_i k' ks es e0
          split at h'
          · rename_i hk
            subst hk
            obtain ⟨dx', vs', _, h2, h3, _, _, h5, h6⟩ := S'.env.at_ 0 _ e0
            exact h' F' H' S'.ent S'.gd dx' vs' h3 h2 h5 h6
          · exact False.elim h'
        · exact False.elim h'
      | _ => exact False.elim h
theorem fn_initS (F : FunD K x qual params body scope [] kws f fd) (S : FnScope (nm :: N) ([nm] ++ [pv]) scope)
    (hbd : ∀ (kV doc pm : Value) (an : Option Addr) (cdv ct : Value) (us rest : List Value), us.length = [nm].length → bindArgs (PySem.W.fnOf x qual params body scope .none kV doc pm an cdv ct) ⟨us ++ rest, []⟩ = (newTuple rest >>= fun t => pure ([nm].zip us ++ [(pv, t)])))
    (hb : ∀ (cdv : Value) (A : Around) (outer : List PySem.Env) (s : Shared) (H : Hp) (E : XK) (p : Addr) (F0 H0 : Hp) (sf : Addr), Room k (A.deeper (envOfC qual scope s.heap.objs.size f cdv)) → DB (cxOf CX0 P w K mg base (nm :: N) qual scope f cdv A outer s H E).nox ⟨W, p, F0, H0, sf, noX⟩ body mb) :
    FnR P w K mg base CX0 (k + 1) f (spIS W ck (mInitS (N.length + 1) ck mb)) := by
  obtain ⟨oc, od, dV, kV, doc, pm, an, cdv, ct, osl, rfl, lk, hcd, hdf, _⟩ := F.ex
  have hdv : dV = .none := by
    rcases hdf with ⟨_, h⟩ | ⟨h, _⟩
    · exact h
    · exact absurd rfl h
  subst hdv
  have hst := StX.fn_star (P := P) (w := w) (mg := mg) (base := base) (CX := CX0) (k := k) (sp := spI W ck 1 (mInit (N.length + 1) ck mb)) lk hcd S StX.cxUp_none (hbd kV doc pm an cdv ct) (fun A outer s H vs Q E hr h => init_body hb cdv A outer s H vs Q E hr h)
  intro A outer s H us vs Q E hr e0 r hsp
  refine hst A outer s H us vs Q E hr e0 r ?_
  obtain ⟨hl, p, F1, u, H1, x, dx, ws, ds, rfl, hx, hdx, hne, rfl, g, rr, h⟩ := hsp
  refine ⟨[.ref x], ws, rfl, rfl, sz5 (by have : (V.ref x :: ws).length = ws.length + 1 := rfl; omega), fun q hq => ?_⟩
  obtain ⟨q1, q2, q3⟩ := none2 hq
  have st := Stp.new (o := .tup ws) g q3
  refine ⟨rfl, p, upd F1 q (.tup ws), u, upd H1 q (.tup ws), x, dx, [.ref q], [.tup ds], rfl, by rw [upd_ne (Ne.symm q2)]; exact hx, by rw [upd_ne (Ne.symm q1)]; exact hdx, hne, upd3 q1 q2, g.new q3, Reps.cons (Rep.mkT upd_same (rr.mono st.ef)) Reps.nil, ?_⟩
  have h' : After p F1 H1 (mInit (N.length + 1) ck mb [.tup ds] u) fun r _ F' H' => ∀ dx' vs', F' x = none → H' x = some (.ins (W.cl ck) dx' (r.1.zip vs')) → r.1.length = vs'.length → Reps W p F' vs' r.2 → Q .non H' := h
  cases e : mInit (N.length + 1) ck mb [.tup ds] u with
  | none => rw [e] at h'; exact h'
  | some y =>
    rw [e] at h'
    obtain ⟨d, u1⟩ := y
    exact fun F2 H2 s2 g2 => h' F2 H2 (st.trans (g.new q3).ne s2) g2
/-- what the base's promise gives the inheriting one -/
theorem spIS_super {mf : List D → M (List Str × List D)} {vs : List V} {H : Hp} {Q : VK} {E : XK} (h : spIS W ck mf vs H Q E) :
    ∃ (x : Addr) (ws : List V) (dx : Addr) (fs : List (Str × V)), vs = .ref x :: ws ∧ H x = some (.ins (W.cl ck) dx fs) ∧ ws.length ≤ sizeLine ∧ ∀ p, H p = Option.none → spIS W ck mf vs (upd H p (.tup ws)) (fun _ H' => Q .non H') E := by
  obtain ⟨hl, p, F1, u, H1, x, dx, ws, ds, rfl, hx, hdx, hne, rfl, g, rr, h⟩ := h
  refine ⟨x, ws, dx, [], rfl, upd_same, sz5 (by have : (V.ref x :: ws).length = ws.length + 1 := rfl; omega), fun q hq => ?_⟩
  obtain ⟨q1, q2, q3⟩ := none2 hq
  have st := Stp.new (o := .tup ws) g q3
  refine ⟨hl, p, upd F1 q (.tup ws), u, upd H1 q (.tup ws), x, dx, ws, ds, rfl, by rw [upd_ne (Ne.symm q2)]; exact hx, by rw [upd_ne (Ne.symm q1)]; exact hdx, hne, upd3 q1 q2, g.new q3, rr.mono st.ef, ?_⟩
  cases e : mf ds u with
  | none => rw [e] at h; exact h
  | some y =>
    rw [e] at h
    obtain ⟨d, u1⟩ := y
    exact fun F2 H2 s2 g2 => h F2 H2 (st.trans (g.new q3).ne s2) g2
end
def mMakeS (ck : Str) (mf : List D → M (List Str × List D)) (ms : MA) : ME := fun ρ => M.bind (ms ρ) fun ds => if ds.length < 80000 then M.bind (mf ds) fun r => M.pure (.obj ck r.1 r.2) else lft none
section
variable {X : Cx} {c : Cf} {k : Nat} {f : Addr} {x ck : Str} {p pos sp_ : Pos} {e : Expr} {es : List Expr} {ms : MA} {m : ME} {mf : List D → M (List Str × List D)}
theorem makeS_ok {p : Addr} {F1 H1 : Hp} {u1 : PuS} {vs : List V} {ds : List D} {W : Wo} {Q : VK} (hc : ck ∈ W.cs) (g1 : Gd p u1 F1 H1) (rvs : Reps W p F1 vs ds) (h1 : After p F1 H1 ((if ds.length < 80000 then M.bind (mf ds) fun r => M.pure (D.obj ck r.1 r.2) else lft none) u1) fun d _ F' H' => ∀ v, Rep W p F' v d → Q v H')
    (a dx : Addr) (ha : H1 a = none) (hdx : H1 dx = none) (hne : dx ≠ a) : spIS W ck mf (.ref a :: vs) (upd (upd H1 dx (.own a)) a (.ins (W.cl ck) dx [])) (fun v H2 => v = .non ∧ Q (.ref a) H2) E0 := by
  split at h1
  · rename_i hl
    have e2 := make_ok (n := ds.length) (mf := mf) (Q := Q) hc g1 rvs (by rw [if_pos rfl]; exact h1) a dx ha hdx hne
    obtain ⟨_, p', F', u', H', x', dx', ws, ds', ev, hx', hdx', hne', eH, g', r', h'⟩ := e2
    have := rvs.1
    exact ⟨by simp only [List.length_cons]; omega, p', F', u', H', x', dx', ws, ds', ev, hx', hdx', hne', eH, g', r', h'⟩
  · exact False.elim h1
theorem dMakeS (hc : ck ∈ c.W.cs) (Mk' : Mk X.K (c.W.cl ck) f) (G : FnR X.prog X.w X.K X.mg X.base CX0 k f (spIS c.W ck mf)) (hr : Room (k + 1) X.A) (hg : Gl X x) (hm : X.mg x = some (.ref (c.W.cl ck)))
    (ha : DA X c (e :: es) ms) (hdb : (x == ("__debug__" : Str)) = false := by decide) (he : starEach (e :: es) X.env = (false, eval e X.env) :: starEach es X.env := by rfl) (hpl : (backTo pos (starEach es X.env)).any (·.1) = false := by rfl) :
    DE X c (.Call (.Name x p) (e :: es) [] pos) (mMakeS ck mf ms) :=
  (StX.pe_makeR Mk' G hr hg hm pass0 ha hdb he hpl).imp fun σ H Q ⟨F, u, ρ, S, h⟩ => ⟨F, u, ρ, S, (After.split h).imp fun ds u1 F1 H1 _ s1 g1 h1 vs rvs => fun a dx ha hdx hne => makeS_ok hc g1 rvs h1 a dx ha hdx hne⟩
/-- C(*e) -/
theorem pe_makeS1 {CX : CXT} {C : Addr} {sp : Sp} {E : XK} {te : TE} (M : Mk X.K C f) (F : FnR X.prog X.w X.K X.mg X.base CX k f sp) (hr : Room (k + 1) X.A) (hg : Gl X x) (hm : X.mg x = some (.ref C)) (hx : Passes CX X E) (he : PE X e te) (hdb : (x == ("__debug__" : Str)) = false := by decide)
    (hst : starEach [.Starred e sp_] X.env = [(true, eval e X.env)] := by rfl) :
    PE X (.Call (.Name x p) [.Starred e sp_] [] pos) (fun σ H Q => te σ H fun y H1 => ∃ a xs, y = V.ref a ∧ (SqT X.K H1 a xs ∨ SqL X.K H1 a xs) ∧ ∀ x dx, H1 x = Option.none → H1 dx = Option.none → dx ≠ x → sp (V.ref x :: xs) (upd (upd H1 dx (.own x)) x (.ins C dx [])) (fun v H2 => v = .non ∧ Q (.ref x) H2) E) := by
  refine ⟨fun pins s σ H Q I h => ?_⟩
  refine wpAny_Call_Name_kw (ld_glob I hg hm ?_ hdb)
  refine PySem.W.callWith_S (h₀ := X.base) I.ok.mod.kin M.kp (thn (he.run pins s σ H _ I h) fun v s1 ⟨y, H1, I1, ry, a, xs, ey, hxs, q⟩ => ?_) hst
  subst ey
  obtain rfl : v = Value.ref a := ry
  exact StX.star_any I1 hxs fun us s2 I2 rv => ⟨I2.kIn, StX.run_makeR M F hr hx I2 rv q⟩
theorem dMakeS1 (hc : ck ∈ c.W.cs) (Mk' : Mk X.K (c.W.cl ck) f) (G : FnR X.prog X.w X.K X.mg X.base CX0 k f (spIS c.W ck mf)) (hr : Room (k + 1) X.A) (hg : Gl X x) (hm : X.mg x = some (.ref (c.W.cl ck)))
    (ha : DE X c e m) (hdb : (x == ("__debug__" : Str)) = false := by decide) (hst : starEach [.Starred e sp_] X.env = [(true, eval e X.env)] := by rfl) (hK : X.K = c.W.K := by rfl) :
    DE X c (.Call (.Name x p) [.Starred e sp_] [] pos) (mMakeS ck mf (mStar m mNil)) :=
  (pe_makeS1 Mk' G hr hg hm pass0 ha hdb hst).imp fun σ H Q ⟨F, u, ρ, S, h⟩ => ⟨F, u, ρ, S, (After.split (After.split h)).imp fun x u1 F1 H1 _ s1 g1 h1 v rv => by
    obtain ⟨xs, e1, h2⟩ := lft_some' h1
    have h3 := After.now (a := xs ++ []) (u := u1) g1 h2
    rw [List.append_nil] at h3
    cases x with
    | lst ds =>
      cases e1
      obtain ⟨a, vs, rfl, ha, rs⟩ := rv.lst_
      exact ⟨a, vs, rfl, .inr (by rw [hK]; exact sq_l g1.ex (.inl (.inl ha))), fun a dx ha hdx hne => makeS_ok hc g1 rs h3 a dx ha hdx hne⟩
    | tup ds =>
      cases e1
      obtain ⟨a, vs, rfl, ha, rs⟩ := rv.tup_
      exact ⟨a, vs, rfl, .inl (by rw [hK]; exact sq_t g1.ex ha), fun a dx ha hdx hne => makeS_ok hc g1 rs h3 a dx ha hdx hne⟩
    | _ => cases e1⟩
end
section
variable {ck : Str} {mf : List D → M (List Str × List D)} {ms : MA} {ρ : Env} {u : PuS} {P : D → PuS → Prop}
theorem ok_makeS : Ok (mMakeS ck mf ms ρ) u P ↔ Ok (ms ρ) u fun ds u1 => ds.length < 80000 ∧ Ok (mf ds) u1 fun r u2 => P (.obj ck r.1 r.2) u2 := by
  unfold mMakeS
  simp only [ok_bind]
  constructor
  · refine fun h => h.mono fun ds u1 z => ?_
    simp only [ok_ite] at z
    split at z
    · rename_i hl
      refine ⟨hl, ?_⟩
      simpa only [ok_bind, ok_pure] using z
    · exact (ok_none.mp z).elim
  · refine fun h => h.mono fun ds u1 z => ?_
    rw [if_pos z.1]
    simpa only [ok_bind, ok_pure] using z.2
end
end Mi

set_option Elab.async false
set_option linter.all false
set_option maxRecDepth 100000
set_option maxHeartbeats 4000000
/-! MiSv: what the checks of Mp3 say. -/
namespace Mi
open PySem PySem.Spec PyProof.Rows L2 He NdefX
variable [TB : Tabl]
/-- what is asked of the program itself where super() stands -/
class PSup (P : Program) (file : Str) : Prop where
  file_ : P.main.file = file
  top : (P.main.scope.names.lookup ("super" : Str)).isSome = false
theorem boot_super : bootBuiltins "super" = some (.type "super") := by kernel_rfl
theorem fn_super {P : Program} {w : World} {K : PySem.W.Frag} {mg : Str → Option Value} {base : Heap} {k : Nat} {W : Wo} {file c b : Str} {mf : List D → M (List Str × List D)} [PF : PSup P file] (h : (Ft.raw (supB file c b "__init__")).ok K = true) (hm : mg "super" = none) (hW : W.cl c = ga K c)
    (G : FnR P w K mg base CX0 k (ma K (ga K b) "__init__") (spIS W c mf)) : FnR P w K mg base CX0 (k + 2) (ma K (ga K c) "__init__") (spIS W c mf) := by
  have h : supB file c b "__init__" K = true := h
  unfold supB at h
  split at h
  · rename_i oc od fd osl lk
    split at h
    · rename_i cd n cc a q0 q1 m' ap v q2 q3 q4 q5 x qx v2 qv e1 e2 e3 e4
      simp only [Bool.and_eq_true, decide_eq_true_eq] at h
      obtain ⟨rfl, rfl, rfl, rfl, rfl, rfl, h7, h8, h9, h10, h11, h12, h13, h14, h15, h16, h17, h18, h19, h20, h21⟩ := h
      obtain ⟨name, qual, params, body, scope, globals, closure, defaults, kwd, doc, pm, an, code, ct, builtins⟩ := fd
      dsimp only at e1 e2 e3 e4 h7 h8 h9 h10 h11 h12 h13
      subst e1 e2 e3 e4 h7 h8 h9 h10
      have hcode : ∃ (oc : Value) (od : Option Addr) (vs : Array Value) (fl : Str) (tf : Tok) (sl : Array (Option Value)), K.lookup cd = some ⟨oc, od, .fields vs, sl⟩ ∧ vs[2]? = some (.str fl tf) ∧ (file == fl) = true := by
        split at h14
        · rename_i oc2 od2 vs sl e
          split at h14
          · rename_i fl tf e'
            exact ⟨_, _, _, _, _, _, e, e', h14⟩
          · cases h14
        · cases h14
      have hcell : ∃ (oc : Value) (od : Option Addr) (sl : Array (Option Value)), K.lookup cc = some ⟨oc, od, .cell (some (.ref (W.cl c))), sl⟩ := by
        split at h15
        · rename_i oc2 od2 D sl e
          have := of_decide_eq_true h15
          subst this
          rw [hW]
          exact ⟨_, _, _, e⟩
        · cases h15
      obtain ⟨oc2, od2, vs, fl, tf, sl, hc1, hc2, hc3⟩ := hcode
      have S : Su.SupF P K mg (W.cl c) (ma K (ga K c) "__init__") (ma K (ga K b) "__init__") cc ⟨name, qual, ⟨[], [⟨"self", none, qx⟩], some ⟨"keys", none, qv⟩, [], [], none, []⟩, [.Expr (.Call (.Attribute (.Call (.Name "super" q0) [] [] q1) "__init__" ap) [.Starred (.Name "keys" q2) q3] [] q4) q5], scope, [(("__class__" : Str), cc)], cd⟩ "__init__" :=
        ⟨⟨_, _, _, _, _, _, _, lk⟩, rfl, h11, ⟨_, _, _, _, _, _, hc1, hc2, by rw [PF.file_]; exact hc3⟩, hcell, by rw [hW]; exact h16, by rw [hW]; exact h17, by rw [hW]; exact eqO_ok h18, h19, h20, eqO_ok h21⟩
      have R := Su.fnR_super (CX := CX0) (w := w) (base := base) (k := k) (N := ["self", "keys", "__class__"]) (p1 := "self") (pv := "keys") (sp := spIS W c mf) S (nscope_by h12) ⟨rfl, rfl⟩ StX.cxUp_none
        (fun doc pm ct an us rest hl => StX.bind_star1 (p1 := "self") (pv := "keys") (B := fun l => bindArgs (PySem.W.fnX name qual ⟨[], [⟨"self", none, qx⟩], some ⟨"keys", none, qv⟩, [], [], none, []⟩ [.Expr (.Call (.Attribute (.Call (.Name "super" q0) [] [] q1) "__init__" ap) [.Starred (.Name "keys" q2) q3] [] q4) q5] scope [(("__class__" : Str), cc)] .none .none doc pm an (.ref cd) ct) ⟨l, []⟩) (fun a => by rfl) (fun a r rs => by rfl) us rest hl) rfl rfl hm h13 (by decide) PF.top (by decide) boot_super (fun A outer s H E pins σ H' s' e s'' _ z => False.elim z) G
      exact R.imp fun vs H Q E h => by
        obtain ⟨x, ws, dx, fs, h1, h2, h3, h4⟩ := spIS_super h
        exact ⟨x, ws, dx, fs, h1, h2, h3, h4⟩
    · cases h
  · cases h
end Mi


set_option Elab.async false
set_option linter.all false
set_option maxRecDepth 100000
set_option maxHeartbeats 4000000
/-! MiCl: what hangs on the class of an object (mCls), a class's constant texts, objects called, tuples of texts of the module. -/
namespace Mi
open PySem PySem.Spec PyProof.Rows L2 He
variable [TB : Tabl]
/-! ### by the class of an object -/
def mCls (mo : ME) (f : Str → ME) : ME := fun ρ u => match mo ρ u with
  | some (.obj c _ _, _) => f c ρ u
  | _ => none
def mOff : ME := fun _ _ => none
/-- for one of three classes -/
def by3 {α : Type} (a b c : Str) (x y z o : α) : Str → α := fun k => if k = a then x else if k = b then y else if k = c then z else o
section
variable {X : Cx} {c : Cf} {e : Expr} {mo m1 m2 m3 : ME} {a b d : Str}
theorem dCls3 (h1 : DE X c e m1) (h2 : DE X c e m2) (h3 : DE X c e m3) : DE X c e (mCls mo (by3 a b d m1 m2 m3 mOff)) := by
  refine ⟨fun pins s σ H Q I ⟨F, u, ρ, S, h⟩ => ?_⟩
  unfold mCls at h
  split at h
  · unfold by3 at h
    split at h
    · exact h1.run pins s σ H Q I ⟨F, u, ρ, S, h⟩
    · split at h
      · exact h2.run pins s σ H Q I ⟨F, u, ρ, S, h⟩
      · split at h
        · exact h3.run pins s σ H Q I ⟨F, u, ρ, S, h⟩
        · exact False.elim h
  · exact False.elim h
theorem ok_cls {f : Str → ME} {ρ : Env} {u u1 : PuS} {k : Str} {ks : List Str} {ds : List D} {P : D → PuS → Prop} (h : mo ρ u = some (.obj k ks ds, u1)) : Ok (mCls mo f ρ) u P ↔ Ok (f k ρ) u P := by
  have e : mCls mo f ρ u = f k ρ u := by
    show (match mo ρ u with
      | some (.obj c _ _, _) => f c ρ u
      | _ => none) = _
    rw [h]
  unfold Ok
  rw [e]
end
/-! ### constants of a class -/
theorem con_ok {K : PySem.W.Frag} {c f z : Str} (h : (Ft.raw (conB c f z)).ok K = true) : (∃ t, Con K (ga K c) f (.str z) (.str z t)) ∧ ClX.CRead K (ga K c) (.type "type") ∧ ∃ t, ClX.CVal K (ga K c) (.type "type") f (.str z) (.str z t) := by
  have h : conB c f z K = true := h
  unfold conB at h
  obtain ⟨h1, h2⟩ := ba h
  obtain ⟨h20, h3⟩ := ba h2
  obtain ⟨h3, h4⟩ := ba h3
  obtain ⟨h4, h5⟩ := ba h4
  refine ⟨?_, ⟨h3, eqO_ok h4⟩, ?_⟩
  · split at h1
    · rename_i y t e
      obtain ⟨h6, h7⟩ := ba h1
      have := of_decide_eq_true h6
      subst this
      refine ⟨t, e, ⟨t, rfl⟩, ?_, by simpa using h20⟩
      split at h7
      · rename_i e2; exact e2
      · cases h7
    · cases h1
  · split at h5
    · rename_i y t e
      have := of_decide_eq_true h5
      subst this
      exact ⟨t, e, ⟨t, rfl⟩⟩
    · cases h5
def conD (k f : Str) (z : D) : D → Option D := fun d => match d with
  | .obj c ks _ => if c = k ∧ f ∉ ks then some z else none
  | _ => none
def cconD (k : Str) (z : D) : D → Option D := fun d => match d with
  | .cls c => if c = k then some z else none
  | _ => none
section
variable {X : Cx} {c : Cf} {e : Expr} {mo : ME} {pos : Pos}
theorem dCon {ck f z : Str} {t : Tok} (he : DE X c e mo) (hc : Cls X.K (c.W.cl ck)) (hk : Con X.K (c.W.cl ck) f (.str z) (.str z t)) (hb : attributeBase e f X.env (eval e X.env) = eval e X.env := by rfl) : DE X c (.Attribute e f pos) (mUn (conD ck f (.str z)) mo) :=
  (pe_con he hb).imp fun σ H Q ⟨F, u, ρ, S, h⟩ => ⟨F, u, ρ, S, (After.split h).imp fun d u1 F1 H1 _ s1 g1 h1 v rv => by
    obtain ⟨y, e1, h2⟩ := lft_some h1
    unfold conD at e1
    split at e1
    · rename_i c' ks' ds _h
      split at e1
      · rename_i hh
        obtain ⟨rfl, hn⟩ := hh
        cases e1
        obtain ⟨a, dx, vs, rfl, ha, lk, r⟩ := rv.obj_
        exact ⟨a, _, dx, _, _, _, rfl, g1.ex _ _ ha, hc, hk, zip_none hn, After.now g1 h2 _ (.str _)⟩
      · cases e1
    · cases e1⟩
theorem dCCon {ck f z : Str} {t : Tok} (he : DE X c e mo) (hr : ClX.CRead X.K (c.W.cl ck) (.type "type")) (hk : ClX.CVal X.K (c.W.cl ck) (.type "type") f (.str z) (.str z t)) (hb : attributeBase e f X.env (eval e X.env) = eval e X.env := by rfl) : DE X c (.Attribute e f pos) (mUn (cconD ck (.str z)) mo) :=
  (ClX.pe_cval he hb).imp fun σ H Q ⟨F, u, ρ, S, h⟩ => ⟨F, u, ρ, S, (After.split h).imp fun d u1 F1 H1 _ s1 g1 h1 v rv => by
    obtain ⟨y, e1, h2⟩ := lft_some h1
    unfold cconD at e1
    split at e1
    · rename_i c'
      split at e1
      · rename_i hh
        subst hh
        cases e1
        cases rv
        exact ⟨_, _, _, _, rfl, hr, hk, After.now g1 h2 _ (.str _)⟩
      · cases e1
    · cases e1⟩
end
/-! ### objects called -/
theorem call_ok' {K : PySem.W.Frag} {c : Str} (h : (Ft.raw (callB c)).ok K = true) : StX.CallO K (ga K c) (ma K (ga K c) "__call__") := by
  have h : callB c K = true := h
  unfold callB at h
  obtain ⟨h1, h2⟩ := ba h
  obtain ⟨h2, h3⟩ := ba h2
  exact ⟨eqO_ok h1, h2, h3⟩
def mCallO (k : Str) (n : Nat) (mf : List D → M D) (mo : ME) (ms : MA) : ME := fun ρ => M.bind (mo ρ) fun d => match d with
  | .obj c ks ds => if c = k then M.bind (ms ρ) fun es => if es.length = n then mf (.obj c ks ds :: es) else lft none else lft none
  | _ => lft none
section
variable {X : Cx} {c : Cf} {k n : Nat} {g : Addr} {fd : FuncData} {ps : List Str} {e fe : Expr} {es : List Expr} {ms : MA} {mo : ME} {mf : List D → M D} {pos : Pos} {ck : Str}
theorem dCallO (hf : DE X c fe mo) (co : StX.CallO X.K (c.W.cl ck) g) (G : FnOk X.prog X.w X.K X.mg X.base CX0 k g fd ps (spM c.W (n + 1) mf)) (hr : Room k X.A) (hb : Binds X.K fd ps []) (ha : DA X c (e :: es) ms)
    (ht : eval (.Call fe (e :: es) [] pos) X.env = (do callWith pos (← eval fe X.env) [] (backTo pos (starEach (e :: es) X.env)) (backToKw pos (keywordEach [] X.env))) := by rfl)
    (he : starEach (e :: es) X.env = (false, eval e X.env) :: starEach es X.env := by rfl) (hpl : (backTo pos (starEach es X.env)).any (·.1) = false := by rfl) : DE X c (.Call fe (e :: es) [] pos) (mCallO ck n mf mo ms) :=
  (StX.pe_callO (E := E0) hf co (FnOk.raw G hb .nil) hr pass0 ha ht he hpl).imp fun σ H Q ⟨F, u, ρ, S, h⟩ => ⟨F, u, ρ, S, (After.split h).imp fun d u1 F1 H1 _ s1 g1 h1 v rv => by
    split at h1
    · rename_i c' ks' ds _h
      split at h1
      · rename_i hh
        subst hh
        obtain ⟨a, dx, vs, rfl, ha, lk, r⟩ := id rv.obj_
        refine ⟨a, rfl, F1, u1, ρ, S.step s1 g1, (After.split h1).imp fun xs u2 F2 H2 _ s2 g2 h2 ws rws => ?_⟩
        split at h2
        · rename_i hl
          refine ⟨.inr ⟨dx, _, g2.ex _ _ (s2.ef _ _ ha)⟩, ?_⟩
          show spM c.W (n + 1) mf (.ref a :: ws ++ []) H2 Q E0
          rw [List.append_nil]
          exact ⟨by simp [rws.1, hl], c.p, F2, u2, _ :: xs, g2, Reps.cons (rv.mono s2.ef) rws, h2⟩
        · exact False.elim h2
      · exact False.elim h1
    · exact False.elim h1⟩
theorem ok_callO {ρ : Env} {u : PuS} {P : D → PuS → Prop} : Ok (mCallO ck n mf mo ms ρ) u P ↔ Ok (mo ρ) u fun d u1 => ∃ ks ds, d = .obj ck ks ds ∧ Ok (ms ρ) u1 fun es u2 => es.length = n ∧ Ok (mf (.obj ck ks ds :: es)) u2 P := by
  unfold mCallO; simp only [ok_bind]
  constructor
  · refine fun h => h.mono fun d u1 z => ?_
    split at z
    · simp only [ok_ite] at z
      split at z
      · rename_i hh
        subst hh
        refine ⟨_, _, rfl, (ok_bind.mp z).mono fun es u2 z2 => ?_⟩
        simp only [ok_ite] at z2
        split at z2
        · rename_i hl
          exact ⟨hl, z2⟩
        · exact (ok_none.mp z2).elim
      · exact (ok_none.mp z).elim
    · exact (ok_none.mp z).elim
  · refine fun h => h.mono fun d u1 z => ?_
    obtain ⟨ks, ds, rfl, z⟩ := z
    simp only [if_true]
    rw [ok_bind]
    refine z.mono fun es u2 z2 => ?_
    rw [if_pos z2.1]
    exact z2.2
end
/-! ### tuples of texts -/
theorem strs_vals : ∀ {its : List Value} {zs : List Str}, strsB its zs = true → Vals (zs.map V.str) its
  | [], [], _ => .nil
  | [], _ :: _, h => by cases h
  | .str y t :: r, z :: zs, h => by
    obtain ⟨h1, h2⟩ := ba h
    have := of_decide_eq_true h1
    subst this
    exact .cons ⟨t, rfl⟩ (strs_vals h2)
  | .str y t :: r, [], h => by cases h
  | .none :: _, _, h => by cases h
  | .ellipsis :: _, _, h => by cases h
  | .notImplemented :: _, _, h => by cases h
  | .bool _ :: _, _, h => by cases h
  | .int _ _ :: _, _, h => by cases h
  | .float _ _ :: _, _, h => by cases h
  | .bytes _ _ :: _, _, h => by cases h
  | .type _ :: _, _, h => by cases h
  | .builtin _ :: _, _, h => by cases h
  | .ref _ :: _, _, h => by cases h
theorem txts_ok {K : PySem.W.Frag} {mg : Str → Option Value} {fa : List Ft} {fn : List DefP} (C : HF fa fn K mg) {x : Str} {zs : List Str} (h : (Ft.raw (txtsB x zs)).ok K = true) : ∃ T : Addr, mg x = some (.ref T) ∧ ∀ H : Hp, SqT K H T (zs.map V.str) := by
  have h : txtsB x zs K = true := h
  unfold txtsB at h
  split at h
  · rename_i T e
    obtain ⟨h0, X, G⟩ := C.ns
    refine ⟨T, PySem.W.mg_of X G e, fun H => ?_⟩
    split at h
    · rename_i o e2
      split at h
      · rename_i t its n e3 e4
        obtain ⟨h1, h2⟩ := ba h
        obtain ⟨h2, h3⟩ := ba h2
        have h1 := of_decide_eq_true h1
        subst h1
        exact .inr ⟨o, its, n, e2, e3, e4, Nat.le_trans (of_decide_eq_true h2) (by decide), strs_vals h3⟩
      · cases h
    · cases h
  · cases h
theorem dTxts {X : Cx} {c : Cf} {x : Str} {zs : List Str} {T : Addr} {pos : Pos} (hg : Gl X x) (hm : X.mg x = some (.ref T)) (hT : ∀ H : Hp, SqT X.K H T (zs.map V.str)) (hd : (x == ("__debug__" : Str)) = false := by decide) (hK : X.K = c.W.K := by rfl) : DE X c (.Name x pos) (mC (.tup (zs.map D.str))) :=
  dC_of (pe_glob (v := .ref T) hg hm rfl hd) fun F => .tup (by rw [← hK]; exact hT F) (by simp) fun i v d a b => by
    rw [List.getElem?_map] at a b
    cases e : zs[i]? with
    | none => rw [e] at a; cases a
    | some z => rw [e] at a b; cases a; cases b; exact .str _
end Mi

set_option Elab.async false
set_option linter.all false
set_option maxRecDepth 100000
set_option maxHeartbeats 4000000
/-! MiPo: xs.append(ys.pop(e)), both lists the def's own. -/
namespace Mi
open PySem PySem.Spec PyProof.Rows L2 He StX
variable [TB : Tabl]
def popIx (k : D) (n : Nat) : Option Nat := match k with
  | .int j => if 0 ≤ j ∧ j < n ∧ n ≤ 100000 then some j.toNat else none
  | _ => none
def mAppPop (i j : Nat) (m : ME) : MS := fun ρ => M.bind (m ρ) fun k => M.bind (lft (vOw ρ i)) fun ds => M.bind (lft (vOw ρ j)) fun es => M.bind (lft (popIx k es.length)) fun n => M.bind (lft (es[n]?)) fun d =>
  M.bind (lft (if ds.length < 100000 then some () else none)) fun _ => M.pure (.nx ((ρ.set j (.ow (es.eraseIdx n))).set i (.ow (ds ++ [d]))))
theorem popIx_some {k : D} {n r : Nat} (h : popIx k n = some r) : ∃ j : Int, k = .int j ∧ 0 ≤ j ∧ j < n ∧ n ≤ 100000 ∧ r = j.toNat := by
  unfold popIx at h
  split at h
  · split at h
    · rename_i hc
      cases h
      exact ⟨_, rfl, hc.1, hc.2.1, hc.2.2, rfl⟩
    · cases h
  · cases h
theorem sqIx_of {j : Int} {n : Nat} (h0 : 0 ≤ j) (h1 : j < n) : seqIndex? j n = some j.toNat := by
  unfold seqIndex?
  have e : (if j < 0 then j + (n : Int) else j) = j := if_neg (by omega)
  dsimp only
  rw [e]
  have : (decide (0 ≤ j) && decide (j < (n : Int))) = true := by simp [h0, h1]
  rw [if_pos this]
theorem reps_erase {W : Wo} {p : Addr} {F : Hp} {vs : List V} {ds : List D} (r : Reps W p F vs ds) (n : Nat) : Reps W p F (vs.eraseIdx n) (ds.eraseIdx n) := by
  refine ⟨by rw [List.length_eraseIdx, List.length_eraseIdx, r.1], fun i v d a b => ?_⟩
  rw [List.getElem?_eraseIdx] at a b
  split at a
  · rename_i h
    rw [if_pos h] at b
    exact r.2 i v d a b
  · rename_i h
    rw [if_neg h] at b
    exact r.2 (i + 1) v d a b
section
variable {X : Cx} {c : Cf} {e : Expr} {m : ME} {pos : Pos}
theorem dAppPop (i j : Nat) {x y : Str} {p0 p1 apos cpos apos' cpos' : Pos} (hij : i ≠ j) (he : DE X c e m) (hN : X.N[i]? = some x := by rfl) (hv : Vis X.env.scope x := by first | exact Or.inl rfl | exact Or.inr (Or.inl rfl) | exact Or.inr (Or.inr rfl)) (hd : (x == ("__debug__" : Str)) = false := by decide)
    (hcd : (x == ("__classdict__" : Str)) = false := by decide) (hN' : X.N[j]? = some y := by rfl) (hv' : Vis X.env.scope y := by first | exact Or.inl rfl | exact Or.inr (Or.inl rfl) | exact Or.inr (Or.inr rfl)) (hd' : (y == ("__debug__" : Str)) = false := by decide)
    (hcd' : (y == ("__classdict__" : Str)) = false := by decide) (hbase : attributeBase (.Name x p0) "append" X.env (eval (.Name x p0) X.env) = eval (.Name x p0) X.env := by rfl)
    (hbase' : attributeBase (.Name y p1) "pop" X.env (eval (.Name y p1) X.env) = eval (.Name y p1) X.env := by rfl)
    (hfew : ((backTo cpos (starEach [.Call (.Attribute (.Name y p1) "pop" apos') [e] [] cpos'] X.env)).all (fun x => !x.1) && (backToKw cpos (keywordEach [] X.env)).all (fun x => x.1.isSome)
      && decide (([.Call (.Attribute (.Name y p1) "pop" apos') [e] [] cpos'] : List Expr).length + ([] : List Keyword).length + (if ([] : List Keyword).isEmpty then 0 else 1) < 30)) = true := by rfl)
    (hline : (apos.endLine == cpos.line) = true := by rfl) (hst : starEach [.Call (.Attribute (.Name y p1) "pop" apos') [e] [] cpos'] X.env = (false, eval (.Call (.Attribute (.Name y p1) "pop" apos') [e] [] cpos') X.env) :: starEach [] X.env := by rfl) (hplain : (backTo cpos (starEach [] X.env)).any (·.1) = false := by rfl)
    (hfew' : ((backTo cpos' (starEach [e] X.env)).all (fun x => !x.1) && (backToKw cpos' (keywordEach [] X.env)).all (fun x => x.1.isSome)
      && decide (([e] : List Expr).length + ([] : List Keyword).length + (if ([] : List Keyword).isEmpty then 0 else 1) < 30)) = true := by rfl)
    (hline' : (apos'.endLine == cpos'.line) = true := by rfl) (hst' : starEach [e] X.env = (false, eval e X.env) :: starEach [] X.env := by rfl) (hplain' : (backTo cpos' (starEach [] X.env)).any (·.1) = false := by rfl)
    (hs : swapsWith (.Call (.Attribute (.Name x p0) "append" apos) [.Call (.Attribute (.Name y p1) "pop" apos') [e] [] cpos'] [] cpos) none pos.line X.env = pure false := by rfl) :
    DS X c (.Expr (.Call (.Attribute (.Name x p0) "append" apos) [.Call (.Attribute (.Name y p1) "pop" apos') [e] [] cpos'] [] cpos) pos) (mAppPop i j m) :=
  (ps_expr (pe_bm PySem.F.plainAttrs_list PySem.F.slot_list_append PySem.F.type_list_append mt_append (pe_var (i := i) hN hv hd hcd)
    (pa_cons (pe_bm PySem.F.plainAttrs_list PySem.F.slot_list_pop PySem.F.type_list_pop mt_popAt (pe_var (i := j) hN' hv' hd' hcd') (pa_cons he pa_nil hst') hbase' hfew' hline' hst' hplain') pa_nil hst) hbase hfew hline hst hplain) hs).imp fun Dn σ H ⟨F, u, ρ, S, h⟩ => by
    unfold mAppPop at h
    cases ho : vOw ρ i with
    | none =>
      exfalso
      cases e1 : m ρ u with
      | none =>
        unfold M.bind at h
        rw [e1] at h
        exact h
      | some y =>
        unfold M.bind at h
        rw [e1, ho] at h
        exact h
    | some ds =>
      cases hp : vOw ρ j with
      | none =>
        exfalso
        cases e1 : m ρ u with
        | none =>
          unfold M.bind at h
          rw [e1] at h
          exact h
        | some y =>
          unfold M.bind at h
          rw [e1, ho, hp] at h
          exact h
      | some es =>
        obtain ⟨q, vs, e1, hq, _⟩ := S.ow ho
        obtain ⟨q2, vs2, e2, hq2, _⟩ := S.ow hp
        refine ⟨.ref q, e1, .inl ⟨rfl, vs, SqL.of hq⟩, .ref q2, e2, .inl ⟨rfl, vs2, SqL.of hq2⟩, F, u, ρ, S, (flowO.after S h).imp fun kd u1 F1 H1 _ s1 g1 h1 kv rkv => ?_⟩
        obtain ⟨ds', e3, h2⟩ := flowO.lft h1.1 h1.2
        rw [ho] at e3
        cases e3
        obtain ⟨es', e4, h3⟩ := flowO.lft h1.1 h2
        rw [hp] at e4
        cases e4
        obtain ⟨n, e5, h4⟩ := flowO.lft h1.1 h3
        obtain ⟨d, e6, h5⟩ := flowO.lft h1.1 h4
        obtain ⟨_, e7, h6⟩ := flowO.lft h1.1 h5
        split at e7
        case isFalse => cases e7
        rename_i hl
        obtain ⟨jj, rfl, j0, j1, j2, rfl⟩ := popIx_some e5
        obtain ⟨q', vs', e1', hq', hF', hp', h0', r'⟩ := h1.1.ow ho
        obtain ⟨q2', vs2', e2', hq2', hF2', hp2', h02', r2'⟩ := h1.1.ow hp
        rw [e1] at e1'
        cases e1'
        rw [e2] at e2'
        cases e2'
        obtain ⟨w, hw, rw_⟩ := r2'.get e6
        have ev := rkv.int_
        have S1 := h1.1.put (es := es.eraseIdx jj.toNat) (vs := vs2'.eraseIdx jj.toNat) (vOw_at hp) e2 (reps_erase r2' _)
        have hne : q ≠ q2 := fun z => h1.1.env.ne i j _ _ hij (vOw_at ho) (vOw_at hp) rfl rfl (by rw [e1, e2, z])
        refine ⟨q2, vs2', jj, jj.toNat, w, rfl, by rw [ev], hq2', by omega, by omega, sqIx_of j0 (by rw [r2'.1]; exact j1), hw, ?_⟩
        refine ⟨q, vs', w, rfl, rfl, by rw [upd_ne hne]; exact hq', sz5l (by rw [r'.1]; omega), h6 σ F1 _ (Same.refl _) ?_⟩
        exact S1.put (by rw [List.getElem?_set_ne (Ne.symm hij)]; exact vOw_at ho) e1 (r'.append (Reps.cons rw_ Reps.nil))
end
@[simp] theorem ok_appPop {i j : Nat} {m : ME} {ρ : Env} {u : PuS} {P : Fl → PuS → Prop} : Ok (mAppPop i j m ρ) u P ↔ Ok (m ρ) u fun k u1 => ∃ ds, vOw ρ i = some ds ∧ ∃ es, vOw ρ j = some es ∧ ∃ n, popIx k es.length = some n ∧ ∃ d, es[n]? = some d ∧ ds.length < 100000 ∧ P (.nx ((ρ.set j (.ow (es.eraseIdx n))).set i (.ow (ds ++ [d])))) u1 := by
  unfold mAppPop
  simp only [ok_bind, ok_lft, ok_pure]
  constructor
  · refine fun h => h.mono fun k u1 z => ?_
    obtain ⟨ds, e1, es, e2, n, e3, d, e4, y, e5, z⟩ := z
    split at e5
    · rename_i hl
      exact ⟨ds, e1, es, e2, n, e3, d, e4, hl, z⟩
    · cases e5
  · refine fun h => h.mono fun k u1 z => ?_
    obtain ⟨ds, e1, es, e2, n, e3, d, e4, hl, z⟩ := z
    exact ⟨ds, e1, es, e2, n, e3, d, e4, (), by rw [if_pos hl], z⟩
end Mi

set_option Elab.async false
set_option linter.all false
set_option maxRecDepth 100000
set_option maxHeartbeats 4000000
/-! MiAg: xs[k] += e, xs the def's own list. -/
namespace Mi
open PySem PySem.Spec PyProof.Rows L2 He StX
variable [TB : Tabl]
def rGetN : V → V → Hp → VK → Prop := fun o i H Q => ∃ p xs k v, o = .ref p ∧ i = .int k ∧ H p = some (.lst xs) ∧ 0 ≤ k ∧ k ≤ 100000 ∧ xs[k.toNat]? = some v ∧ Q v H
theorem get_list {X : Cx} : PGet X rGetN := by
  intro pins s σ H o i ov iv Q I ro ri h
  obtain ⟨p, xs, k, v, rfl, rfl, hp, h0, h1, hv, q⟩ := h
  cases ro
  obtain ⟨t, rfl⟩ := ri
  obtain ⟨its, r, pl, hz⟩ := I.list (.inl (.inl hp))
  obtain ⟨w, ew, rw'⟩ := r.get hv
  exact wpAny_getItem_list pl.isList h0 (by omega) (by simpa using ew) ⟨v, H, I, rw', q⟩
/-- xs[k] op= e: the old item is read ahead of e -/
def mAugS (i : Nat) (f : D → D → Option D) (mi m : ME) : MS := fun ρ => M.bind (mi ρ) fun k => M.bind (lft (vOw ρ i)) fun ds => M.bind (lft (popIx k ds.length)) fun n => M.bind (lft (ds[n]?)) fun x => M.bind (m ρ) fun y => M.bind (lft (f x y)) fun z => M.pure (.nx (ρ.set i (.ow (ds.set n z))))
section
variable {X : Cx} {c : Cf} {e ie : Expr} {m mi : ME} {pos : Pos}
theorem dAugS (i : Nat) {x : Str} {p0 tp : Pos} {op : Operator} {ti : TIp} {f : D → D → Option D} (hm : IpM c.W ti f) (ho : PIp X op ti) (hk : DE X c ie mi) (he : DE X c e m) (hN : X.N[i]? = some x := by rfl) (hv : Vis X.env.scope x := by first | exact Or.inl rfl | exact Or.inr (Or.inl rfl) | exact Or.inr (Or.inr rfl)) (hd : (x == ("__debug__" : Str)) = false := by decide)
    (hcd : (x == ("__classdict__" : Str)) = false := by decide)
    (ha : ∀ ov iv new, augStore ie ov iv new = (do holding [new, ov, iv] (setItem ov iv new); release [new, ov, iv] []; pure .next) := by intros; rfl) :
    DS X c (.AugAssign (.Subscript (.Name x p0) ie tp) op e pos) (mAugS i f mi m) :=
  (ps_augS (pe_var (i := i) hN hv hd hcd) hk get_list he ho set_list ha).imp fun Dn σ H ⟨F, u, ρ, S, h⟩ => by
    unfold mAugS at h
    cases hp : vOw ρ i with
    | none =>
      exfalso
      cases e1 : mi ρ u with
      | none =>
        unfold M.bind at h
        rw [e1] at h
        exact h
      | some y =>
        unfold M.bind at h
        rw [e1, hp] at h
        exact h
    | some es =>
      obtain ⟨q, vs, e1, hq, _⟩ := S.ow hp
      refine ⟨.ref q, e1, F, u, ρ, S, (flowO.after S h).imp fun kd u1 F1 H1 _ s1 g1 h1 kv rkv => ?_⟩
      obtain ⟨es', e4, h3⟩ := flowO.lft h1.1 h1.2
      rw [hp] at e4
      cases e4
      obtain ⟨n, e5, h4⟩ := flowO.lft h1.1 h3
      obtain ⟨d, e6, h5⟩ := flowO.lft h1.1 h4
      obtain ⟨jj, rfl, j0, j1, j2, rfl⟩ := popIx_some e5
      obtain ⟨q', vs', e1', hq', hF', hp', h0', r'⟩ := h1.1.ow hp
      rw [e1] at e1'
      cases e1'
      obtain ⟨w, hw, rw_⟩ := r'.get e6
      refine ⟨q, vs', jj, w, rfl, rkv.int_, hq', j0, by omega, hw, F1, u1, ρ, h1.1, (flowO.after h1.1 h5).imp fun y u2 F2 H2 _ s2 g2 h6 yv ryv => ?_⟩
      refine hm c.p F2 H2 u2 w yv d y _ g2 (rw_.mono s2.ef) ryv ((flowO.after h6.1 h6.2).imp fun z u3 F3 H3 _ s3 g3 h7 zv rzv => ?_)
      obtain ⟨q2, vs2, e8, hq2, _, _, _, r2⟩ := h7.1.ow hp
      rw [e1] at e8
      cases e8
      refine ⟨q, vs2, jj, jj.toNat, rfl, rkv.int_, hq2, ?_, h7.2 σ F3 _ (Same.refl _) (h7.1.put (vOw_at hp) e1 ⟨by simp [r2.1], fun a v' d' ea eb => ?_⟩)⟩
      · rw [r2.1]
        show ixN es.length jj = some jj.toNat
        unfold ixN
        rw [if_pos j0, if_pos j1]
      · rcases set_get eb with ⟨rfl, rfl, _⟩ | ⟨ne, eb⟩
        · rcases set_get ea with ⟨_, rfl, _⟩ | ⟨ne, _⟩
          · exact rzv
          · exact absurd rfl ne
        · rw [List.getElem?_set_ne ne] at ea
          exact r2.2 a v' d' ea eb
end
@[simp] theorem ok_augS {i : Nat} {f : D → D → Option D} {mi m : ME} {ρ : Env} {u : PuS} {P : Fl → PuS → Prop} : Ok (mAugS i f mi m ρ) u P ↔ Ok (mi ρ) u fun k u1 => ∃ ds, vOw ρ i = some ds ∧ ∃ n, popIx k ds.length = some n ∧ ∃ x, ds[n]? = some x ∧ Ok (m ρ) u1 fun y u2 => ∃ z, f x y = some z ∧ P (.nx (ρ.set i (.ow (ds.set n z)))) u2 := by
  unfold mAugS
  simp only [ok_bind, ok_lft, ok_pure]
end Mi

set_option Elab.async false
set_option linter.all false
set_option maxRecDepth 100000
set_option maxHeartbeats 4000000
/-! MiSl: sorted of a list of lists of ints. -/
namespace L2
open PySem PySem.Spec PyProof.Rows
def rowD (ns : List Int) : PyData := .list (ns.map .int)
def leR (p q : V × List Int) : Bool := decide (p.2 ≤ q.2)
/-- sorted(xs), xs a list of lists of ints: a new list of them by their letters -/
def rSortL (K : PySem.W.Frag) : List V → Hp → VK → Prop := fun vs H Q => ∃ (a : Addr) (bs : List (V × List Int)), vs = [V.ref a] ∧ SqL K H a (bs.map (·.1)) ∧ DpAll K H (bs.map (·.1)) (bs.map fun b => rowD b.2) ∧
  ∀ p, H p = none → Q (.ref p) (upd H p (.lst ((bs.mergeSort leR).map (·.1))))
theorem vals_each : ∀ {bs : List (V × List Int)} {us : List Value}, Vals (bs.map (·.1)) us → PySem.W.EachIs (fun v b => RelV b.1 v) us bs
  | [], _, h => by
    have h' : Vals [] _ := h
    cases h'
    exact .nil
  | b :: bs, _, h => by
    have h' : Vals (b.1 :: bs.map (·.1)) _ := h
    cases h' with
    | cons r t => exact .cons r (vals_each t)
theorem each_vals : ∀ {bs : List (V × List Int)} {us : List Value}, PySem.W.EachIs (fun v b => RelV b.1 v) us bs → Vals (bs.map (·.1)) us
  | [], _, h => by
    cases h
    exact .nil
  | b :: bs, _, h => by
    cases h with
    | cons r t => exact .cons r (each_vals t)
section
variable {X : Cx}
theorem cr_sortL (hu : X.A.units + 65 < cLine) : CallR X (.builtin "sorted") (rSortL X.K) := by
  intro pins s σ H vs us Q I r h
  obtain ⟨a, bs, rfl, hs, hd, q⟩ := h
  obtain ⟨its, rv, hl, hz⟩ := I.list hs
  obtain rfl := Vals.ref1 r
  obtain ⟨as, hr⟩ := Dp.readsAll I _ _ its hd rv
  have er := PySem.W.readsAll_each (fun b : V × List Int => rowD b.2) hr
  have e1 := PySem.W.dataLe_rows (β := V × List Int) (·.2)
  have hz' : bs.length ≤ sizeLine := by rw [List.length_map] at hz; exact hz
  refine PySem.W.sorted_data (R := fun v b => RelV b.1 v) (enc := fun b : V × List Int => rowD b.2) (bs := bs) hl.isList (vals_each rv) er (PySem.W.AllAlike.of fun b c => ?_) (PySem.W.Sortable.others fun b => ⟨fun z => (by cases z), fun xs z => (by cases z)⟩) hz' (fun b _ => ?_) fun out ho eo => ?_
  · simp only [rowD, PySem.W.alike]
    exact PySem.W.alike_ints _ _
  · simp only [rowD, PyData.depth, PySem.W.depth_ints]
    omega
  · have e2 : PySem.W.dataLe false (fun b : V × List Int => rowD b.2) = leR := e1
    rw [e2] at eo
    obtain ⟨ep, he'⟩ := PyProof.Rows.sortedAll_at s.heap its out.toArray
    have hlen : ((bs.mergeSort leR).map (·.1)).length ≤ sizeLine := by
      rw [List.length_map, List.length_mergeSort]
      exact hz'
    exact ⟨.ref _, upd H (s.heap.objs.size + 1) (.lst ((bs.mergeSort leR).map (·.1))), I.laid (t' := s.toks) (fun _ _ => PyProof.Rows.sortedAll_old) (Nat.le_succ _) ⟨hlen, out, ep, each_vals eo, he'⟩, rfl, q _ (I.hok.fresh (Nat.le_succ _))⟩
end
end L2
namespace Mi
open PySem PySem.Spec PyProof.Rows L2
variable [TB : Tabl]
def rowsD : List D → Option (List (List Int))
  | [] => some []
  | .lst xs :: ds => match intsD xs, rowsD ds with
    | some ns, some nss => some (ns :: nss)
    | _, _ => none
  | _ => none
def srtR (nss : List (List Int)) : List (List Int) := nss.mergeSort fun p q => decide (p ≤ q)
def srtLL : List D → Option (List D) := fun ds => match ds with
  | [.lst xs] => (rowsD xs).map fun nss => (srtR nss).map fun ns => D.lst (ns.map D.int)
  | _ => none
theorem rowsD_at : ∀ {xs : List D} {nss : List (List Int)}, rowsD xs = some nss → xs = nss.map fun ns => D.lst (ns.map D.int)
  | [], ps, e => by
    unfold rowsD at e
    cases e
    rfl
  | d :: ds, ps, e => by
    unfold rowsD at e
    split at e
    · rename_i h; cases h
    · rename_i xs ds' h
      cases h
      split at e
      · rename_i ns nss e1 e2
        cases e
        rw [rowsD_at e2, intsD_eq e1]
        rfl
      · cases e
    · cases e
theorem rowsD_map : ∀ nss : List (List Int), rowsD (nss.map fun ns => D.lst (ns.map D.int)) = some nss
  | [] => rfl
  | p :: ps => by
    rw [List.map_cons]
    unfold rowsD
    rw [rowsD_map ps, intsD_map p]
theorem toPDs_rows : ∀ nss : List (List Int), toPDs (nss.map fun ns => D.lst (ns.map D.int)) = some (nss.map rowD)
  | [] => rfl
  | p :: ps => by
    rw [List.map_cons]
    unfold toPDs
    rw [toPDs_rows ps]
    unfold toPD
    rw [toPDs_ints p]
    rfl
theorem zip_fst : ∀ (ws : List V) (nss : List (List Int)), ws.length = nss.length → (ws.zip nss).map (·.1) = ws
  | [], _, _ => rfl
  | _ :: _, [], h => absurd h (by simp)
  | w :: ws, n :: ns, h => by
    show w :: (ws.zip ns).map (·.1) = w :: ws
    rw [zip_fst ws ns (by simpa using h)]
theorem zip_snd : ∀ (ws : List V) (nss : List (List Int)), ws.length = nss.length → (ws.zip nss).map (·.2) = nss
  | [], [], _ => rfl
  | [], _ :: _, h => absurd h (by simp)
  | _ :: _, [], h => absurd h (by simp)
  | w :: ws, n :: ns, h => by
    show n :: (ws.zip ns).map (·.2) = n :: ns
    rw [zip_snd ws ns (by simpa using h)]
theorem srtLL_ok {W : Wo} {p : Addr} {F H H00 : Hp} {u : PuS} {vs : List V} {as es : List D} {Q : VK} (g : Gd p u F H) (bk : ∀ q, H q = none → H00 q = none) (r : Reps W p F vs as) (e : srtLL as = some es)
    (h : After p F H (some (es, u)) fun ds _ F' H' => ∀ q vs, F' q = none → H00 q = none → H' q = some (.lst vs) → Reps W p F' vs ds → Q (.ref q) H') :
    rSortL W.K vs H Q := by
  unfold srtLL at e
  split at e
  · rename_i xs
    cases e1 : rowsD xs with
    | none => rw [e1] at e; cases e
    | some nss =>
      rw [e1] at e
      cases e
      obtain ⟨v, rfl, rv⟩ := r.one
      obtain ⟨a, ws, rfl, ha, rs⟩ := rv.lst_
      have e2 := rowsD_at e1
      subst e2
      have hl : ws.length = nss.length := by
        have := rs.1
        rw [List.length_map] at this
        omega
      have z1 := zip_fst ws nss hl
      have z2 := zip_snd ws nss hl
      have dp := dps_of g.ex _ ws _ rs (toPDs_rows nss)
      refine ⟨a, ws.zip nss, rfl, by rw [z1]; exact SqL.of (g.ex _ _ ha), ?_, fun q hq => ?_⟩
      · have e3 : (ws.zip nss).map (fun b => rowD b.2) = nss.map rowD := by
          rw [← z2, List.map_map, z2]
          rfl
        rw [z1, e3]
        exact dp
      · have es : srtR nss = ((ws.zip nss).mergeSort leR).map (·.2) := by
          unfold srtR
          have z := List.map_mergeSort (f := fun b : V × List Int => b.2) (r := leR) (s := fun p q : List Int => decide (p ≤ q)) (l := ws.zip nss) (fun _ _ _ _ => rfl)
          rw [z, z2]
        refine h _ _ (Stp.own hq) (g.own hq) q _ (g.fresh hq) (bk q hq) upd_same ?_
        show Reps W p F _ (List.map (fun ns => D.lst (List.map D.int ns)) (srtR nss))
        rw [es, List.map_map]
        refine ⟨by rw [List.length_map, List.length_map], fun i x d hx hd => ?_⟩
        rw [List.getElem?_map] at hx hd
        cases hb : ((ws.zip nss).mergeSort leR)[i]? with
        | none => rw [hb] at hx; cases hx
        | some b =>
          rw [hb] at hx hd
          cases hx
          cases hd
          have hm : b ∈ ws.zip nss := (List.mergeSort_perm _ _).mem_iff.mp (List.mem_of_getElem? hb)
          obtain ⟨j, hj⟩ := List.mem_iff_getElem?.mp hm
          obtain ⟨j1, j2⟩ := List.getElem?_zip_eq_some.mp hj
          exact rs.2 j b.1 _ j1 (by rw [List.getElem?_map, j2]; rfl)
  · cases e
theorem dSortL {X : Cx} {c : Cf} {e : Expr} {ms : MA} {p pos : Pos} (hu : X.A.units + 65 < cLine) (hg : Gl X "sorted") (hm : X.mg "sorted" = none) (ha : DA X c [e] ms) (hK : X.K = c.W.K := by rfl)
    (he : starEach (e :: []) X.env = (false, eval e X.env) :: starEach [] X.env := by rfl) : DL X c (.Call (.Name "sorted" p) [e] [] pos) (mCBO srtLL ms) :=
  (pe_callB (cr_sortL hu) hg hm bb_sorted ha (by decide) (by decide) he).imp fun σ H Q ⟨F, u, ρ, S, h⟩ => ⟨F, u, ρ, S, (After.split h).imp fun xs u1 F1 H1 _ s1 g1 h1 vs rvs => by
    obtain ⟨es, e1, h2⟩ := lft_some h1
    rw [hK]
    exact srtLL_ok g1 (fun q hq => s1.back g1.ne hq) rvs e1 h2⟩
end Mi

set_option Elab.async false
set_option linter.all false
set_option maxRecDepth 100000
set_option maxHeartbeats 4000000
namespace Sh
open PySem PySem.Spec PyProof.Rows L2 Mi He
@[reducible] def mb_is_integer : MS := mRet (mAndV (mCB isiD (mCons (mVar 0) (mCons (mC (.ty "int")) (mNil)))) (mNotV (mCB isiD (mCons (mVar 0) (mCons (mC (.ty "bool")) (mNil))))))
def mf_is_integer : List D → M D := mFn 1 mb_is_integer
@[reducible] def mb_is_natural : MS := mRet (mAndV (mCall 1 mf_is_integer (mCons (mVar 0) (mNil))) (mBin geD (mVar 0) (mC (.int 0))))
def mf_is_natural : List D → M D := mFn 1 mb_is_natural
@[reducible] def lb_wrong_number_1 : MS := mSeq (mIfS (mOr (mNot (mB (mCall 1 mf_is_natural (mCons (mVar 2) (mNil))))) (mOr (mB (mBin eqMD (mVar 2) (mC (.int 0)))) (mB (mBin eqMD (mVar 1) (mC (.int 24)))))) (mRet (mVar 1)) (mNext)) (mIfS (mAnd (mB (mBin gtD (mVar 1) (mC (.int 0)))) (mB (mBin gtD (mVar 2) (mBin ixD (mVar 0) (mBin subD (mVar 1) (mC (.int 1))))))) (mRet (mVar 1)) (mNext))
@[reducible] def mb_wrong_number : MS := mSeq (mFor (mIof enumA (mCons (mVar 0) (mNil))) (mGt 2 (mGcons (mGn 1) (mGcons (mGn 2) (mGnil)))) (lb_wrong_number_1)) (mRet (mC .non))
def mf_wrong_number : List D → M D := mFn 3 mb_wrong_number
@[reducible] def mb_Form___init__ : MS := mSeq (mIfS (mNot (mB (mCB isiD (mCons (mVar 1) (mCons (mC (.ty "tuple")) (mNil)))))) (mStuck) (mNext)) (mSeq (mSet 2 (mCall 1 mf_wrong_number (mCons (mVar 1) (mNil)))) (mSeq (mIfS (mB (mBin isntD (mVar 2) (mC .non))) (mStuck) (mNext)) (mSelfSet 0 "Form" "numbers" (mVar 1))))
def mf_Form___init__ : List D → M (List Str × List D) := mInit 3 "Form" mb_Form___init__
@[reducible] def mb_Form___eq__ : MS := mRet (mAndV (mCB isiD (mCons (mVar 1) (mCons (mC (.cls "Form")) (mNil)))) (mBin eqMD (mUn (fldD "Form" ["numbers"] 0) (mVar 0)) (mUn (fldD "Form" ["numbers"] 0) (mVar 1))))
def mf_Form___eq__ : List D → M D := mFn 2 mb_Form___eq__
end Sh

set_option Elab.async false
set_option linter.all false
set_option maxRecDepth 100000
set_option maxHeartbeats 4000000
namespace Sh
open PySem PySem.Spec PyProof.Rows L2 Mi He
@[reducible] def ce_is_name_1 : ME := mOrV (mBin inD (mVar 1) (mC (.str "abcdefghijklmnopqrstuvwxyz"))) (mBin inD (mVar 1) (mC (.str "0123456789")))
@[reducible] def mb_is_name : MS := mSeq (mIfS (mOr (mNot (mB (mCB isiD (mCons (mVar 0) (mCons (mC (.ty "str")) (mNil)))))) (mOr (mNot (mB (mChain leD leD (mC (.int 1)) (mCB lenD (mCons (mVar 0) (mNil))) (mC (.int 8))))) (mB (mBin ninD (mBin ixD (mVar 0) (mC (.int 0))) (mC (.str "abcdefghijklmnopqrstuvwxyz")))))) (mRet (mC (.bl false))) (mNext)) (mRet (mCB allD (mCons (mFz (mLcO [1] (mIany (mVar 0)) (mGn 1) (mYes) (ce_is_name_1))) (mNil))))
def mf_is_name : List D → M D := mFn 2 mb_is_name
@[reducible] def lb_wrong_pair_1 : MS := mSeq (mIfS (mOr (mNot (mB (mCB isiD (mCons (mVar 3) (mCons (mC (.ty "tuple")) (mNil)))))) (mOr (mB (mBin neMD (mCB lenD (mCons (mVar 3) (mNil))) (mC (.int 2)))) (mB (mBin eqMD (mVar 2) (mC (.int 12)))))) (mRet (mVar 2)) (mNext)) (mSeq (mAsg (mVar 3) (mGt 2 (mGcons (mGn 4) (mGcons (mGn 5) (mGnil))))) (mSeq (mIfS (mBorT 1 (mOr (mNot (mB (mCall 1 mf_is_name (mCons (mVar 4) (mNil))))) (mOr (mNot (mB (mCB isiD (mCons (mVar 5) (mCons (mC (.cls "Card")) (mNil)))))) (mB (mBin inD (mVar 4) (mVar 1)))))) (mRet (mVar 2)) (mNext)) (mApp 1 (mVar 4))))
@[reducible] def mb_wrong_pair : MS := mSeq (mSetO 1 (mLstO (mNil))) (mSeq (mFor (mIof enumA (mCons (mVar 0) (mNil))) (mGt 2 (mGcons (mGn 2) (mGcons (mGn 3) (mGnil)))) (lb_wrong_pair_1)) (mRet (mC .non)))
def mf_wrong_pair : List D → M D := mFn 6 mb_wrong_pair
@[reducible] def mb_Wallet___init__ : MS := mSeq (mIfS (mNot (mB (mCB isiD (mCons (mVar 1) (mCons (mC (.ty "tuple")) (mNil)))))) (mStuck) (mNext)) (mSeq (mSet 2 (mCall 1 mf_wrong_pair (mCons (mVar 1) (mNil)))) (mSeq (mIfS (mB (mBin isntD (mVar 2) (mC .non))) (mStuck) (mNext)) (mSelfSet 0 "Wallet" "pairs" (mVar 1))))
def mf_Wallet___init__ : List D → M (List Str × List D) := mInit 3 "Wallet" mb_Wallet___init__
@[reducible] def mb_Card___init__ : MS := mSeq (mIfS (mNot (mB (mCall 1 mf_is_natural (mCons (mVar 1) (mNil))))) (mStuck) (mNext)) (mSeq (mIfS (mOr (mNot (mB (mCall 1 mf_is_natural (mCons (mVar 2) (mNil))))) (mB (mBin eqMD (mVar 2) (mC (.int 0))))) (mStuck) (mNext)) (mSeq (mIfS (mB (mBin gtD (mVar 1) (mBin mulD (mC (.int 24)) (mVar 2)))) (mStuck) (mNext)) (mSeq (mSelfSet 0 "Card" "held" (mVar 1)) (mSelfSet 0 "Card" "daily" (mVar 2)))))
def mf_Card___init__ : List D → M (List Str × List D) := mInit 3 "Card" mb_Card___init__
@[reducible] def mb_check_wallet : MS := mIfS (mNot (mB (mCB isiD (mCons (mVar 0) (mCons (mC (.cls "Wallet")) (mNil)))))) (mStuck) (mNext)
def mf_check_wallet : List D → M D := mFn 1 mb_check_wallet
@[reducible] def mb_worth : MS := mRet (mCB minD (mCons (mVar 0) (mCons (mBin mulD (mVar 2) (mVar 1)) (mNil))))
def mf_worth : List D → M D := mFn 3 mb_worth
@[reducible] def mb_part : MS := mRet (mBin subD (mCall 3 mf_worth (mCons (mVar 0) (mCons (mVar 1) (mCons (mBin addD (mVar 2) (mC (.int 1))) (mNil))))) (mCall 3 mf_worth (mCons (mVar 0) (mCons (mVar 1) (mCons (mVar 2) (mNil))))))
def mf_part : List D → M D := mFn 3 mb_part
@[reducible] def ct_row_of_1 : MT := mB (mBin gtD (mVar 3) (mBin mulD (mVar 2) (mVar 4)))
@[reducible] def ce_row_of_2 : ME := mCall 3 mf_part (mCons (mVar 3) (mCons (mVar 4) (mCons (mVar 2) (mNil))))
@[reducible] def lb_row_of_3 : MS := mSeq (mApp 1 (mCB sumD (mCons (mFz (mLcO [3, 4] (mIany (mVar 0)) (mGt 2 (mGcons (mGn 3) (mGcons (mGn 4) (mGnil)))) (mYes) (ce_row_of_2))) (mNil)))) (mAug 2 addI (mC (.int 1)))
@[reducible] def mb_row_of : MS := mSeq (mSetO 1 (mLstO (mNil))) (mSeq (mSet 2 (mC (.int 0))) (mSeq (mWhile 100000 (mB (mBin neMD (mFz (mLcO [3, 4] (mIany (mVar 0)) (mGt 2 (mGcons (mGn 3) (mGcons (mGn 4) (mGnil)))) (ct_row_of_1) (mVar 3))) (mFz (mLstO (mNil))))) (lb_row_of_3)) (mFrz 1 (mRet (mCB tupD (mCons (mVar 1) (mNil)))))))
def mf_row_of : List D → M D := mFn 5 mb_row_of
@[reducible] def ce_Wallet_form_1 : ME := mTup (mCons (mUn (fldD "Card" ["held", "daily"] 0) (mVar 2)) (mCons (mUn (fldD "Card" ["held", "daily"] 1) (mVar 2)) (mNil)))
@[reducible] def mb_Wallet_form : MS := mRet (mMake "Form" 1 mf_Form___init__ (mCons (mCall 1 mf_row_of (mCons (mFz (mLcO [1, 2] (mIany (mUn (fldD "Wallet" ["pairs"] 0) (mVar 0))) (mGt 2 (mGcons (mGn 1) (mGcons (mGn 2) (mGnil)))) (mYes) (ce_Wallet_form_1))) (mNil))) (mNil)))
def mf_Wallet_form : List D → M D := mFn 3 mb_Wallet_form
@[reducible] def mb_alike : MS := mSeq (mDrop (mCall 1 mf_check_wallet (mCons (mVar 0) (mNil)))) (mSeq (mDrop (mCall 1 mf_check_wallet (mCons (mVar 1) (mNil)))) (mRet (mEqO "Form" mf_Form___eq__ (mSelf "Wallet" mf_Wallet_form (mVar 0)) (mSelf "Wallet" mf_Wallet_form (mVar 1)))))
def mf_alike : List D → M D := mFn 2 mb_alike
end Sh

set_option Elab.async false
set_option linter.all false
set_option maxRecDepth 100000
set_option maxHeartbeats 4000000
namespace Sh
open PySem PySem.Spec PyProof.Rows L2 Mi He
@[reducible] def mb_Card_limit : MS := mRet (mUn (fldD "Card" ["held", "daily"] 1) (mVar 0))
def mf_Card_limit : List D → M D := mFn 1 mb_Card_limit
@[reducible] def mb_Card_balance : MS := mRet (mUn (fldD "Card" ["held", "daily"] 0) (mVar 0))
def mf_Card_balance : List D → M D := mFn 1 mb_Card_balance
@[reducible] def mb_Wallet_cards : MS := mRet (mCB tupD (mCons (mFz (mLcO [1, 2] (mIany (mUn (fldD "Wallet" ["pairs"] 0) (mVar 0))) (mGt 2 (mGcons (mGn 1) (mGcons (mGn 2) (mGnil)))) (mYes) (mVar 2))) (mNil)))
def mf_Wallet_cards : List D → M D := mFn 3 mb_Wallet_cards
@[reducible] def ce_amounts_of_1 : ME := mTup (mCons (mSelf "Card" mf_Card_balance (mVar 1)) (mCons (mSelf "Card" mf_Card_limit (mVar 1)) (mNil)))
@[reducible] def mb_amounts_of : MS := mRet (mCB tupD (mCons (mFz (mLcO [1] (mIany (mSelf "Wallet" mf_Wallet_cards (mVar 0))) (mGn 1) (mYes) (ce_amounts_of_1))) (mNil)))
def mf_amounts_of : List D → M D := mFn 2 mb_amounts_of
end Sh

set_option Elab.async false
set_option linter.all false
set_option maxRecDepth 100000
set_option maxHeartbeats 4000000
namespace Sh
open PySem PySem.Spec PyProof.Rows L2 Mi He
@[reducible] def ce_number_of_1 : ME := mBin inD (mVar 1) (mC (.str "0123456789"))
@[reducible] def mb_number_of : MS := mSeq (mIfS (mOr (mB (mBin eqMD (mVar 0) (mC (.str "")))) (mNot (mB (mCB allD (mCons (mFz (mLcO [1] (mIany (mVar 0)) (mGn 1) (mYes) (ce_number_of_1))) (mNil)))))) (mRet (mC .non)) (mNext)) (mRet (mIf (mOr (mB (mBin eqMD (mVar 0) (mC (.str "0")))) (mB (mBin neMD (mBin ixD (mVar 0) (mC (.int 0))) (mC (.str "0"))))) (mCB intSD (mCons (mVar 0) (mNil))) (mC .non)))
def mf_number_of : List D → M D := mFn 2 mb_number_of
@[reducible] def ce_card_of_1 : ME := mCall 1 mf_number_of (mCons (mVar 4) (mNil))
@[reducible] def mb_card_of : MS := mSeq (mIfS (mNot (mB (mCB isiD (mCons (mVar 0) (mCons (mC (.ty "str")) (mNil)))))) (mRet (mC .non)) (mNext)) (mSeq (mSet 1 (mFz (mBorLs [] (mLcO [4] (mIany (mS1 splD (mVar 0) (mC (.str "/")))) (mGn 4) (mYes) (ce_card_of_1))))) (mSeq (mIfS (mOr (mB (mBin neMD (mCB lenD (mCons (mVar 1) (mNil))) (mC (.int 2)))) (mOr (mB (mBin isD (mBin ixD (mVar 1) (mC (.int 0))) (mC .non))) (mB (mBin isD (mBin ixD (mVar 1) (mC (.int 1))) (mC .non))))) (mRet (mC .non)) (mNext)) (mSeq (mAsg (mVar 1) (mGl 2 (mGcons (mGn 2) (mGcons (mGn 3) (mGnil))))) (mRet (mIf (mAnd (mB (mBin gtD (mVar 3) (mC (.int 0)))) (mB (mBin leD (mVar 2) (mBin mulD (mC (.int 24)) (mVar 3))))) (mMake "Card" 2 mf_Card___init__ (mCons (mVar 2) (mCons (mVar 3) (mNil)))) (mC .non))))))
def mf_card_of : List D → M D := mFn 5 mb_card_of
end Sh

set_option Elab.async false
set_option linter.all false
set_option maxRecDepth 100000
set_option maxHeartbeats 4000000
namespace Sh
open PySem PySem.Spec PyProof.Rows L2 Mi He
@[reducible] def mb_pair_of : MS := mSeq (mAsg (mS1 prtD (mVar 0) (mC (.str " "))) (mGt 3 (mGcons (mGn 1) (mGcons (mGn 2) (mGcons (mGn 3) (mGnil)))))) (mRet (mTup (mCons (mVar 1) (mCons (mCall 1 mf_card_of (mCons (mVar 3) (mNil))) (mNil)))))
def mf_pair_of : List D → M D := mFn 4 mb_pair_of
@[reducible] def ce_wallet_of_1 : ME := mCall 1 mf_pair_of (mCons (mVar 2) (mNil))
@[reducible] def mb_wallet_of : MS := mSeq (mIfS (mNot (mB (mCB isiD (mCons (mVar 0) (mCons (mC (.ty "str")) (mNil)))))) (mRet (mC .non)) (mNext)) (mSeq (mSet 1 (mIf (mB (mBin neMD (mVar 0) (mC (.str "")))) (mCB tupD (mCons (mFz (mLcO [2] (mIany (mS1 splD (mVar 0) (mC (.str ", ")))) (mGn 2) (mYes) (ce_wallet_of_1))) (mNil))) (mTup (mNil)))) (mRet (mIf (mB (mBin isD (mCall 1 mf_wrong_pair (mCons (mVar 1) (mNil))) (mC .non))) (mMake "Wallet" 1 mf_Wallet___init__ (mCons (mVar 1) (mNil))) (mC .non))))
def mf_wallet_of : List D → M D := mFn 3 mb_wallet_of
@[reducible] def mb_Wallet_read : MS := mSeq (mSet 2 (mCall 1 mf_wallet_of (mCons (mVar 1) (mNil)))) (mSeq (mIfS (mB (mBin isD (mVar 2) (mC .non))) (mStuck) (mNext)) (mRet (mVar 2)))
def mf_Wallet_read : List D → M D := mFn 3 mb_Wallet_read
end Sh

set_option Elab.async false
set_option linter.all false
set_option maxRecDepth 100000
set_option maxHeartbeats 4000000
namespace Sh
open PySem PySem.Spec PyProof.Rows L2 Mi He
@[reducible] def ce_parts_1 : ME := mCall 3 mf_part (mCons (mVar 2) (mCons (mVar 3) (mCons (mVar 1) (mNil))))
@[reducible] def mb_parts : MS := mRet (mCB tupD (mCons (mFz (mLcO [2, 3] (mIany (mVar 0)) (mGt 2 (mGcons (mGn 2) (mGcons (mGn 3) (mGnil)))) (mYes) (ce_parts_1))) (mNil)))
def mf_parts : List D → M D := mFn 4 mb_parts
@[reducible] def lb_bounds_1 : MS := mAug 2 addI (mC (.int 1))
@[reducible] def mb_bounds : MS := mSeq (mIfS (mB (mBin eqMD (mVar 1) (mC (.int 0)))) (mRet (mTup (mCons (mCB tupD (mCons (mBin mulD (mFz (mLstO (mCons (mC (.int 0)) (mNil)))) (mCB lenD (mCons (mVar 0) (mNil)))) (mNil))) (mCons (mCB tupD (mCons (mBin mulD (mFz (mLstO (mCons (mC (.int 0)) (mNil)))) (mCB lenD (mCons (mVar 0) (mNil)))) (mNil))) (mNil))))) (mNext)) (mSeq (mSet 2 (mC (.int 0))) (mSeq (mWhile 100000 (mB (mBin geD (mCB sumD (mCons (mCall 2 mf_parts (mCons (mVar 0) (mCons (mBin addD (mVar 2) (mC (.int 1))) (mNil)))) (mNil))) (mVar 1))) (lb_bounds_1)) (mRet (mTup (mCons (mCall 2 mf_parts (mCons (mVar 0) (mCons (mBin addD (mVar 2) (mC (.int 1))) (mNil)))) (mCons (mCall 2 mf_parts (mCons (mVar 0) (mCons (mVar 2) (mNil)))) (mNil)))))))
def mf_bounds : List D → M D := mFn 3 mb_bounds
end Sh

set_option Elab.async false
set_option linter.all false
set_option maxRecDepth 100000
set_option maxHeartbeats 4000000
namespace Sh
open PySem PySem.Spec PyProof.Rows L2 Mi He
@[reducible] def mb_check_bill : MS := mIfS (mNot (mB (mCall 1 mf_is_natural (mCons (mVar 0) (mNil))))) (mStuck) (mNext)
def mf_check_bill : List D → M D := mFn 1 mb_check_bill
@[reducible] def mb_Form_sum_of : MS := mSeq (mIfS (mNot (mB (mCall 1 mf_is_natural (mCons (mVar 1) (mNil))))) (mStuck) (mNext)) (mRet (mCB sumD (mCons (mSl (mUn (fldD "Form" ["numbers"] 0) (mVar 0)) (mOn) (mOs (mVar 1))) (mNil))))
def mf_Form_sum_of : List D → M D := mFn 2 mb_Form_sum_of
@[reducible] def mb_check_payable : MS := mSeq (mDrop (mCall 1 mf_check_wallet (mCons (mVar 0) (mNil)))) (mSeq (mDrop (mCall 1 mf_check_bill (mCons (mVar 1) (mNil)))) (mIfS (mB (mBin gtD (mVar 1) (mMeth "Form" "sum_of" 1 mf_Form_sum_of (mSelf "Wallet" mf_Wallet_form (mVar 0)) (mCons (mC (.int 1)) (mNil))))) (mStuck) (mNext)))
def mf_check_payable : List D → M D := mFn 2 mb_check_payable
end Sh

set_option Elab.async false
set_option linter.all false
set_option maxRecDepth 100000
set_option maxHeartbeats 4000000
namespace S4
open PySem PySem.Spec PyProof.Rows L2 Mi He Sh
@[reducible] def mb__law_draw : MS := mSeq (mPutP 0 (mBin addD (mIxP 0 (mC (.int 3))) (mC (.int 1))) (mC (.int 3))) (mSeq (mPutP 0 (mBin modD (mCB int1D (mCons (mBin addD (mBin addD (mBin mulD (mIxP 0 (mC (.int 0))) (mC (.int 71993))) (mBin mulD (mIxP 0 (mC (.int 3))) (mC (.int 52631)))) (mC (.int 29))) (mNil))) (mC (.int 2147483629))) (mC (.int 0))) (mSeq (mPutP 0 (mBin modD (mCB int1D (mCons (mBin addD (mBin mulD (mIxP 0 (mC (.int 1))) (mC (.int 40903))) (mBin mulD (mBin fdivD (mCB int1D (mCons (mIxP 0 (mC (.int 0))) (mNil))) (mC (.int 61))) (mC (.int 13)))) (mNil))) (mC (.int 2147483587))) (mC (.int 1))) (mSeq (mIfS (mB (mBin gtD (mIxP 0 (mC (.int 2))) (mC (.int 0)))) (mSeq (mDmP 0 (mC (.int 2)) 2 (mCB dmD (mCons (mIxP 0 (mC (.int 2))) (mCons (mVar 1) (mNil))))) (mRet (mVar 2))) (mNext)) (mRet (mBin modD (mCB int1D (mCons (mBin addD (mIxP 0 (mC (.int 0))) (mBin fdivD (mBin mulD (mIxP 0 (mC (.int 1))) (mC (.int 5))) (mC (.int 32)))) (mNil))) (mVar 1))))))
def mf__law_draw : List D → M D := mFn 3 mb__law_draw
@[reducible] def mb__law_some_alike : MS := mSeq (mIfS (mB (mBin ltD (mCB lenD (mCons (mVar 1) (mNil))) (mC (.int 2)))) (mRet (mVar 1)) (mNext)) (mSeq (mPar [2, 3] (mMsh (mCall 2 mf__law_draw (mCons (mVar 0) (mCons (mCB lenD (mCons (mVar 1) (mNil))) (mNil)))) (mMsh (mCall 2 mf__law_draw (mCons (mVar 0) (mCons (mCB lenD (mCons (mVar 1) (mNil))) (mNil)))) (mMnil)))) (mSeq (mSet 4 (mCall 2 mf__law_draw (mCons (mVar 0) (mCons (mC (.int 3)) (mNil))))) (mSeq (mSet 5 (mBin ixD (mFz (mLstO (mCons (mTup (mCons (mBin ixD (mBin ixD (mVar 1) (mVar 2)) (mC (.int 0))) (mCons (mBin ixD (mBin ixD (mVar 1) (mVar 3)) (mC (.int 1))) (mNil)))) (mCons (mTup (mCons (mBin ixD (mBin ixD (mVar 1) (mVar 3)) (mC (.int 0))) (mCons (mBin ixD (mBin ixD (mVar 1) (mVar 2)) (mC (.int 1))) (mNil)))) (mCons (mBin ixD (mVar 1) (mVar 2)) (mNil)))))) (mVar 4))) (mSeq (mIfS (mB (mBin gtD (mBin ixD (mVar 5) (mC (.int 0))) (mBin mulD (mC (.int 24)) (mBin ixD (mVar 5) (mC (.int 1)))))) (mRet (mVar 1)) (mNext)) (mRet (mBin addD (mBin addD (mSl (mVar 1) (mOn) (mOs (mVar 3))) (mFz (mLstO (mCons (mVar 5) (mNil))))) (mSl (mVar 1) (mOs (mBin addD (mVar 3) (mC (.int 1)))) (mOn))))))))
def mf__law_some_alike : List D → M D := mFn 6 mb__law_some_alike
@[reducible] def lb__law_drawn_small_1 : MS := mSeq (mSet 6 (mCall 2 mf__law_draw (mCons (mVar 0) (mCons (mBin addD (mCB minD (mCons (mVar 4) (mCons (mC (.int 6)) (mNil)))) (mC (.int 1))) (mNil))))) (mSeq (mApp 3 (mTup (mCons (mVar 6) (mCons (mBin addD (mC (.int 1)) (mCall 2 mf__law_draw (mCons (mVar 0) (mCons (mC (.int 4)) (mNil))))) (mNil))))) (mSet 4 (mBin subD (mVar 4) (mVar 6))))
@[reducible] def mb__law_drawn_small : MS := mSeq (mPar [3, 4] (mMow (mLstO (mNil)) (mMsh (mVar 2) (mMnil)))) (mSeq (mFor (mIof rng1 (mCons (mCall 2 mf__law_draw (mCons (mVar 0) (mCons (mBin addD (mVar 1) (mC (.int 1))) (mNil)))) (mNil))) (mGn 5) (lb__law_drawn_small_1)) (mFrz 3 (mRet (mVar 3))))
def mf__law_drawn_small : List D → M D := mFn 7 mb__law_drawn_small
@[reducible] def lb__law_drawn_large_1 : MS := mSet 1 (mBin addD (mBin mulD (mVar 1) (mBin powD (mC (.int 10)) (mC (.int 9)))) (mCall 2 mf__law_draw (mCons (mVar 0) (mCons (mBin powD (mC (.int 10)) (mC (.int 9))) (mNil)))))
@[reducible] def mb__law_drawn_large : MS := mSeq (mSet 1 (mC (.int 0))) (mSeq (mFor (mIof rng1 (mCons (mBin ixD (mFz (mLstO (mCons (mC (.int 1)) (mCons (mC (.int 1)) (mCons (mC (.int 2)) (mCons (mC (.int 3)) (mNil))))))) (mCall 2 mf__law_draw (mCons (mVar 0) (mCons (mC (.int 4)) (mNil))))) (mNil))) (mGn 2) (lb__law_drawn_large_1)) (mRet (mVar 1)))
def mf__law_drawn_large : List D → M D := mFn 3 mb__law_drawn_large
@[reducible] def lb__law_drawn_great_1 : MS := mSeq (mSet 4 (mBin addD (mC (.int 1)) (mIf (mB (mBin gtD (mCall 2 mf__law_draw (mCons (mVar 0) (mCons (mC (.int 3)) (mNil)))) (mC (.int 0)))) (mCall 1 mf__law_drawn_large (mCons (mVar 0) (mNil))) (mCall 2 mf__law_draw (mCons (mVar 0) (mCons (mC (.int 9)) (mNil))))))) (mSeq (mSet 5 (mBin ixD (mFz (mLstO (mCons (mC (.int 0)) (mCons (mC (.int 1)) (mCons (mBin subD (mVar 4) (mC (.int 1))) (mCons (mBin fdivD (mVar 4) (mC (.int 2))) (mCons (mCall 1 mf__law_drawn_large (mCons (mVar 0) (mNil))) (mNil)))))))) (mCall 2 mf__law_draw (mCons (mVar 0) (mCons (mC (.int 5)) (mNil)))))) (mApp 2 (mTup (mCons (mBin addD (mBin mulD (mCall 2 mf__law_draw (mCons (mVar 0) (mCons (mC (.int 24)) (mNil)))) (mVar 4)) (mCB minD (mCons (mVar 5) (mCons (mVar 4) (mNil))))) (mCons (mVar 4) (mNil))))))
@[reducible] def mb__law_drawn_great : MS := mSeq (mSetO 2 (mLstO (mNil))) (mSeq (mFor (mIof rng1 (mCons (mCall 2 mf__law_draw (mCons (mVar 0) (mCons (mBin addD (mVar 1) (mC (.int 1))) (mNil)))) (mNil))) (mGn 3) (lb__law_drawn_great_1)) (mFrz 2 (mRet (mVar 2))))
def mf__law_drawn_great : List D → M D := mFn 6 mb__law_drawn_great
@[reducible] def mb__law_worth_of : MS := mRet (mCB minD (mCons (mBin ixD (mVar 0) (mC (.int 0))) (mCons (mBin mulD (mBin ixD (mVar 0) (mC (.int 1))) (mVar 1)) (mNil))))
def mf__law_worth_of : List D → M D := mFn 2 mb__law_worth_of
@[reducible] def ce__law_room_of_1 : ME := mCall 2 mf__law_worth_of (mCons (mVar 2) (mCons (mVar 1) (mNil)))
@[reducible] def mb__law_room_of : MS := mRet (mCB sumD (mCons (mFz (mLcO [2] (mIany (mVar 0)) (mGn 2) (mYes) (ce__law_room_of_1))) (mNil)))
def mf__law_room_of : List D → M D := mFn 3 mb__law_room_of
@[reducible] def mb__law_pick : MS := mRet (mBin ixD (mVar 1) (mCall 2 mf__law_draw (mCons (mVar 0) (mCons (mCB lenD (mCons (mVar 1) (mNil))) (mNil)))))
def mf__law_pick : List D → M D := mFn 2 mb__law_pick
@[reducible] def lb__law_drawn_name_1 : MS := mSet 2 (mBin addD (mVar 2) (mBin ixD (mVar 1) (mCall 2 mf__law_draw (mCons (mVar 0) (mCons (mC (.int 36)) (mNil))))))
@[reducible] def mb__law_drawn_name : MS := mSeq (mSet 1 (mC (.str "abcdefghijklmnopqrstuvwxyz0123456789"))) (mSeq (mSet 2 (mBin ixD (mVar 1) (mCall 2 mf__law_draw (mCons (mVar 0) (mCons (mC (.int 26)) (mNil)))))) (mSeq (mFor (mIof rng1 (mCons (mBin ixD (mFz (mLstO (mCons (mC (.int 0)) (mCons (mC (.int 1)) (mCons (mC (.int 2)) (mCons (mC (.int 7)) (mNil))))))) (mCall 2 mf__law_draw (mCons (mVar 0) (mCons (mC (.int 4)) (mNil))))) (mNil))) (mGn 3) (lb__law_drawn_name_1)) (mRet (mVar 2))))
def mf__law_drawn_name : List D → M D := mFn 4 mb__law_drawn_name
@[reducible] def lb__law_drawn_names_1 : MS := mSeq (mSet 4 (mCall 1 mf__law_drawn_name (mCons (mVar 0) (mNil)))) (mSeq (mSet 5 (mFz (mBorLs [2] (mLcO [6] (mIany (mC (.str "abcdefghijkl"))) (mGn 6) (mB (mBin ninD (mVar 6) (mVar 2))) (mVar 6))))) (mApp 2 (mBor 2 (mIf (mB (mBin inD (mVar 4) (mVar 2))) (mBin ixD (mVar 5) (mC (.int 0))) (mVar 4)))))
@[reducible] def mb__law_drawn_names : MS := mSeq (mSetO 2 (mLstO (mNil))) (mSeq (mFor (mIof rng1 (mCons (mVar 1) (mNil))) (mGn 3) (lb__law_drawn_names_1)) (mFrz 2 (mRet (mVar 2))))
def mf__law_drawn_names : List D → M D := mFn 7 mb__law_drawn_names
@[reducible] def lb__law_shutet_text_1 : MS := mSeq (mAsg (mBin ixD (mVar 1) (mVar 3)) (mGt 2 (mGcons (mGn 4) (mGcons (mGn 5) (mGnil))))) (mApp 2 (mBin addD (mBin addD (mBin addD (mBin addD (mBin ixD (mVar 0) (mVar 3)) (mC (.str " "))) (mCB strID (mCons (mVar 4) (mNil)))) (mC (.str "/"))) (mCB strID (mCons (mVar 5) (mNil)))))
@[reducible] def mb__law_shutet_text : MS := mSeq (mSetO 2 (mLstO (mNil))) (mSeq (mFor (mIof rng1 (mCons (mCB lenD (mCons (mVar 1) (mNil))) (mNil))) (mGn 3) (lb__law_shutet_text_1)) (mFrz 2 (mRet (mJoin (mC (.str ", ")) (mVar 2)))))
def mf__law_shutet_text : List D → M D := mFn 6 mb__law_shutet_text
@[reducible] def mb__law_part_of : MS := mRet (mBin subD (mCall 2 mf__law_worth_of (mCons (mVar 0) (mCons (mBin addD (mVar 1) (mC (.int 1))) (mNil)))) (mCall 2 mf__law_worth_of (mCons (mVar 0) (mCons (mVar 1) (mNil)))))
def mf__law_part_of : List D → M D := mFn 2 mb__law_part_of
@[reducible] def ce__law_bounds_of_1 : ME := mCall 2 mf__law_part_of (mCons (mVar 3) (mCons (mVar 4) (mNil)))
@[reducible] def ct__law_bounds_of_2 : MT := mB (mBin geD (mCB sumD (mCons (mFz (mLcO [3] (mIany (mVar 0)) (mGn 3) (mYes) (ce__law_bounds_of_1))) (mNil))) (mVar 1))
@[reducible] def ce__law_bounds_of_3 : ME := mCall 2 mf__law_part_of (mCons (mVar 3) (mCons (mVar 2) (mNil)))
@[reducible] def ce__law_bounds_of_4 : ME := mCall 2 mf__law_part_of (mCons (mVar 3) (mCons (mBin addD (mVar 2) (mC (.int 1))) (mNil)))
@[reducible] def mb__law_bounds_of : MS := mSeq (mIfS (mB (mBin eqMD (mVar 1) (mC (.int 0)))) (mRet (mTup (mCons (mFz (mLcO [3] (mIany (mVar 0)) (mGn 3) (mYes) (mC (.int 0)))) (mCons (mFz (mLcO [3] (mIany (mVar 0)) (mGn 3) (mYes) (mC (.int 0)))) (mNil))))) (mNext)) (mSeq (mSet 2 (mCB maxD (mCons (mFz (mLcO [4] (mIof rng1 (mCons (mC (.int 24)) (mNil))) (mGn 4) (ct__law_bounds_of_2) (mVar 4))) (mNil)))) (mRet (mTup (mCons (mFz (mLcO [3] (mIany (mVar 0)) (mGn 3) (mYes) (ce__law_bounds_of_4))) (mCons (mFz (mLcO [3] (mIany (mVar 0)) (mGn 3) (mYes) (ce__law_bounds_of_3))) (mNil))))))
def mf__law_bounds_of : List D → M D := mFn 5 mb__law_bounds_of
@[reducible] def mbL__law_made_pool : MS := mSeq (mSet 1 (mIf (mOr (mB (mBin ltD (mVar 0) (mC (.int 0)))) (mB (mBin geD (mVar 0) (mBin powD (mC (.int 10)) (mC (.int 18)))))) (mCB absD (mCons (mVar 0) (mNil))) (mC (.int 0)))) (mRetL (mLstO (mCons (mBin modD (mCB int1D (mCons (mVar 0) (mNil))) (mC (.int 2147483629))) (mCons (mBin modD (mCB int1D (mCons (mBin addD (mBin fdivD (mVar 0) (mC (.int 7))) (mC (.int 5))) (mNil))) (mC (.int 2147483587))) (mCons (mVar 1) (mCons (mC (.int 0)) (mNil)))))))
def mfL__law_made_pool : List D → M (List D) := mFnL 2 mbL__law_made_pool
@[reducible] def lb__law_cell_at_1 : MS := mSet 2 (mBin modD (mCB int1D (mCons (mBin addD (mBin mulD (mVar 2) (mC (.int 49297))) (mVar 3)) (mNil))) (mC (.int 2147483629)))
@[reducible] def mb__law_cell_at : MS := mSeq (mIfS (mB (mBin ltD (mVar 1) (mCB lenD (mCons (mVar 0) (mNil))))) (mRet (mBin ixD (mVar 0) (mVar 1))) (mNext)) (mSeq (mSet 2 (mBin modD (mCB int1D (mCons (mBin addD (mBin addD (mBin mulD (mBin mulD (mVar 1) (mVar 1)) (mC (.int 60037))) (mBin mulD (mVar 1) (mC (.int 977)))) (mC (.int 17))) (mNil))) (mC (.int 2147483629)))) (mSeq (mFor (mIany (mSl (mVar 0) (mOn) (mOs (mC (.int 3))))) (mGn 3) (lb__law_cell_at_1)) (mRet (mVar 2))))
def mf__law_cell_at : List D → M D := mFn 4 mb__law_cell_at
end S4










set_option Elab.async false
set_option linter.all false
set_option maxRecDepth 100000
set_option maxHeartbeats 4000000
namespace S4
open PySem PySem.Spec PyProof.Rows L2 Mi He Sh
@[reducible] def mb__law_is_whole : MS := mRet (mAndV (mCB isiD (mCons (mVar 0) (mCons (mC (.ty "int")) (mNil)))) (mNotV (mCB isiD (mCons (mVar 0) (mCons (mC (.ty "bool")) (mNil))))))
def mf__law_is_whole : List D → M D := mFn 1 mb__law_is_whole
@[reducible] def ce__law_is_row_of_1 : ME := mAndV (mCall 1 mf__law_is_whole (mCons (mVar 1) (mNil))) (mBin geD (mVar 1) (mC (.int 0)))
@[reducible] def mb__law_is_row_of : MS := mRet (mAndV (mCB isiD (mCons (mVar 0) (mCons (mC (.ty "tuple")) (mNil)))) (mCB allD (mCons (mFz (mLcO [1] (mIany (mVar 0)) (mGn 1) (mYes) (ce__law_is_row_of_1))) (mNil))))
def mf__law_is_row_of : List D → M D := mFn 2 mb__law_is_row_of
end S4

set_option Elab.async false
set_option linter.all false
set_option maxRecDepth 100000
set_option maxHeartbeats 4000000
namespace S4
open PySem PySem.Spec PyProof.Rows L2 Mi He Sh
@[reducible] def mb_lead_by : MS := mSeq (mIfS (mB (mBin inD (mVar 0) (mTup (mCons (mC (.str "early")) (mCons (mC (.str "late")) (mNil)))))) (mSet 3 (mBin subD (mBin ixD (mVar 2) (mC (.int 0))) (mBin ixD (mVar 1) (mC (.int 0))))) (mIfS (mB (mBin inD (mVar 0) (mTup (mCons (mC (.str "most")) (mCons (mC (.str "least")) (mNil)))))) (mSet 3 (mBin subD (mBin ixD (mVar 1) (mC (.int 1))) (mBin ixD (mVar 2) (mC (.int 1))))) (mIfS (mB (mBin inD (mVar 0) (mTup (mCons (mC (.str "wide")) (mCons (mC (.str "narrow")) (mNil)))))) (mSet 3 (mBin subD (mBin ixD (mVar 1) (mC (.int 2))) (mBin ixD (mVar 2) (mC (.int 2))))) (mSet 3 (mBin subD (mBin mulD (mBin ixD (mVar 1) (mC (.int 1))) (mBin ixD (mVar 2) (mC (.int 2)))) (mBin mulD (mBin ixD (mVar 2) (mC (.int 1))) (mBin ixD (mVar 1) (mC (.int 2))))))))) (mRet (mIf (mB (mBin inD (mVar 0) (mC (.tup ((["least", "narrow", "short", "late"] : List Str).map D.str))))) (mBin subD (mC (.int 0)) (mVar 3)) (mVar 3)))
def mf_lead_by : List D → M D := mFn 4 mb_lead_by
@[reducible] def lb_is_ahead_1 : MS := mSeq (mSet 4 (mCall 3 mf_lead_by (mCons (mVar 3) (mCons (mVar 1) (mCons (mVar 2) (mNil)))))) (mIfS (mB (mBin neMD (mVar 4) (mC (.int 0)))) (mRet (mBin gtD (mVar 4) (mC (.int 0)))) (mNext))
@[reducible] def mb_is_ahead : MS := mSeq (mFor (mIany (mVar 0)) (mGn 3) (lb_is_ahead_1)) (mRet (mBin ltD (mBin ixD (mVar 1) (mC (.int 0))) (mBin ixD (mVar 2) (mC (.int 0)))))
def mf_is_ahead : List D → M D := mFn 5 mb_is_ahead
@[reducible] def lb_one_by_one_1 : MS := mSeq (mSet 9 (mTup (mCons (mVar 6) (mCons (mBin subD (mVar 7) (mIxO 3 (mVar 6))) (mCons (mVar 8) (mNil)))))) (mSeq (mSet 10 (mAndV (mBin gtD (mBin ixD (mVar 9) (mC (.int 1))) (mC (.int 0))) (mBin ltD (mIxO 3 (mVar 6)) (mVar 8)))) (mIfS (mAnd (mB (mVar 10)) (mOr (mB (mBin isD (mVar 5) (mC .non))) (mB (mCall 3 mf_is_ahead (mCons (mVar 0) (mCons (mVar 9) (mCons (mVar 5) (mNil)))))))) (mSet 5 (mVar 9)) (mNext)))
@[reducible] def lb_one_by_one_2 : MS := mSeq (mSet 5 (mC .non)) (mSeq (mFor (mIof enumA (mCons (mVar 1) (mNil))) (mGt 2 (mGcons (mGn 6) (mGcons (mGt 2 (mGcons (mGn 7) (mGcons (mGn 8) (mGnil)))) (mGnil)))) (lb_one_by_one_1)) (mAugS 3 addI (mBin ixD (mVar 5) (mC (.int 0))) (mC (.int 1))))
@[reducible] def mb_one_by_one : MS := mSeq (mSetO 3 (mBinO repO (mFz (mLstO (mCons (mC (.int 0)) (mNil)))) (mCB lenD (mCons (mVar 1) (mNil))))) (mSeq (mFor (mIof rng1 (mCons (mVar 2) (mNil))) (mGn 4) (lb_one_by_one_2)) (mFrz 3 (mRet (mCB tupD (mCons (mVar 3) (mNil))))))
def mf_one_by_one : List D → M D := mFn 11 mb_one_by_one
@[reducible] def lb_placed_by_1 : MS := mAug 7 addI (mC (.int 1))
@[reducible] def lb_placed_by_2 : MS := mSeq (mPar [6, 7] (mMsh (mTup (mCons (mVar 3) (mCons (mVar 4) (mCons (mVar 5) (mNil))))) (mMsh (mC (.int 0)) (mMnil)))) (mSeq (mWhile 100000 (mAnd (mB (mBin ltD (mVar 7) (mLenO 2))) (mB (mCall 3 mf_is_ahead (mCons (mVar 0) (mCons (mIxO 2 (mVar 7)) (mCons (mVar 6) (mNil))))))) (lb_placed_by_1)) (mIns 2 (mVar 7) (mVar 6)))
@[reducible] def mb_placed_by : MS := mSeq (mSetO 2 (mLstO (mNil))) (mSeq (mFor (mIof enumA (mCons (mVar 1) (mNil))) (mGt 2 (mGcons (mGn 3) (mGcons (mGt 2 (mGcons (mGn 4) (mGcons (mGn 5) (mGnil)))) (mGnil)))) (lb_placed_by_2)) (mFrz 2 (mRet (mVar 2))))
def mf_placed_by : List D → M D := mFn 8 mb_placed_by
@[reducible] def lb_filled_by_1 : MS := mSeq (mSet 10 (mCB minD (mCons (mCB int1D (mCons (mVar 6) (mNil))) (mCons (mBin subD (mBin ixD (mVar 3) (mVar 7)) (mIxO 5 (mVar 7))) (mNil))))) (mSeq (mAugS 5 addI (mVar 7) (mVar 10)) (mAug 6 subD (mVar 10)))
@[reducible] def mb_filled_by : MS := mSeq (mPar [5, 6] (mMow (mCBO listO (mCons (mVar 2) (mNil))) (mMsh (mBin subD (mVar 4) (mCB sumD (mCons (mVar 2) (mNil)))) (mMnil)))) (mSeq (mFor (mIany (mCall 2 mf_placed_by (mCons (mVar 0) (mCons (mVar 1) (mNil))))) (mGt 3 (mGcons (mGn 7) (mGcons (mGn 8) (mGcons (mGn 9) (mGnil))))) (lb_filled_by_1)) (mFrz 5 (mRet (mCB tupD (mCons (mVar 5) (mNil))))))
def mf_filled_by : List D → M D := mFn 11 mb_filled_by
@[reducible] def mb_payment_by : MS := mSeq (mIfS (mB (mBin eqMD (mVar 0) (mC (.str "units")))) (mRet (mCall 3 mf_one_by_one (mCons (mVar 1) (mCons (mVar 2) (mCons (mVar 3) (mNil)))))) (mNext)) (mSeq (mIfS (mB (mBin eqMD (mVar 0) (mC (.str "spare")))) (mSeq (mAsg (mCall 2 mf_bounds (mCons (mVar 2) (mCons (mVar 3) (mNil)))) (mGt 2 (mGcons (mGn 4) (mGcons (mGn 5) (mGnil))))) (mRet (mCall 5 mf_filled_by (mCons (mVar 1) (mCons (mVar 2) (mCons (mVar 4) (mCons (mVar 5) (mCons (mVar 3) (mNil))))))))) (mNext)) (mRet (mCall 5 mf_filled_by (mCons (mVar 1) (mCons (mVar 2) (mCons (mBin mulD (mFz (mLstO (mCons (mC (.int 0)) (mNil)))) (mCB lenD (mCons (mVar 2) (mNil)))) (mCons (mCall 2 mf_parts (mCons (mVar 2) (mCons (mC (.int 0)) (mNil)))) (mCons (mVar 3) (mNil)))))))))
def mf_payment_by : List D → M D := mFn 6 mb_payment_by
@[reducible] def mb_Drain_share : MS := mRet (mCall 4 mf_payment_by (mCons (mUn (conD "Drain" "KIND" (.str "drain")) (mVar 0)) (mCons (mUn (fldD "Drain" ["wishes"] 0) (mVar 0)) (mCons (mVar 1) (mCons (mVar 2) (mNil))))))
def mf_Drain_share : List D → M D := mFn 3 mb_Drain_share
@[reducible] def mb_Drain___call__ : MS := mSeq (mDrop (mCall 2 mf_check_payable (mCons (mVar 1) (mCons (mVar 2) (mNil))))) (mSeq (mIfS (mAnd (mB (mBin eqMD (mUn (conD "Drain" "KIND" (.str "drain")) (mVar 0)) (mC (.str "units")))) (mB (mBin gtD (mVar 2) (mC (.int 1000))))) (mStuck) (mNext)) (mRet (mMeth "Drain" "share" 2 mf_Drain_share (mVar 0) (mCons (mCall 1 mf_amounts_of (mCons (mVar 1) (mNil))) (mCons (mVar 2) (mNil))))))
def mf_Drain___call__ : List D → M D := mFn 3 mb_Drain___call__
@[reducible] def lb_wrong_key_1 : MS := mIfS (mOr (mNot (mB (mCB isiD (mCons (mVar 2) (mCons (mC (.ty "str")) (mNil)))))) (mOr (mB (mBin ninD (mVar 2) (mC (.tup ((["most", "least", "wide", "narrow", "long", "short", "early", "late"] : List Str).map D.str))))) (mB (mBin inD (mVar 2) (mSl (mVar 0) (mOn) (mOs (mVar 1))))))) (mRet (mVar 1)) (mNext)
@[reducible] def mb_wrong_key : MS := mSeq (mFor (mIof enumA (mCons (mVar 0) (mNil))) (mGt 2 (mGcons (mGn 1) (mGcons (mGn 2) (mGnil)))) (lb_wrong_key_1)) (mRet (mIf (mB (mBin eqMD (mVar 0) (mTup (mNil)))) (mC (.int 0)) (mC .non)))
def mf_wrong_key : List D → M D := mFn 3 mb_wrong_key
@[reducible] def mb_Drain___base__ : MS := mSeq (mSet 2 (mCall 1 mf_wrong_key (mCons (mVar 1) (mNil)))) (mSeq (mIfS (mB (mBin isntD (mVar 2) (mC .non))) (mStuck) (mNext)) (mSelfSet 0 "Drain" "wishes" (mVar 1)))
def mf_Drain___base__ : List D → M (List Str × List D) := mInitS 3 "Drain" mb_Drain___base__
@[reducible] def mf_Drain___init__ : List D → M (List Str × List D) := mf_Drain___base__
@[reducible] def mb_Units_share : MS := mRet (mCall 4 mf_payment_by (mCons (mUn (conD "Units" "KIND" (.str "units")) (mVar 0)) (mCons (mUn (fldD "Units" ["wishes"] 0) (mVar 0)) (mCons (mVar 1) (mCons (mVar 2) (mNil))))))
def mf_Units_share : List D → M D := mFn 3 mb_Units_share
@[reducible] def mb_Units___call__ : MS := mSeq (mDrop (mCall 2 mf_check_payable (mCons (mVar 1) (mCons (mVar 2) (mNil))))) (mSeq (mIfS (mAnd (mB (mBin eqMD (mUn (conD "Units" "KIND" (.str "units")) (mVar 0)) (mC (.str "units")))) (mB (mBin gtD (mVar 2) (mC (.int 1000))))) (mStuck) (mNext)) (mRet (mMeth "Units" "share" 2 mf_Units_share (mVar 0) (mCons (mCall 1 mf_amounts_of (mCons (mVar 1) (mNil))) (mCons (mVar 2) (mNil))))))
def mf_Units___call__ : List D → M D := mFn 3 mb_Units___call__
@[reducible] def mb_Spare_share : MS := mRet (mCall 4 mf_payment_by (mCons (mUn (conD "Spare" "KIND" (.str "spare")) (mVar 0)) (mCons (mUn (fldD "Spare" ["wishes"] 0) (mVar 0)) (mCons (mVar 1) (mCons (mVar 2) (mNil))))))
def mf_Spare_share : List D → M D := mFn 3 mb_Spare_share
@[reducible] def mb_Spare___call__ : MS := mSeq (mDrop (mCall 2 mf_check_payable (mCons (mVar 1) (mCons (mVar 2) (mNil))))) (mSeq (mIfS (mAnd (mB (mBin eqMD (mUn (conD "Spare" "KIND" (.str "spare")) (mVar 0)) (mC (.str "units")))) (mB (mBin gtD (mVar 2) (mC (.int 1000))))) (mStuck) (mNext)) (mRet (mMeth "Spare" "share" 2 mf_Spare_share (mVar 0) (mCons (mCall 1 mf_amounts_of (mCons (mVar 1) (mNil))) (mCons (mVar 2) (mNil))))))
def mf_Spare___call__ : List D → M D := mFn 3 mb_Spare___call__
@[reducible] def mb__law_drawn_amounts : MS := mSeq (mIfS (mB (mBin eqMD (mCall 2 mf__law_draw (mCons (mVar 0) (mCons (mC (.int 2)) (mNil)))) (mC (.int 0)))) (mRet (mCall 3 mf__law_drawn_small (mCons (mVar 0) (mCons (mC (.int 4)) (mCons (mC (.int 12)) (mNil)))))) (mNext)) (mRet (mCall 2 mf__law_drawn_great (mCons (mVar 0) (mCons (mCall 2 mf__law_pick (mCons (mVar 0) (mCons (mFz (mLstO (mCons (mC (.int 1)) (mCons (mC (.int 2)) (mCons (mC (.int 3)) (mCons (mC (.int 4)) (mCons (mC (.int 12)) (mNil)))))))) (mNil)))) (mNil)))))
def mf__law_drawn_amounts : List D → M D := mFn 1 mb__law_drawn_amounts
@[reducible] def lb__law_drawn_keys_1 : MS := mAppPop 3 2 (mCall 2 mf__law_draw (mCons (mVar 0) (mCons (mLenO 2) (mNil))))
@[reducible] def mb__law_drawn_keys : MS := mSeq (mPar [2, 3] (mMow (mLstO (mCons (mC (.str "most")) (mCons (mC (.str "least")) (mCons (mC (.str "wide")) (mCons (mC (.str "narrow")) (mCons (mC (.str "long")) (mCons (mC (.str "short")) (mCons (mC (.str "early")) (mCons (mC (.str "late")) (mNil)))))))))) (mMow (mLstO (mNil)) (mMnil)))) (mSeq (mFor (mIof rng1 (mCons (mVar 1) (mNil))) (mGn 4) (lb__law_drawn_keys_1)) (mFrz 3 (mRet (mVar 3))))
def mf__law_drawn_keys : List D → M D := mFn 5 mb__law_drawn_keys
@[reducible] def ce__law_made_shutet_1 : ME := mTup (mCons (mBin ixD (mVar 0) (mVar 2)) (mCons (mMake "Card" 2 mf_Card___init__ (mCons (mBin ixD (mBin ixD (mVar 1) (mVar 2)) (mC (.int 0))) (mCons (mBin ixD (mBin ixD (mVar 1) (mVar 2)) (mC (.int 1))) (mNil)))) (mNil)))
@[reducible] def mb__law_made_shutet : MS := mRet (mMake "Wallet" 1 mf_Wallet___init__ (mCons (mCB tupD (mCons (mFz (mLcO [2] (mIof rng1 (mCons (mCB lenD (mCons (mVar 1) (mNil))) (mNil))) (mGn 2) (mYes) (ce__law_made_shutet_1))) (mNil))) (mNil)))
def mf__law_made_shutet : List D → M D := mFn 3 mb__law_made_shutet
@[reducible] def mb__law_drawn_bill : MS := mSeq (mSet 3 (mCB minD (mCons (mCall 2 mf__law_room_of (mCons (mVar 1) (mCons (mC (.int 1)) (mNil)))) (mCons (mVar 2) (mNil))))) (mSeq (mSet 4 (mCall 2 mf__law_draw (mCons (mVar 0) (mCons (mC (.int 6)) (mNil))))) (mSeq (mIfS (mB (mBin ltD (mVar 4) (mC (.int 2)))) (mRet (mBin ixD (mFz (mLstO (mCons (mC (.int 0)) (mCons (mCB minD (mCons (mC (.int 1)) (mCons (mVar 3) (mNil)))) (mNil))))) (mVar 4))) (mNext)) (mSeq (mIfS (mB (mBin ltD (mVar 4) (mC (.int 4)))) (mRet (mBin ixD (mFz (mLstO (mCons (mVar 3) (mCons (mCB maxD (mCons (mC (.int 0)) (mCons (mBin subD (mVar 3) (mC (.int 1))) (mNil)))) (mNil))))) (mBin subD (mVar 4) (mC (.int 2))))) (mNext)) (mRet (mBin modD (mCB int1D (mCons (mCall 1 mf__law_drawn_large (mCons (mVar 0) (mNil))) (mNil))) (mBin addD (mVar 3) (mC (.int 1))))))))
def mf__law_drawn_bill : List D → M D := mFn 5 mb__law_drawn_bill
@[reducible] def ce__law_pairs_left_1 : ME := mTup (mCons (mBin subD (mBin ixD (mBin ixD (mVar 0) (mVar 2)) (mC (.int 0))) (mBin ixD (mVar 1) (mVar 2))) (mCons (mBin ixD (mBin ixD (mVar 0) (mVar 2)) (mC (.int 1))) (mNil)))
@[reducible] def mb__law_pairs_left : MS := mRet (mFz (mLcO [2] (mIof rng1 (mCons (mCB lenD (mCons (mVar 0) (mNil))) (mNil))) (mGn 2) (mYes) (ce__law_pairs_left_1)))
def mf__law_pairs_left : List D → M D := mFn 3 mb__law_pairs_left
@[reducible] def mb__law_rank_of : MS := mSeq (mIfS (mB (mBin inD (mVar 0) (mFz (mLstO (mCons (mC (.str "early")) (mCons (mC (.str "late")) (mNil))))))) (mRet (mIf (mB (mBin eqMD (mVar 0) (mC (.str "early")))) (mVar 2) (mBin subD (mC (.int 0)) (mVar 2)))) (mNext)) (mSeq (mIfS (mB (mBin inD (mVar 0) (mFz (mLstO (mCons (mC (.str "wide")) (mCons (mC (.str "narrow")) (mNil))))))) (mRet (mIf (mB (mBin eqMD (mVar 0) (mC (.str "narrow")))) (mBin ixD (mVar 1) (mC (.int 1))) (mBin subD (mC (.int 0)) (mBin ixD (mVar 1) (mC (.int 1)))))) (mNext)) (mSeq (mIfS (mB (mBin inD (mVar 0) (mFz (mLstO (mCons (mC (.str "most")) (mCons (mC (.str "least")) (mNil))))))) (mRet (mIf (mB (mBin eqMD (mVar 0) (mC (.str "least")))) (mBin ixD (mVar 1) (mC (.int 0))) (mBin subD (mC (.int 0)) (mBin ixD (mVar 1) (mC (.int 0)))))) (mNext)) (mSeq (mSet 4 (mBin mulD (mBin ixD (mVar 1) (mC (.int 0))) (mBin fdivD (mVar 3) (mBin ixD (mVar 1) (mC (.int 1)))))) (mRet (mIf (mB (mBin eqMD (mVar 0) (mC (.str "short")))) (mVar 4) (mBin subD (mC (.int 0)) (mVar 4)))))))
def mf__law_rank_of : List D → M D := mFn 5 mb__law_rank_of
@[reducible] def lb__law_places_of_1 : MS := mSet 2 (mBin mulD (mVar 2) (mVar 4))
@[reducible] def ce__law_places_of_2 : ME := mCall 4 mf__law_rank_of (mCons (mVar 7) (mCons (mBin ixD (mVar 1) (mVar 6)) (mCons (mVar 6) (mCons (mVar 2) (mNil)))))
@[reducible] def lb__law_places_of_3 : MS := mApp 5 (mBin addD (mFz (mLcO [7] (mIany (mVar 0)) (mGn 7) (mYes) (ce__law_places_of_2))) (mFz (mLstO (mCons (mVar 6) (mNil)))))
@[reducible] def ce__law_places_of_4 : ME := mBin ixD (mVar 8) (mUn negD (mC (.int 1)))
@[reducible] def mb__law_places_of : MS := mSeq (mSet 2 (mC (.int 1))) (mSeq (mFor (mIany (mVar 1)) (mGt 2 (mGcons (mGn 3) (mGcons (mGn 4) (mGnil)))) (lb__law_places_of_1)) (mSeq (mSetO 5 (mLstO (mNil))) (mSeq (mFor (mIof rng1 (mCons (mCB lenD (mCons (mVar 1) (mNil))) (mNil))) (mGn 6) (lb__law_places_of_3)) (mFrz 5 (mRet (mFz (mLcO [8] (mIany (mFz (mCBO srtLL (mCons (mVar 5) (mNil))))) (mGn 8) (mYes) (ce__law_places_of_4))))))))
def mf__law_places_of : List D → M D := mFn 9 mb__law_places_of
@[reducible] def ct__law_units_of_1 : MT := mAnd (mB (mBin gtD (mBin ixD (mBin ixD (mVar 5) (mVar 8)) (mC (.int 0))) (mC (.int 0)))) (mB (mBin ltD (mBin ixD (mVar 3) (mVar 8)) (mBin ixD (mBin ixD (mVar 5) (mVar 8)) (mC (.int 1)))))
@[reducible] def lb__law_units_of_2 : MS := mSeq (mSet 5 (mBor 3 (mCall 2 mf__law_pairs_left (mCons (mVar 1) (mCons (mVar 3) (mNil)))))) (mSeq (mSet 6 (mFz (mBorLs [3] (mLcO [8] (mIany (mCall 2 mf__law_places_of (mCons (mVar 0) (mCons (mVar 5) (mNil))))) (mGn 8) (ct__law_units_of_1) (mVar 8))))) (mPut 3 (mBin addD (mIxO 3 (mBin ixD (mVar 6) (mC (.int 0)))) (mC (.int 1))) (mBin ixD (mVar 6) (mC (.int 0)))))
@[reducible] def mb__law_units_of : MS := mSeq (mSetO 3 (mLcO [7] (mIany (mVar 1)) (mGn 7) (mYes) (mC (.int 0)))) (mSeq (mFor (mIof rng1 (mCons (mVar 2) (mNil))) (mGn 4) (lb__law_units_of_2)) (mFrz 3 (mRet (mCB tupD (mCons (mVar 3) (mNil))))))
def mf__law_units_of : List D → M D := mFn 9 mb__law_units_of
@[reducible] def lb__law_filled_by_1 : MS := mSeq (mSet 8 (mCB minD (mCons (mVar 6) (mCons (mBin subD (mBin ixD (mVar 3) (mVar 7)) (mIxO 5 (mVar 7))) (mNil))))) (mSeq (mPut 5 (mBin addD (mIxO 5 (mVar 7)) (mVar 8)) (mVar 7)) (mSet 6 (mBin subD (mVar 6) (mVar 8))))
@[reducible] def mb__law_filled_by : MS := mSeq (mPar [5, 6] (mMow (mCBO listO (mCons (mVar 2) (mNil))) (mMsh (mBin subD (mVar 4) (mCB sumD (mCons (mVar 2) (mNil)))) (mMnil)))) (mSeq (mFor (mIany (mCall 2 mf__law_places_of (mCons (mVar 0) (mCons (mVar 1) (mNil))))) (mGn 7) (lb__law_filled_by_1)) (mFrz 5 (mRet (mCB tupD (mCons (mVar 5) (mNil))))))
def mf__law_filled_by : List D → M D := mFn 9 mb__law_filled_by
@[reducible] def mb__law_due_of : MS := mSeq (mIfS (mB (mBin eqMD (mVar 0) (mC (.str "units")))) (mRet (mCall 3 mf__law_units_of (mCons (mVar 1) (mCons (mVar 2) (mCons (mVar 3) (mNil)))))) (mNext)) (mSeq (mPar [4, 5] (mMsh (mFz (mLcO [6] (mIany (mVar 2)) (mGn 6) (mYes) (mC (.int 0)))) (mMsh (mFz (mLcO [6] (mIany (mVar 2)) (mGn 6) (mYes) (mCB minTD (mCons (mVar 6) (mNil))))) (mMnil)))) (mSeq (mIfS (mB (mBin eqMD (mVar 0) (mC (.str "spare")))) (mAsg (mCall 2 mf__law_bounds_of (mCons (mVar 2) (mCons (mVar 3) (mNil)))) (mGt 2 (mGcons (mGn 4) (mGcons (mGn 5) (mGnil))))) (mNext)) (mRet (mCall 5 mf__law_filled_by (mCons (mVar 1) (mCons (mVar 2) (mCons (mVar 4) (mCons (mVar 5) (mCons (mVar 3) (mNil))))))))))
def mf__law_due_of : List D → M D := mFn 7 mb__law_due_of
@[reducible] def mb_Units___base__ : MS := mSeq (mSet 2 (mCall 1 mf_wrong_key (mCons (mVar 1) (mNil)))) (mSeq (mIfS (mB (mBin isntD (mVar 2) (mC .non))) (mStuck) (mNext)) (mSelfSet 0 "Units" "wishes" (mVar 1)))
def mf_Units___base__ : List D → M (List Str × List D) := mInitS 3 "Units" mb_Units___base__
@[reducible] def mf_Units___init__ : List D → M (List Str × List D) := mf_Units___base__
@[reducible] def mb_Spare___base__ : MS := mSeq (mSet 2 (mCall 1 mf_wrong_key (mCons (mVar 1) (mNil)))) (mSeq (mIfS (mB (mBin isntD (mVar 2) (mC .non))) (mStuck) (mNext)) (mSelfSet 0 "Spare" "wishes" (mVar 1)))
def mf_Spare___base__ : List D → M (List Str × List D) := mInitS 3 "Spare" mb_Spare___base__
@[reducible] def mf_Spare___init__ : List D → M (List Str × List D) := mf_Spare___base__
@[reducible] def mb_rule_of : MS := mSeq (mIfS (mNot (mB (mCB isiD (mCons (mVar 0) (mCons (mC (.ty "str")) (mNil)))))) (mRet (mC .non)) (mNext)) (mSeq (mSet 1 (mS1 splD (mVar 0) (mC (.str " ")))) (mSeq (mSet 2 (mCB tupD (mCons (mSl (mVar 1) (mOs (mC (.int 1))) (mOn)) (mNil)))) (mSeq (mIfS (mB (mBin isntD (mCall 1 mf_wrong_key (mCons (mVar 2) (mNil))) (mC .non))) (mRet (mC .non)) (mNext)) (mSeq (mIfS (mB (mBin eqMD (mBin ixD (mVar 1) (mC (.int 0))) (mUn (cconD "Drain" (.str "drain")) (mC (.cls "Drain"))))) (mRet (mMakeS "Drain" mf_Drain___init__ (mStar (mVar 2) mNil))) (mNext)) (mSeq (mIfS (mB (mBin eqMD (mBin ixD (mVar 1) (mC (.int 0))) (mUn (cconD "Units" (.str "units")) (mC (.cls "Units"))))) (mRet (mMakeS "Units" mf_Units___init__ (mStar (mVar 2) mNil))) (mNext)) (mRet (mIf (mB (mBin eqMD (mBin ixD (mVar 1) (mC (.int 0))) (mUn (cconD "Spare" (.str "spare")) (mC (.cls "Spare"))))) (mMakeS "Spare" mf_Spare___init__ (mStar (mVar 2) mNil)) (mC .non))))))))
def mf_rule_of : List D → M D := mFn 3 mb_rule_of
@[reducible] def mb_Rule_read : MS := mSeq (mSet 1 (mCall 1 mf_rule_of (mCons (mVar 0) (mNil)))) (mSeq (mIfS (mB (mBin isD (mVar 1) (mC .non))) (mStuck) (mNext)) (mRet (mVar 1)))
def mf_Rule_read : List D → M D := mFn 2 mb_Rule_read
@[reducible] def mb__law_made_rule : MS := mSeq (mIfS (mB (mBin gtD (mCB lenD (mCons (mVar 1) (mNil))) (mC (.int 2)))) (mRet (mCall 1 mf_Rule_read (mCons (mJoin (mC (.str " ")) (mBin addD (mFz (mLstO (mCons (mVar 0) (mNil)))) (mVar 1))) (mNil)))) (mNext)) (mSeq (mIfS (mB (mBin eqMD (mCB lenD (mCons (mVar 1) (mNil))) (mC (.int 1)))) (mSeq (mIfS (mB (mBin eqMD (mVar 0) (mC (.str "drain")))) (mRet (mMakeS "Drain" mf_Drain___init__ (mCons (mBin ixD (mVar 1) (mC (.int 0))) (mNil)))) (mNext)) (mRet (mIf (mB (mBin eqMD (mVar 0) (mC (.str "units")))) (mMakeS "Units" mf_Units___init__ (mCons (mBin ixD (mVar 1) (mC (.int 0))) (mNil))) (mMakeS "Spare" mf_Spare___init__ (mCons (mBin ixD (mVar 1) (mC (.int 0))) (mNil)))))) (mNext)) (mSeq (mIfS (mB (mBin eqMD (mVar 0) (mC (.str "drain")))) (mRet (mMakeS "Drain" mf_Drain___init__ (mCons (mBin ixD (mVar 1) (mC (.int 0))) (mCons (mBin ixD (mVar 1) (mC (.int 1))) (mNil))))) (mNext)) (mRet (mIf (mB (mBin eqMD (mVar 0) (mC (.str "units")))) (mMakeS "Units" mf_Units___init__ (mCons (mBin ixD (mVar 1) (mC (.int 0))) (mCons (mBin ixD (mVar 1) (mC (.int 1))) (mNil)))) (mMakeS "Spare" mf_Spare___init__ (mCons (mBin ixD (mVar 1) (mC (.int 0))) (mCons (mBin ixD (mVar 1) (mC (.int 1))) (mNil))))))))
def mf__law_made_rule : List D → M D := mFn 2 mb__law_made_rule
@[reducible] def mb__law_is_told : MS := mSeq (mSet 4 (mCls (mVar 0) (by3 "Drain" "Units" "Spare" (mCallO "Drain" 2 mf_Drain___call__ (mVar 0) (mCons (mVar 1) (mCons (mVar 2) (mNil)))) (mCallO "Units" 2 mf_Units___call__ (mVar 0) (mCons (mVar 1) (mCons (mVar 2) (mNil)))) (mCallO "Spare" 2 mf_Spare___call__ (mVar 0) (mCons (mVar 1) (mCons (mVar 2) (mNil)))) mOff))) (mRet (mAndV (mCall 1 mf__law_is_row_of (mCons (mVar 4) (mNil))) (mAndV (mBin eqMD (mVar 4) (mCB tupD (mCons (mVar 3) (mNil)))) (mBin eqMD (mCls (mVar 0) (by3 "Drain" "Units" "Spare" (mCallO "Drain" 2 mf_Drain___call__ (mVar 0) (mCons (mVar 1) (mCons (mVar 2) (mNil)))) (mCallO "Units" 2 mf_Units___call__ (mVar 0) (mCons (mVar 1) (mCons (mVar 2) (mNil)))) (mCallO "Spare" 2 mf_Spare___call__ (mVar 0) (mCons (mVar 1) (mCons (mVar 2) (mNil)))) mOff)) (mVar 4)))))
def mf__law_is_told : List D → M D := mFn 5 mb__law_is_told
end S4

set_option Elab.async false
set_option linter.all false
set_option maxRecDepth 100000
set_option maxHeartbeats 4000000
namespace S4
open PySem PySem.Spec PyProof.Rows L2 Mi He Sh
@[reducible] def ce_Wallet___str___1 : ME := mFs [mFmt (mVar 1), mC (.str " "), mFmt (mUn (fldD "Card" ["held", "daily"] 0) (mVar 2)), mC (.str "/"), mFmt (mUn (fldD "Card" ["held", "daily"] 1) (mVar 2))]
@[reducible] def mb_Wallet___str__ : MS := mRet (mJoin (mC (.str ", ")) (mFz (mLcO [1, 2] (mIany (mUn (fldD "Wallet" ["pairs"] 0) (mVar 0))) (mGt 2 (mGcons (mGn 1) (mGcons (mGn 2) (mGnil)))) (mYes) (ce_Wallet___str___1))))
def mf_Wallet___str__ : List D → M D := mFn 3 mb_Wallet___str__
end S4

set_option Elab.async false
set_option linter.all false
set_option maxRecDepth 100000
set_option maxHeartbeats 4000000
namespace G64
open PySem PySem.Spec PyProof.Rows L2 Mi He Sh S4
noncomputable section
@[reducible] def lb__law_by_hand_1 : MS := mIfS (mB (mBin neMD (mCallO "Drain" 2 mf_Drain___call__ (mMakeS "Drain" mf_Drain___init__ (mCons (mVar 2) (mNil))) (mCons (mVar 0) (mCons (mC (.int 3)) (mNil)))) (mVar 3))) (mRet (mC (.bl false))) (mNext)
@[reducible] def lb__law_by_hand_2 : MS := mIfS (mB (mBin neMD (mCls (mVar 4) (by3 "Drain" "Units" "Spare" (mCallO "Drain" 2 mf_Drain___call__ (mVar 4) (mCons (mVar 0) (mCons (mC (.int 3)) (mNil)))) (mCallO "Units" 2 mf_Units___call__ (mVar 4) (mCons (mVar 0) (mCons (mC (.int 3)) (mNil)))) (mCallO "Spare" 2 mf_Spare___call__ (mVar 4) (mCons (mVar 0) (mCons (mC (.int 3)) (mNil)))) mOff)) (mTup (mCons (mC (.int 0)) (mCons (mC (.int 2)) (mCons (mC (.int 1)) (mNil))))))) (mRet (mC (.bl false))) (mNext)
@[reducible] def mb__law_by_hand : MS := mSeq (mSet 0 (mCMet1 "Wallet" 2 mf_Wallet_read (mC (.cls "Wallet")) (mCons (mC (.str "a 6/2, b 5/4, c 5/1")) (mNil)))) (mSeq (mSet 1 (mFz (mLstO (mCons (mFz (mLstO (mCons (mC (.str "most")) (mCons (mTup (mCons (mC (.int 2)) (mCons (mC (.int 1)) (mCons (mC (.int 0)) (mNil))))) (mNil))))) (mCons (mFz (mLstO (mCons (mC (.str "least")) (mCons (mTup (mCons (mC (.int 0)) (mCons (mC (.int 3)) (mCons (mC (.int 0)) (mNil))))) (mNil))))) (mCons (mFz (mLstO (mCons (mC (.str "wide")) (mCons (mTup (mCons (mC (.int 0)) (mCons (mC (.int 3)) (mCons (mC (.int 0)) (mNil))))) (mNil))))) (mCons (mFz (mLstO (mCons (mC (.str "narrow")) (mCons (mTup (mCons (mC (.int 2)) (mCons (mC (.int 0)) (mCons (mC (.int 1)) (mNil))))) (mNil))))) (mNil)))))))) (mSeq (mSet 1 (mBin addD (mVar 1) (mFz (mLstO (mCons (mFz (mLstO (mCons (mC (.str "long")) (mCons (mTup (mCons (mC (.int 2)) (mCons (mC (.int 0)) (mCons (mC (.int 1)) (mNil))))) (mNil))))) (mCons (mFz (mLstO (mCons (mC (.str "short")) (mCons (mTup (mCons (mC (.int 0)) (mCons (mC (.int 3)) (mCons (mC (.int 0)) (mNil))))) (mNil))))) (mCons (mFz (mLstO (mCons (mC (.str "early")) (mCons (mTup (mCons (mC (.int 2)) (mCons (mC (.int 1)) (mCons (mC (.int 0)) (mNil))))) (mNil))))) (mCons (mFz (mLstO (mCons (mC (.str "late")) (mCons (mTup (mCons (mC (.int 0)) (mCons (mC (.int 2)) (mCons (mC (.int 1)) (mNil))))) (mNil))))) (mNil))))))))) (mSeq (mFor (mIany (mVar 1)) (mGl 2 (mGcons (mGn 2) (mGcons (mGn 3) (mGnil)))) (lb__law_by_hand_1)) (mSeq (mFor (mIany (mFz (mLstO (mCons (mMakeS "Drain" mf_Drain___init__ (mCons (mC (.str "least")) (mCons (mC (.str "narrow")) (mNil)))) (mCons (mMakeS "Drain" mf_Drain___init__ (mCons (mC (.str "least")) (mCons (mC (.str "late")) (mNil)))) (mNil)))))) (mGn 4) (lb__law_by_hand_2)) (mSeq (mSet 4 (mMakeS "Drain" mf_Drain___init__ (mCons (mC (.str "late")) (mNil)))) (mRet (mAndV (mBin eqMD (mCallO "Drain" 2 mf_Drain___call__ (mVar 4) (mCons (mMake "Wallet" 1 mf_Wallet___init__ (mCons (mTup (mNil)) (mNil))) (mCons (mC (.int 0)) (mNil)))) (mTup (mNil))) (mBin eqMD (mCallO "Drain" 2 mf_Drain___call__ (mVar 4) (mCons (mVar 0) (mCons (mC (.int 7)) (mNil)))) (mTup (mCons (mC (.int 2)) (mCons (mC (.int 4)) (mCons (mC (.int 1)) (mNil)))))))))))))
def mf__law_by_hand : List D → M D := mFn 5 mb__law_by_hand
@[reducible] def ce__law_times_1 : ME := mTup (mCons (mBin mulD (mVar 2) (mVar 1)) (mCons (mBin mulD (mVar 3) (mVar 1)) (mNil)))
@[reducible] def mb__law_times : MS := mRet (mFz (mLcO [2, 3] (mIany (mVar 0)) (mGt 2 (mGcons (mGn 2) (mGcons (mGn 3) (mGnil)))) (mYes) (ce__law_times_1)))
def mf__law_times : List D → M D := mFn 4 mb__law_times
@[reducible] def ct__law_right_1 : MT := mB (mBin inD (mBin ixD (mVar 5) (mVar 13)) (mFz (mLstO (mCons (mC (.str "early")) (mCons (mC (.str "late")) (mNil))))))
@[reducible] def lb__law_right_2 : MS := mSeq (mSet 2 (mCall 2 mf__law_some_alike (mCons (mVar 0) (mCons (mCall 1 mf__law_drawn_amounts (mCons (mVar 0) (mNil))) (mNil))))) (mSeq (mSet 3 (mCall 2 mf__law_drawn_names (mCons (mVar 0) (mCons (mCB lenD (mCons (mVar 2) (mNil))) (mNil))))) (mSeq (mAsg (mTup (mCons (mCall 2 mf__law_made_shutet (mCons (mVar 3) (mCons (mVar 2) (mNil)))) (mCons (mCall 2 mf__law_drawn_keys (mCons (mVar 0) (mCons (mBin addD (mC (.int 1)) (mCall 2 mf__law_draw (mCons (mVar 0) (mCons (mC (.int 4)) (mNil))))) (mNil)))) (mNil)))) (mGt 2 (mGcons (mGn 4) (mGcons (mGn 5) (mGnil))))) (mSeq (mSet 6 (mCall 3 mf__law_drawn_bill (mCons (mVar 0) (mCons (mVar 2) (mCons (mBin powD (mC (.int 10)) (mC (.int 40))) (mNil)))))) (mSeq (mSet 7 (mCall 4 mf__law_due_of (mCons (mC (.str "drain")) (mCons (mVar 5) (mCons (mVar 2) (mCons (mVar 6) (mNil))))))) (mSeq (mSet 8 (mCall 2 mf__law_made_rule (mCons (mC (.str "drain")) (mCons (mVar 5) (mNil))))) (mSeq (mIfS (mNot (mB (mCall 4 mf__law_is_told (mCons (mVar 8) (mCons (mVar 4) (mCons (mVar 6) (mCons (mVar 7) (mNil)))))))) (mRet (mC (.bl false))) (mNext)) (mSeq (mSet 9 (mFz (mBorLs [] (mLcO [13] (mIof rng1 (mCons (mCB lenD (mCons (mVar 5) (mNil))) (mNil))) (mGn 13) (ct__law_right_1) (mVar 13))))) (mSeq (mSet 10 (mIf (mB (mBin eqMD (mVar 9) (mFz (mLstO (mNil))))) (mBin addD (mVar 5) (mFz (mLstO (mCons (mC (.str "early")) (mNil))))) (mSl (mVar 5) (mOn) (mOs (mBin addD (mBin ixD (mVar 9) (mC (.int 0))) (mC (.int 1))))))) (mSeq (mIfS (mNot (mB (mCall 4 mf__law_is_told (mCons (mCall 2 mf__law_made_rule (mCons (mC (.str "drain")) (mCons (mVar 10) (mNil)))) (mCons (mVar 4) (mCons (mVar 6) (mCons (mVar 7) (mNil)))))))) (mRet (mC (.bl false))) (mNext)) (mSeq (mSet 11 (mBin addD (mC (.int 1)) (mIf (mB (mBin eqMD (mCall 2 mf__law_draw (mCons (mVar 0) (mCons (mC (.int 2)) (mNil)))) (mC (.int 0)))) (mCall 1 mf__law_drawn_large (mCons (mVar 0) (mNil))) (mCall 2 mf__law_draw (mCons (mVar 0) (mCons (mC (.int 9)) (mNil))))))) (mSeq (mSet 12 (mCall 2 mf__law_made_shutet (mCons (mVar 3) (mCons (mCall 2 mf__law_times (mCons (mVar 2) (mCons (mVar 11) (mNil)))) (mNil))))) (mSeq (mIfS (mNot (mB (mCall 4 mf__law_is_told (mCons (mVar 8) (mCons (mVar 12) (mCons (mBin mulD (mVar 6) (mVar 11)) (mCons (mFz (mLcO [14] (mIany (mVar 7)) (mGn 14) (mYes) (mBin mulD (mVar 14) (mVar 11)))) (mNil)))))))) (mRet (mC (.bl false))) (mNext)) (mIfS (mB (mBin neSD (mStrO "Wallet" mf_Wallet___str__ (mVar 4)) (mCall 2 mf__law_shutet_text (mCons (mVar 3) (mCons (mVar 2) (mNil)))))) (mRet (mC (.bl false))) (mNext))))))))))))))
@[reducible] def mb__law_right : MS := mSeq (mFor (mIof rng1 (mCons (mC (.int 3)) (mNil))) (mGn 1) (lb__law_right_2)) (mRet (mC (.bl true)))
def mf__law_right : List D → M D := mFn 15 mb__law_right
@[reducible] def ce_law_1 : ME := mWith mf__law_right (mCallL 1 mfL__law_made_pool (mCons (mCall 2 mf__law_cell_at (mCons (mVar 0) (mCons (mVar 1) (mNil)))) (mNil)))
@[reducible] def mb_law : MS := mSeq (mIfS (mNot (mB (mCall 0 mf__law_by_hand mNil))) (mRet (mC (.bl false))) (mNext)) (mRet (mCB allD (mCons (mFz (mLcO [1] (mIof rng1 (mCons (mCB maxD (mCons (mC (.int 2)) (mCons (mCB minD (mCons (mCB lenD (mCons (mVar 0) (mNil))) (mCons (mC (.int 5)) (mNil)))) (mNil)))) (mNil))) (mGn 1) (mYes) (ce_law_1))) (mNil))))
def mf_law : List D → M D := mFn 2 mb_law
end
end G64

set_option maxHeartbeats 4000000
namespace G64
open PySem PySem.Spec PyProof.Rows L2 Mi He Sh S4
section
variable [TB : Tabl]
variable {P : Program} {w : World} {K : PySem.W.Frag} {mg : Str → Option Value} {base : Heap}

theorem bi_number_of {K : PySem.W.Frag} {mg : Str → Option Value} (C : HF fa fn K mg) : Binds K (fdOf K (Pl.ad K (.glob "number_of"))) ["text"] [] := (C.fun_ 0 (d := d_number_of) rfl).bindsN fun _ _ _ _ _ _ us hl => match us, hl with | [_], _ => rfl
theorem ok_number_of [PF : PSup P supF] (C : HF fa fn K mg) : FO cs P w K mg base 1 (.glob "number_of") ["text"] 1 mf_number_of := by
  obtain ⟨_, k_DIGITS⟩ := C.str 3 rfl
  have f_all := C.free 4 rfl
  have f_int := C.free 5 rfl
  have sc := sc_number_of
  refine fn_mir (C.fun_ 0 (d := d_number_of) rfl) sc_number_of fun cdv A outer s H E p F0 hr => ?_
  exact dBcons (dIfS (PW.pt (dOrT (dTcmp (op_eqD hr.units) m_eq (dVar 0) (dStr) (nomark _)) (dOr1 (dNotT (dTst (dCallB m_all (cr_all rfl) rfl f_all bb_all (dCons (dFz (dLcO (own := [("sign", 1)]) rfl sc.nd (dIany (dVar 0)) (blkOk_by (by kernel_rfl)) (fun _ _ _ _ _ => dGn (i := 1) sc.nd rfl (by first | exact Or.inl rfl | exact Or.inr rfl)) (fun _ _ _ _ _ => dYes) (fun _ _ _ _ _ => dCmp op_inA m_in (dVar 1) (dGS rfl k_DIGITS) rfl))) (dNil)))))))) (dBone (dRet (dNon))) (dBnil)) (dBone (dRet (dIf (PW.pt (dOrT (dTcmp (op_eqD hr.units) m_eq (dVar 0) (dStr) (nomark _)) (dOr1 (dTcmp (op_neD hr.units) m_ne (dIx ix_seq m_ix (dVar 0) (dInt)) (dStr) (nomark _))))) (dCallT m_intS call_int_str rfl f_int bb_int (dCons (dVar 0) (dNil))) (dNon))))
theorem bi_is_integer {K : PySem.W.Frag} {mg : Str → Option Value} (C : HF fa fn K mg) : Binds K (fdOf K (Pl.ad K (.glob "is_integer"))) ["value"] [] := (C.fun_ 1 (d := d_is_integer) rfl).bindsN fun _ _ _ _ _ _ us hl => match us, hl with | [_], _ => rfl
theorem ok_is_integer [PF : PSup P supF] (C : HF fa fn K mg) : FO cs P w K mg base 1 (.glob "is_integer") ["value"] 1 mf_is_integer := by
  have isi := isi_ok (C.fact 0 rfl)
  have f_int := C.free 5 rfl
  have f_isinstance := C.free 2 rfl
  have f_bool := C.free 9 rfl
  have sc := sc_is_integer
  refine fn_mir (C.fun_ 1 (d := d_is_integer) rfl) sc_is_integer fun cdv A outer s H E p F0 hr => ?_
  exact dBone (dRet (dAndV (dCallB (m_isi isi) call_isi rfl f_isinstance bb_isinstance (dCons (dVar 0) (dCons (dTy rfl f_int bb_int) (dNil)))) (dOneV (dNotV (dCallB (m_isi isi) call_isi rfl f_isinstance bb_isinstance (dCons (dVar 0) (dCons (dTy rfl f_bool bb_bool) (dNil))))))))
theorem bi_is_natural {K : PySem.W.Frag} {mg : Str → Option Value} (C : HF fa fn K mg) : Binds K (fdOf K (Pl.ad K (.glob "is_natural"))) ["value"] [] := (C.fun_ 2 (d := d_is_natural) rfl).bindsN fun _ _ _ _ _ _ us hl => match us, hl with | [_], _ => rfl
theorem ok_is_natural [PF : PSup P supF] (C : HF fa fn K mg) : FO cs P w K mg base 2 (.glob "is_natural") ["value"] 1 mf_is_natural := by
  have G_is_integer := ok_is_integer (P := P) (w := w) (base := base) C
  have F_is_integer := C.fun_ 1 (d := d_is_integer) rfl
  have B_is_integer := bi_is_integer C
  have g_is_integer := C.glo 10 rfl
  have sc := sc_is_natural
  refine fn_mir (C.fun_ 2 (d := d_is_natural) rfl) sc_is_natural fun cdv A outer s H E p F0 hr => ?_
  exact dBone (dRet (dAndV (dCall G_is_integer (hr.mono (by decide)) rfl g_is_integer F_is_integer.kp B_is_integer (dCons (dVar 0) (dNil))) (dOneV (dCmp op_ge m_ge (dVar 0) (dInt) (nomark _)))))
theorem bi_Card___init__ {K : PySem.W.Frag} {mg : Str → Option Value} (C : HF fa fn K mg) : Binds K (fdOf K (Pl.ad K (.meth "Card" "__init__"))) ["self", "balance", "limit"] [] := (C.fun_ 3 (d := d_Card___init__) rfl).bindsN fun _ _ _ _ _ _ us hl => match us, hl with | [_, _, _], _ => rfl
theorem ok_Card___init__ [PF : PSup P supF] (C : HF fa fn K mg) : FnOk P w K mg base CX0 3 (Pl.ad K (.meth "Card" "__init__")) (fdOf K (Pl.ad K (.meth "Card" "__init__"))) ["self", "balance", "limit"] (spI (WW cs K) "Card" 2 mf_Card___init__) := by
  have G_is_natural := ok_is_natural (P := P) (w := w) (base := base) C
  have F_is_natural := C.fun_ 2 (d := d_is_natural) rfl
  have B_is_natural := bi_is_natural C
  have g_is_natural := C.glo 11 rfl
  obtain ⟨_, k_MOST_DAYS⟩ := C.int 8 rfl
  have n_Card_held := C.noat 12 rfl
  have c_Card := C.cls 13 rfl
  have n_Card_daily := C.noat 14 rfl
  have sc := sc_Card___init__
  refine fn_init (ck := "Card") (nm := "self") (N := ["balance", "limit"]) (n := 2) (C.fun_ 3 (d := d_Card___init__) rfl) sc_Card___init__ rfl fun cdv A outer s H E p F0 H0 sf hr => ?_
  exact dBcons (dIfS (dNotT (dTst (dCall G_is_natural (hr.mono (by decide)) rfl g_is_natural F_is_natural.kp B_is_natural (dCons (dVar 1) (dNil))))) (dBone (dNever)) (dBnil)) (dBcons (dIfS (PW.pt (dOrT (dNotT (dTst (dCall G_is_natural (hr.mono (by decide)) rfl g_is_natural F_is_natural.kp B_is_natural (dCons (dVar 2) (dNil))))) (dOr1 (dTcmp (op_eqD hr.units) m_eq (dVar 2) (dInt) (nomark _))))) (dBone (dNever)) (dBnil)) (dBcons (dIfS (dTcmp op_gt m_gt (dVar 1) (dBin op_mulA m_mul (dGI rfl k_MOST_DAYS) (dVar 2)) (nomark _)) (dBone (dNever)) (dBnil)) (dBcons (dSelfSet (ck := "Card") 0 c_Card n_Card_held (dVar 1)) (dBone (dSelfSet (ck := "Card") 0 c_Card n_Card_daily (dVar 2))))))
theorem bi_card_of {K : PySem.W.Frag} {mg : Str → Option Value} (C : HF fa fn K mg) : Binds K (fdOf K (Pl.ad K (.glob "card_of"))) ["text"] [] := (C.fun_ 4 (d := d_card_of) rfl).bindsN fun _ _ _ _ _ _ us hl => match us, hl with | [_], _ => rfl
theorem ok_card_of [PF : PSup P supF] (C : HF fa fn K mg) : FO cs P w K mg base 5 (.glob "card_of") ["text"] 1 mf_card_of := by
  have isi := isi_ok (C.fact 0 rfl)
  have f_str := C.free 1 rfl
  have f_isinstance := C.free 2 rfl
  have G_number_of := ok_number_of (P := P) (w := w) (base := base) C
  have F_number_of := C.fun_ 0 (d := d_number_of) rfl
  have B_number_of := bi_number_of C
  have g_number_of := C.glo 6 rfl
  have f_len := C.free 7 rfl
  obtain ⟨_, k_MOST_DAYS⟩ := C.int 8 rfl
  have G_Card___init__ := ok_Card___init__ (P := P) (w := w) (base := base) C
  have F_Card___init__ := C.fun_ 3 (d := d_Card___init__) rfl
  have B_Card___init__ := bi_Card___init__ C
  have m_Card := C.mkr 15 rfl
  have g_Card := C.glo 16 rfl
  have sc := sc_card_of
  refine fn_mir (C.fun_ 4 (d := d_card_of) rfl) sc_card_of fun cdv A outer s H E p F0 hr => ?_
  exact dBcons (dIfS (dNotT (dTst (dCallB (m_isi isi) call_isi rfl f_isinstance bb_isinstance (dCons (dVar 0) (dCons (dTy rfl f_str bb_str) (dNil)))))) (dBone (dRet (dNon))) (dBnil)) (dBcons (dLcSet 1 [] (own := [("word", 4)]) rfl sc.nd rfl rfl (sw_true rfl rfl rfl (by kernel_rfl)) (dIany (dSplit (dVar 0) (dStr))) (blkOk_by (by kernel_rfl)) (fun _ _ _ _ _ => dGn (i := 4) sc.nd rfl (by first | exact Or.inl rfl | exact Or.inr rfl)) (fun _ _ _ _ _ => dYes) (fun _ _ _ _ _ => dCall G_number_of (hr.mono (by decide)) rfl g_number_of F_number_of.kp B_number_of (dCons (dVar 4) (dNil)))) (dBcons (dIfS (PW.pt (dOrT (dTcmp (op_neD hr.units) m_ne (dCallB m_len call_lenA rfl f_len bb_len (dCons (dVar 1) (dNil))) (dInt) (nomark _)) (dOrT (dTcmp op_isA m_is (dIx ix_seq m_ix (dVar 1) (dInt)) (dNon) (nomark _)) (dOr1 (dTcmp op_isA m_is (dIx ix_seq m_ix (dVar 1) (dInt)) (dNon) (nomark _)))))) (dBone (dRet (dNon))) (dBnil)) (dBcons (dAsg (dVar 1) (dGl (n := 2) rfl (dGcons (dGn (i := 2) sc.nd rfl (by first | exact Or.inl rfl | exact Or.inr rfl)) (dGcons (dGn (i := 3) sc.nd rfl (by first | exact Or.inl rfl | exact Or.inr rfl)) (dGnil))))) (dBone (dRet (dIf (PW.pt (dAndT (dTcmp op_gt m_gt (dVar 3) (dInt) (nomark _)) (dAnd1 (dTcmp op_le m_le (dVar 2) (dBin op_mulA m_mul (dGI rfl k_MOST_DAYS) (dVar 3)) (nomark _))))) (dMake (ck := "Card") hc_Card m_Card G_Card___init__ (hr.mono (by decide)) rfl g_Card B_Card___init__ (dCons (dVar 2) (dCons (dVar 3) (dNil)))) (dNon)))))))
theorem bi_pair_of {K : PySem.W.Frag} {mg : Str → Option Value} (C : HF fa fn K mg) : Binds K (fdOf K (Pl.ad K (.glob "pair_of"))) ["text"] [] := (C.fun_ 5 (d := d_pair_of) rfl).bindsN fun _ _ _ _ _ _ us hl => match us, hl with | [_], _ => rfl
theorem ok_pair_of [PF : PSup P supF] (C : HF fa fn K mg) : FO cs P w K mg base 6 (.glob "pair_of") ["text"] 1 mf_pair_of := by
  have G_card_of := ok_card_of (P := P) (w := w) (base := base) C
  have F_card_of := C.fun_ 4 (d := d_card_of) rfl
  have B_card_of := bi_card_of C
  have g_card_of := C.glo 17 rfl
  have sc := sc_pair_of
  refine fn_mir (C.fun_ 5 (d := d_pair_of) rfl) sc_pair_of fun cdv A outer s H E p F0 hr => ?_
  exact dBcons (dAsg (dPart (dVar 0) (dStr)) (dGt (n := 3) rfl (dGcons (dGn (i := 1) sc.nd rfl (by first | exact Or.inl rfl | exact Or.inr rfl)) (dGcons (dGn (i := 2) sc.nd rfl (by first | exact Or.inl rfl | exact Or.inr rfl)) (dGcons (dGn (i := 3) sc.nd rfl (by first | exact Or.inl rfl | exact Or.inr rfl)) (dGnil)))))) (dBone (dRet (dTup (dCons (dVar 1) (dCons (dCall G_card_of (hr.mono (by decide)) rfl g_card_of F_card_of.kp B_card_of (dCons (dVar 3) (dNil))) (dNil))))))
theorem bi_is_name {K : PySem.W.Frag} {mg : Str → Option Value} (C : HF fa fn K mg) : Binds K (fdOf K (Pl.ad K (.glob "is_name"))) ["value"] [] := (C.fun_ 6 (d := d_is_name) rfl).bindsN fun _ _ _ _ _ _ us hl => match us, hl with | [_], _ => rfl
theorem ok_is_name [PF : PSup P supF] (C : HF fa fn K mg) : FO cs P w K mg base 1 (.glob "is_name") ["value"] 1 mf_is_name := by
  have isi := isi_ok (C.fact 0 rfl)
  have f_str := C.free 1 rfl
  have f_isinstance := C.free 2 rfl
  have f_len := C.free 7 rfl
  obtain ⟨_, k_LONGEST_NAME⟩ := C.int 22 rfl
  obtain ⟨_, k_LETTERS⟩ := C.str 23 rfl
  obtain ⟨_, k_DIGITS⟩ := C.str 3 rfl
  have f_all := C.free 4 rfl
  have sc := sc_is_name
  refine fn_mir (C.fun_ 6 (d := d_is_name) rfl) sc_is_name fun cdv A outer s H E p F0 hr => ?_
  exact dBcons (dIfS (PW.pt (dOrT (dNotT (dTst (dCallB (m_isi isi) call_isi rfl f_isinstance bb_isinstance (dCons (dVar 0) (dCons (dTy rfl f_str bb_str) (dNil)))))) (dOrT (dNotT (dTchain op_le m_le op_le m_le (dInt) (dCallB m_len call_lenA rfl f_len bb_len (dCons (dVar 0) (dNil))) (dGI rfl k_LONGEST_NAME))) (dOr1 (dTcmp op_ninA m_nin (dIx ix_seq m_ix (dVar 0) (dInt)) (dGS rfl k_LETTERS) rfl))))) (dBone (dRet (dBl))) (dBnil)) (dBone (dRet (dCallB m_all (cr_all rfl) rfl f_all bb_all (dCons (dFz (dLcO (own := [("sign", 1)]) rfl sc.nd (dIany (dVar 0)) (blkOk_by (by kernel_rfl)) (fun _ _ _ _ _ => dGn (i := 1) sc.nd rfl (by first | exact Or.inl rfl | exact Or.inr rfl)) (fun _ _ _ _ _ => dYes) (fun _ _ _ _ _ => dOrV (dCmp op_inA m_in (dVar 1) (dGS rfl k_LETTERS) rfl) (dOneV (dCmp op_inA m_in (dVar 1) (dGS rfl k_DIGITS) rfl))))) (dNil)))))
theorem bi_wrong_pair {K : PySem.W.Frag} {mg : Str → Option Value} (C : HF fa fn K mg) : Binds K (fdOf K (Pl.ad K (.glob "wrong_pair"))) ["pairs"] [] := (C.fun_ 7 (d := d_wrong_pair) rfl).bindsN fun _ _ _ _ _ _ us hl => match us, hl with | [_], _ => rfl
theorem ok_wrong_pair [PF : PSup P supF] (C : HF fa fn K mg) : FO cs P w K mg base 2 (.glob "wrong_pair") ["pairs"] 1 mf_wrong_pair := by
  have f_enumerate := C.free 20 rfl
  have isi := isi_ok (C.fact 0 rfl)
  have f_tuple := C.free 19 rfl
  have f_isinstance := C.free 2 rfl
  have f_len := C.free 7 rfl
  obtain ⟨_, k_MOST_CARDS⟩ := C.int 21 rfl
  have G_is_name := ok_is_name (P := P) (w := w) (base := base) C
  have F_is_name := C.fun_ 6 (d := d_is_name) rfl
  have B_is_name := bi_is_name C
  have g_is_name := C.glo 24 rfl
  have g_Card := C.glo 16 rfl
  have sc := sc_wrong_pair
  refine fn_mir (C.fun_ 7 (d := d_wrong_pair) rfl) sc_wrong_pair fun cdv A outer s H E p F0 hr => ?_
  exact dBcons (dSetO (i := 1) sc.nd rfl (by first | exact Or.inl rfl | exact Or.inr rfl) (dLstO (dNil))) (dBcons (dFor PassesOwn.never rfl (dIenumA rfl f_enumerate (dCons (dVar 0) (dNil))) (dGt (n := 2) rfl (dGcons (dGn (i := 2) sc.nd rfl (by first | exact Or.inl rfl | exact Or.inr rfl)) (dGcons (dGn (i := 3) sc.nd rfl (by first | exact Or.inl rfl | exact Or.inr rfl)) (dGnil)))) (dBcons (dIfS (PW.pt (dOrT (dNotT (dTst (dCallB (m_isi isi) call_isi rfl f_isinstance bb_isinstance (dCons (dVar 3) (dCons (dTy rfl f_tuple bb_tuple) (dNil)))))) (dOrT (dTcmp (op_neD hr.units) m_ne (dCallB m_len call_lenA rfl f_len bb_len (dCons (dVar 3) (dNil))) (dInt) (nomark _)) (dOr1 (dTcmp (op_eqD hr.units) m_eq (dVar 2) (dGI rfl k_MOST_CARDS) (nomark _)))))) (dBone (dRet (dVar 2))) (dBnil)) (dBcons (dAsg (dVar 3) (dGt (n := 2) rfl (dGcons (dGn (i := 4) sc.nd rfl (by first | exact Or.inl rfl | exact Or.inr rfl)) (dGcons (dGn (i := 5) sc.nd rfl (by first | exact Or.inl rfl | exact Or.inr rfl)) (dGnil))))) (dBcons (dIfS (dBorT 1 (PW.pt (dOrT (dNotT (dTst (dCall G_is_name (hr.mono (by decide)) rfl g_is_name F_is_name.kp B_is_name (dCons (dVar 4) (dNil))))) (dOrT (dNotT (dTst (dCallB (m_isi isi) call_isi rfl f_isinstance bb_isinstance (dCons (dVar 5) (dCons (dGC (k := "Card") hc_Card rfl g_Card) (dNil)))))) (dOr1 (dTcmp op_inA m_in (dVar 4) (dVar 1) rfl)))))) (dBone (dRet (dVar 2))) (dBnil)) (dBone (dApp 1 (dVar 4))))))) (dBone (dRet (dNon))))
theorem bi_Wallet___init__ {K : PySem.W.Frag} {mg : Str → Option Value} (C : HF fa fn K mg) : Binds K (fdOf K (Pl.ad K (.meth "Wallet" "__init__"))) ["self", "cards"] [] := (C.fun_ 8 (d := d_Wallet___init__) rfl).bindsN fun _ _ _ _ _ _ us hl => match us, hl with | [_, _], _ => rfl
theorem ok_Wallet___init__ [PF : PSup P supF] (C : HF fa fn K mg) : FnOk P w K mg base CX0 3 (Pl.ad K (.meth "Wallet" "__init__")) (fdOf K (Pl.ad K (.meth "Wallet" "__init__"))) ["self", "cards"] (spI (WW cs K) "Wallet" 1 mf_Wallet___init__) := by
  have isi := isi_ok (C.fact 0 rfl)
  have f_tuple := C.free 19 rfl
  have f_isinstance := C.free 2 rfl
  have G_wrong_pair := ok_wrong_pair (P := P) (w := w) (base := base) C
  have F_wrong_pair := C.fun_ 7 (d := d_wrong_pair) rfl
  have B_wrong_pair := bi_wrong_pair C
  have g_wrong_pair := C.glo 25 rfl
  have n_Wallet_pairs := C.noat 26 rfl
  have c_Wallet := C.cls 27 rfl
  have sc := sc_Wallet___init__
  refine fn_init (ck := "Wallet") (nm := "self") (N := ["cards", "wrong"]) (n := 1) (C.fun_ 8 (d := d_Wallet___init__) rfl) sc_Wallet___init__ rfl fun cdv A outer s H E p F0 H0 sf hr => ?_
  exact dBcons (dIfS (dNotT (dTst (dCallB (m_isi isi) call_isi rfl f_isinstance bb_isinstance (dCons (dVar 1) (dCons (dTy rfl f_tuple bb_tuple) (dNil)))))) (dBone (dNever)) (dBnil)) (dBcons (dSet (i := 2) sc.nd rfl (by first | exact Or.inl rfl | exact Or.inr rfl) (dCall G_wrong_pair (hr.mono (by decide)) rfl g_wrong_pair F_wrong_pair.kp B_wrong_pair (dCons (dVar 1) (dNil)))) (dBcons (dIfS (dTcmp op_isntA m_isnt (dVar 2) (dNon) (nomark _)) (dBone (dNever)) (dBnil)) (dBone (dSelfSet (ck := "Wallet") 0 c_Wallet n_Wallet_pairs (dVar 1)))))
theorem bi_wallet_of {K : PySem.W.Frag} {mg : Str → Option Value} (C : HF fa fn K mg) : Binds K (fdOf K (Pl.ad K (.glob "wallet_of"))) ["text"] [] := (C.fun_ 9 (d := d_wallet_of) rfl).bindsN fun _ _ _ _ _ _ us hl => match us, hl with | [_], _ => rfl
theorem ok_wallet_of [PF : PSup P supF] (C : HF fa fn K mg) : FO cs P w K mg base 7 (.glob "wallet_of") ["text"] 1 mf_wallet_of := by
  have isi := isi_ok (C.fact 0 rfl)
  have f_str := C.free 1 rfl
  have f_isinstance := C.free 2 rfl
  have G_pair_of := ok_pair_of (P := P) (w := w) (base := base) C
  have F_pair_of := C.fun_ 5 (d := d_pair_of) rfl
  have B_pair_of := bi_pair_of C
  have g_pair_of := C.glo 18 rfl
  have f_tuple := C.free 19 rfl
  have G_wrong_pair := ok_wrong_pair (P := P) (w := w) (base := base) C
  have F_wrong_pair := C.fun_ 7 (d := d_wrong_pair) rfl
  have B_wrong_pair := bi_wrong_pair C
  have g_wrong_pair := C.glo 25 rfl
  have G_Wallet___init__ := ok_Wallet___init__ (P := P) (w := w) (base := base) C
  have F_Wallet___init__ := C.fun_ 8 (d := d_Wallet___init__) rfl
  have B_Wallet___init__ := bi_Wallet___init__ C
  have m_Wallet := C.mkr 28 rfl
  have g_Wallet := C.glo 29 rfl
  have sc := sc_wallet_of
  refine fn_mir (C.fun_ 9 (d := d_wallet_of) rfl) sc_wallet_of fun cdv A outer s H E p F0 hr => ?_
  exact dBcons (dIfS (dNotT (dTst (dCallB (m_isi isi) call_isi rfl f_isinstance bb_isinstance (dCons (dVar 0) (dCons (dTy rfl f_str bb_str) (dNil)))))) (dBone (dRet (dNon))) (dBnil)) (dBcons (dSet (i := 1) sc.nd rfl (by first | exact Or.inl rfl | exact Or.inr rfl) (dIf (dTcmp (op_neD hr.units) m_ne (dVar 0) (dStr) (nomark _)) (dCallT m_tup call_tuple_of rfl f_tuple bb_tuple (dCons (dFz (dLcO (own := [("piece", 2)]) rfl sc.nd (dIany (dSplit (dVar 0) (dStr))) (blkOk_by (by kernel_rfl)) (fun _ _ _ _ _ => dGn (i := 2) sc.nd rfl (by first | exact Or.inl rfl | exact Or.inr rfl)) (fun _ _ _ _ _ => dYes) (fun _ _ _ _ _ => dCall G_pair_of (hr.mono (by decide)) rfl g_pair_of F_pair_of.kp B_pair_of (dCons (dVar 2) (dNil))))) (dNil))) (dTup (dNil)))) (dBone (dRet (dIf (dTcmp op_isA m_is (dCall G_wrong_pair (hr.mono (by decide)) rfl g_wrong_pair F_wrong_pair.kp B_wrong_pair (dCons (dVar 1) (dNil))) (dNon) (nomark _)) (dMake (ck := "Wallet") hc_Wallet m_Wallet G_Wallet___init__ (hr.mono (by decide)) rfl g_Wallet B_Wallet___init__ (dCons (dVar 1) (dNil))) (dNon)))))
theorem bi_Wallet_read {K : PySem.W.Frag} {mg : Str → Option Value} (C : HF fa fn K mg) : Binds K (fdOf K (Pl.ad K (.clsm "Wallet" "read"))) ["cls", "text"] [] := (C.fun_ 10 (d := d_Wallet_read) rfl).bindsN fun _ _ _ _ _ _ us hl => match us, hl with | [_, _], _ => rfl
theorem ok_Wallet_read [PF : PSup P supF] (C : HF fa fn K mg) : FO cs P w K mg base 8 (.clsm "Wallet" "read") ["cls", "text"] 2 mf_Wallet_read := by
  have G_wallet_of := ok_wallet_of (P := P) (w := w) (base := base) C
  have F_wallet_of := C.fun_ 9 (d := d_wallet_of) rfl
  have B_wallet_of := bi_wallet_of C
  have g_wallet_of := C.glo 30 rfl
  have sc := sc_Wallet_read
  refine fn_mir (C.fun_ 10 (d := d_Wallet_read) rfl) sc_Wallet_read fun cdv A outer s H E p F0 hr => ?_
  exact dBcons (dSet (i := 2) sc.nd rfl (by first | exact Or.inl rfl | exact Or.inr rfl) (dCall G_wallet_of (hr.mono (by decide)) rfl g_wallet_of F_wallet_of.kp B_wallet_of (dCons (dVar 1) (dNil)))) (dBcons (dIfS (dTcmp op_isA m_is (dVar 2) (dNon) (nomark _)) (dBone (dNever)) (dBnil)) (dBone (dRet (dVar 2))))
theorem bi_check_wallet {K : PySem.W.Frag} {mg : Str → Option Value} (C : HF fa fn K mg) : Binds K (fdOf K (Pl.ad K (.glob "check_wallet"))) ["value"] [] := (C.fun_ 11 (d := d_check_wallet) rfl).bindsN fun _ _ _ _ _ _ us hl => match us, hl with | [_], _ => rfl
theorem ok_check_wallet [PF : PSup P supF] (C : HF fa fn K mg) : FO cs P w K mg base 1 (.glob "check_wallet") ["value"] 1 mf_check_wallet := by
  have isi := isi_ok (C.fact 0 rfl)
  have g_Wallet := C.glo 29 rfl
  have f_isinstance := C.free 2 rfl
  have sc := sc_check_wallet
  refine fn_mir (C.fun_ 11 (d := d_check_wallet) rfl) sc_check_wallet fun cdv A outer s H E p F0 hr => ?_
  exact dBone (dIfS (dNotT (dTst (dCallB (m_isi isi) call_isi rfl f_isinstance bb_isinstance (dCons (dVar 0) (dCons (dGC (k := "Wallet") hc_Wallet rfl g_Wallet) (dNil)))))) (dBone (dNever)) (dBnil))
theorem bi_check_bill {K : PySem.W.Frag} {mg : Str → Option Value} (C : HF fa fn K mg) : Binds K (fdOf K (Pl.ad K (.glob "check_bill"))) ["value"] [] := (C.fun_ 12 (d := d_check_bill) rfl).bindsN fun _ _ _ _ _ _ us hl => match us, hl with | [_], _ => rfl
theorem ok_check_bill [PF : PSup P supF] (C : HF fa fn K mg) : FO cs P w K mg base 3 (.glob "check_bill") ["value"] 1 mf_check_bill := by
  have G_is_natural := ok_is_natural (P := P) (w := w) (base := base) C
  have F_is_natural := C.fun_ 2 (d := d_is_natural) rfl
  have B_is_natural := bi_is_natural C
  have g_is_natural := C.glo 11 rfl
  have sc := sc_check_bill
  refine fn_mir (C.fun_ 12 (d := d_check_bill) rfl) sc_check_bill fun cdv A outer s H E p F0 hr => ?_
  exact dBone (dIfS (dNotT (dTst (dCall G_is_natural (hr.mono (by decide)) rfl g_is_natural F_is_natural.kp B_is_natural (dCons (dVar 0) (dNil))))) (dBone (dNever)) (dBnil))
theorem bi_Form_sum_of {K : PySem.W.Frag} {mg : Str → Option Value} (C : HF fa fn K mg) : Binds K (fdOf K (Pl.ad K (.meth "Form" "sum_of"))) ["self", "days"] [] := (C.fun_ 13 (d := d_Form_sum_of) rfl).bindsN fun _ _ _ _ _ _ us hl => match us, hl with | [_, _], _ => rfl
theorem ok_Form_sum_of [PF : PSup P supF] (C : HF fa fn K mg) : FO cs P w K mg base 3 (.meth "Form" "sum_of") ["self", "days"] 2 mf_Form_sum_of := by
  have G_is_natural := ok_is_natural (P := P) (w := w) (base := base) C
  have F_is_natural := C.fun_ 2 (d := d_is_natural) rfl
  have B_is_natural := bi_is_natural C
  have g_is_natural := C.glo 11 rfl
  have n_Form_numbers := C.noat 34 rfl
  have c_Form := C.cls 35 rfl
  have f_sum := C.free 36 rfl
  have sc := sc_Form_sum_of
  refine fn_mir (C.fun_ 13 (d := d_Form_sum_of) rfl) sc_Form_sum_of fun cdv A outer s H E p F0 hr => ?_
  exact dBcons (dIfS (dNotT (dTst (dCall G_is_natural (hr.mono (by decide)) rfl g_is_natural F_is_natural.kp B_is_natural (dCons (dVar 1) (dNil))))) (dBone (dNever)) (dBnil)) (dBone (dRet (dCallB m_sum (cr_sumA rfl) rfl f_sum bb_sum (dCons (dSl (dFld (ck := "Form") (ks := ["numbers"]) 0 rfl (by decide) c_Form n_Form_numbers (dVar 0)) (dOn) (dOs (dVar 1))) (dNil)))))
theorem bi_wrong_number {K : PySem.W.Frag} {mg : Str → Option Value} (C : HF fa fn K mg) : Binds K (fdOf K (Pl.ad K (.glob "wrong_number"))) ["row"] [] := (C.fun_ 14 (d := d_wrong_number) rfl).bindsN fun _ _ _ _ _ _ us hl => match us, hl with | [_], _ => rfl
theorem ok_wrong_number [PF : PSup P supF] (C : HF fa fn K mg) : FO cs P w K mg base 3 (.glob "wrong_number") ["row"] 1 mf_wrong_number := by
  have f_enumerate := C.free 20 rfl
  have G_is_natural := ok_is_natural (P := P) (w := w) (base := base) C
  have F_is_natural := C.fun_ 2 (d := d_is_natural) rfl
  have B_is_natural := bi_is_natural C
  have g_is_natural := C.glo 11 rfl
  obtain ⟨_, k_MOST_DAYS⟩ := C.int 8 rfl
  have sc := sc_wrong_number
  refine fn_mir (C.fun_ 14 (d := d_wrong_number) rfl) sc_wrong_number fun cdv A outer s H E p F0 hr => ?_
  exact dBcons (dFor PassesOwn.never rfl (dIenumA rfl f_enumerate (dCons (dVar 0) (dNil))) (dGt (n := 2) rfl (dGcons (dGn (i := 1) sc.nd rfl (by first | exact Or.inl rfl | exact Or.inr rfl)) (dGcons (dGn (i := 2) sc.nd rfl (by first | exact Or.inl rfl | exact Or.inr rfl)) (dGnil)))) (dBcons (dIfS (PW.pt (dOrT (dNotT (dTst (dCall G_is_natural (hr.mono (by decide)) rfl g_is_natural F_is_natural.kp B_is_natural (dCons (dVar 2) (dNil))))) (dOrT (dTcmp (op_eqD hr.units) m_eq (dVar 2) (dInt) (nomark _)) (dOr1 (dTcmp (op_eqD hr.units) m_eq (dVar 1) (dGI rfl k_MOST_DAYS) (nomark _)))))) (dBone (dRet (dVar 1))) (dBnil)) (dBone (dIfS (PW.pt (dAndT (dTcmp op_gt m_gt (dVar 1) (dInt) (nomark _)) (dAnd1 (dTcmp op_gt m_gt (dVar 2) (dIx ix_seq m_ix (dVar 0) (dBin op_sub m_sub (dVar 1) (dInt))) (nomark _))))) (dBone (dRet (dVar 1))) (dBnil))))) (dBone (dRet (dNon)))
theorem bi_Form___init__ {K : PySem.W.Frag} {mg : Str → Option Value} (C : HF fa fn K mg) : Binds K (fdOf K (Pl.ad K (.meth "Form" "__init__"))) ["self", "row"] [] := (C.fun_ 15 (d := d_Form___init__) rfl).bindsN fun _ _ _ _ _ _ us hl => match us, hl with | [_, _], _ => rfl
theorem ok_Form___init__ [PF : PSup P supF] (C : HF fa fn K mg) : FnOk P w K mg base CX0 4 (Pl.ad K (.meth "Form" "__init__")) (fdOf K (Pl.ad K (.meth "Form" "__init__"))) ["self", "row"] (spI (WW cs K) "Form" 1 mf_Form___init__) := by
  have isi := isi_ok (C.fact 0 rfl)
  have f_tuple := C.free 19 rfl
  have f_isinstance := C.free 2 rfl
  have G_wrong_number := ok_wrong_number (P := P) (w := w) (base := base) C
  have F_wrong_number := C.fun_ 14 (d := d_wrong_number) rfl
  have B_wrong_number := bi_wrong_number C
  have g_wrong_number := C.glo 38 rfl
  have n_Form_numbers := C.noat 34 rfl
  have c_Form := C.cls 35 rfl
  have sc := sc_Form___init__
  refine fn_init (ck := "Form") (nm := "self") (N := ["row", "wrong"]) (n := 1) (C.fun_ 15 (d := d_Form___init__) rfl) sc_Form___init__ rfl fun cdv A outer s H E p F0 H0 sf hr => ?_
  exact dBcons (dIfS (dNotT (dTst (dCallB (m_isi isi) call_isi rfl f_isinstance bb_isinstance (dCons (dVar 1) (dCons (dTy rfl f_tuple bb_tuple) (dNil)))))) (dBone (dNever)) (dBnil)) (dBcons (dSet (i := 2) sc.nd rfl (by first | exact Or.inl rfl | exact Or.inr rfl) (dCall G_wrong_number (hr.mono (by decide)) rfl g_wrong_number F_wrong_number.kp B_wrong_number (dCons (dVar 1) (dNil)))) (dBcons (dIfS (dTcmp op_isntA m_isnt (dVar 2) (dNon) (nomark _)) (dBone (dNever)) (dBnil)) (dBone (dSelfSet (ck := "Form") 0 c_Form n_Form_numbers (dVar 1)))))
theorem bi_worth {K : PySem.W.Frag} {mg : Str → Option Value} (C : HF fa fn K mg) : Binds K (fdOf K (Pl.ad K (.glob "worth"))) ["balance", "limit", "days"] [] := (C.fun_ 16 (d := d_worth) rfl).bindsN fun _ _ _ _ _ _ us hl => match us, hl with | [_, _, _], _ => rfl
theorem ok_worth [PF : PSup P supF] (C : HF fa fn K mg) : FO cs P w K mg base 1 (.glob "worth") ["balance", "limit", "days"] 3 mf_worth := by
  have f_min := C.free 40 rfl
  have sc := sc_worth
  refine fn_mir (C.fun_ 16 (d := d_worth) rfl) sc_worth fun cdv A outer s H E p F0 hr => ?_
  exact dBone (dRet (dCallB m_min (cr_minA rfl) rfl f_min bb_min (dCons (dVar 0) (dCons (dBin op_mulA m_mul (dVar 2) (dVar 1)) (dNil)))))
theorem bi_part {K : PySem.W.Frag} {mg : Str → Option Value} (C : HF fa fn K mg) : Binds K (fdOf K (Pl.ad K (.glob "part"))) ["balance", "limit", "level"] [] := (C.fun_ 17 (d := d_part) rfl).bindsN fun _ _ _ _ _ _ us hl => match us, hl with | [_, _, _], _ => rfl
theorem ok_part [PF : PSup P supF] (C : HF fa fn K mg) : FO cs P w K mg base 2 (.glob "part") ["balance", "limit", "level"] 3 mf_part := by
  have G_worth := ok_worth (P := P) (w := w) (base := base) C
  have F_worth := C.fun_ 16 (d := d_worth) rfl
  have B_worth := bi_worth C
  have g_worth := C.glo 41 rfl
  have sc := sc_part
  refine fn_mir (C.fun_ 17 (d := d_part) rfl) sc_part fun cdv A outer s H E p F0 hr => ?_
  exact dBone (dRet (dBin op_sub m_sub (dCall G_worth (hr.mono (by decide)) rfl g_worth F_worth.kp B_worth (dCons (dVar 0) (dCons (dVar 1) (dCons (dBin op_addA m_add (dVar 2) (dInt)) (dNil))))) (dCall G_worth (hr.mono (by decide)) rfl g_worth F_worth.kp B_worth (dCons (dVar 0) (dCons (dVar 1) (dCons (dVar 2) (dNil)))))))
theorem bi_row_of {K : PySem.W.Frag} {mg : Str → Option Value} (C : HF fa fn K mg) : Binds K (fdOf K (Pl.ad K (.glob "row_of"))) ["amounts"] [] := (C.fun_ 18 (d := d_row_of) rfl).bindsN fun _ _ _ _ _ _ us hl => match us, hl with | [_], _ => rfl
theorem ok_row_of [PF : PSup P supF] (C : HF fa fn K mg) : FO cs P w K mg base 3 (.glob "row_of") ["amounts"] 1 mf_row_of := by
  have G_part := ok_part (P := P) (w := w) (base := base) C
  have F_part := C.fun_ 17 (d := d_part) rfl
  have B_part := bi_part C
  have g_part := C.glo 42 rfl
  have f_sum := C.free 36 rfl
  have f_tuple := C.free 19 rfl
  have sc := sc_row_of
  refine fn_mir (C.fun_ 18 (d := d_row_of) rfl) sc_row_of fun cdv A outer s H E p F0 hr => ?_
  exact dBcons (dSetO (i := 1) sc.nd rfl (by first | exact Or.inl rfl | exact Or.inr rfl) (dLstO (dNil))) (dBcons (dSet (i := 2) sc.nd rfl (by first | exact Or.inl rfl | exact Or.inr rfl) (dInt)) (dBcons (dWhile 100000 PassesOwn.never (dTcmp (op_neD hr.units) m_ne (dFz (dLcO (own := [("balance", 3), ("limit", 4)]) rfl sc.nd (dIany (dVar 0)) (blkOk_by (by kernel_rfl)) (fun _ _ _ _ _ => dGt (n := 2) rfl (dGcons (dGn (i := 3) sc.nd rfl (by first | exact Or.inl rfl | exact Or.inr rfl)) (dGcons (dGn (i := 4) sc.nd rfl (by first | exact Or.inl rfl | exact Or.inr rfl)) (dGnil)))) (fun _ _ _ _ _ => pts_one (dTcmp op_gt m_gt (dVar 3) (dBin op_mulA m_mul (dVar 2) (dVar 4)) (nomark _))) (fun _ _ _ _ _ => dVar 3))) (dFz (dLstO (dNil))) (nomark _)) (dBcons (dApp 1 (dCallB m_sum (cr_sumA rfl) rfl f_sum bb_sum (dCons (dFz (dLcO (own := [("balance", 3), ("limit", 4)]) rfl sc.nd (dIany (dVar 0)) (blkOk_by (by kernel_rfl)) (fun _ _ _ _ _ => dGt (n := 2) rfl (dGcons (dGn (i := 3) sc.nd rfl (by first | exact Or.inl rfl | exact Or.inr rfl)) (dGcons (dGn (i := 4) sc.nd rfl (by first | exact Or.inl rfl | exact Or.inr rfl)) (dGnil)))) (fun _ _ _ _ _ => dYes) (fun _ _ _ _ _ => dCall G_part (hr.mono (by decide)) rfl g_part F_part.kp B_part (dCons (dVar 3) (dCons (dVar 4) (dCons (dVar 2) (dNil))))))) (dNil)))) (dBone (dAug (i := 2) m_addI ip_add sc.nd rfl (by first | exact Or.inl rfl | exact Or.inr rfl) (dInt))))) (dBone (dFrzS 1 (dRet (dCallT m_tup call_tuple_of rfl f_tuple bb_tuple (dCons (dVar 1) (dNil))))))))
theorem bi_Wallet_form {K : PySem.W.Frag} {mg : Str → Option Value} (C : HF fa fn K mg) : Binds K (fdOf K (Pl.ad K (.prop "Wallet" "form"))) ["self"] [] := (C.fun_ 19 (d := d_Wallet_form) rfl).bindsN fun _ _ _ _ _ _ us hl => match us, hl with | [_], _ => rfl
theorem ok_Wallet_form [PF : PSup P supF] (C : HF fa fn K mg) : FO cs P w K mg base 6 (.prop "Wallet" "form") ["self"] 1 mf_Wallet_form := by
  have G_Form___init__ := ok_Form___init__ (P := P) (w := w) (base := base) C
  have F_Form___init__ := C.fun_ 15 (d := d_Form___init__) rfl
  have B_Form___init__ := bi_Form___init__ C
  have m_Form := C.mkr 39 rfl
  have G_row_of := ok_row_of (P := P) (w := w) (base := base) C
  have F_row_of := C.fun_ 18 (d := d_row_of) rfl
  have B_row_of := bi_row_of C
  have n_Wallet_pairs := C.noat 26 rfl
  have c_Wallet := C.cls 27 rfl
  have n_Card_daily := C.noat 14 rfl
  have c_Card := C.cls 13 rfl
  have n_Card_held := C.noat 12 rfl
  have g_row_of := C.glo 43 rfl
  have g_Form := C.glo 44 rfl
  have sc := sc_Wallet_form
  refine fn_mir (C.fun_ 19 (d := d_Wallet_form) rfl) sc_Wallet_form fun cdv A outer s H E p F0 hr => ?_
  exact dBone (dRet (dMake (ck := "Form") hc_Form m_Form G_Form___init__ (hr.mono (by decide)) rfl g_Form B_Form___init__ (dCons (dCall G_row_of (hr.mono (by decide)) rfl g_row_of F_row_of.kp B_row_of (dCons (dFz (dLcO (own := [("name", 1), ("card", 2)]) rfl sc.nd (dIany (dFld (ck := "Wallet") (ks := ["pairs"]) 0 rfl (by decide) c_Wallet n_Wallet_pairs (dVar 0))) (blkOk_by (by kernel_rfl)) (fun _ _ _ _ _ => dGt (n := 2) rfl (dGcons (dGn (i := 1) sc.nd rfl (by first | exact Or.inl rfl | exact Or.inr rfl)) (dGcons (dGn (i := 2) sc.nd rfl (by first | exact Or.inl rfl | exact Or.inr rfl)) (dGnil)))) (fun _ _ _ _ _ => dYes) (fun _ _ _ _ _ => dTup (dCons (dFld (ck := "Card") (ks := ["held", "daily"]) 0 rfl (by decide) c_Card n_Card_held (dVar 2)) (dCons (dFld (ck := "Card") (ks := ["held", "daily"]) 1 rfl (by decide) c_Card n_Card_daily (dVar 2)) (dNil)))))) (dNil))) (dNil))))
theorem bi_check_payable {K : PySem.W.Frag} {mg : Str → Option Value} (C : HF fa fn K mg) : Binds K (fdOf K (Pl.ad K (.glob "check_payable"))) ["wallet", "bill"] [] := (C.fun_ 20 (d := d_check_payable) rfl).bindsN fun _ _ _ _ _ _ us hl => match us, hl with | [_, _], _ => rfl
theorem ok_check_payable [PF : PSup P supF] (C : HF fa fn K mg) : FO cs P w K mg base 8 (.glob "check_payable") ["wallet", "bill"] 2 mf_check_payable := by
  have G_check_wallet := ok_check_wallet (P := P) (w := w) (base := base) C
  have F_check_wallet := C.fun_ 11 (d := d_check_wallet) rfl
  have B_check_wallet := bi_check_wallet C
  have g_check_wallet := C.glo 32 rfl
  have G_check_bill := ok_check_bill (P := P) (w := w) (base := base) C
  have F_check_bill := C.fun_ 12 (d := d_check_bill) rfl
  have B_check_bill := bi_check_bill C
  have g_check_bill := C.glo 33 rfl
  have G_Form_sum_of := ok_Form_sum_of (P := P) (w := w) (base := base) C
  have F_Form_sum_of := C.fun_ 13 (d := d_Form_sum_of) rfl
  have B_Form_sum_of := bi_Form_sum_of C
  have t_Form_sum_of := C.meth 37 rfl
  have G_Wallet_form := ok_Wallet_form (P := P) (w := w) (base := base) C
  have F_Wallet_form := C.fun_ 19 (d := d_Wallet_form) rfl
  have B_Wallet_form := bi_Wallet_form C
  have p_Wallet_form := prop_ok (C.fact 45 rfl)
  have c_Wallet := C.cls 27 rfl
  have c_Form := C.cls 35 rfl
  have sc := sc_check_payable
  refine fn_mir (C.fun_ 20 (d := d_check_payable) rfl) sc_check_payable fun cdv A outer s H E p F0 hr => ?_
  exact dBcons (dExpr (dCall G_check_wallet (hr.mono (by decide)) rfl g_check_wallet F_check_wallet.kp B_check_wallet (dCons (dVar 0) (dNil)))) (dBcons (dExpr (dCall G_check_bill (hr.mono (by decide)) rfl g_check_bill F_check_bill.kp B_check_bill (dCons (dVar 1) (dNil)))) (dBone (dIfS (dTcmp op_gt m_gt (dVar 1) (dMeth (ck := "Form") (dProp (ck := "Wallet") (dVar 0) c_Wallet p_Wallet_form G_Wallet_form (hr.mono (by decide)) B_Wallet_form) c_Form t_Form_sum_of G_Form_sum_of (hr.mono (by decide)) B_Form_sum_of (dCons (dInt) (dNil))) (nomark _)) (dBone (dNever)) (dBnil))))
theorem bi_lead_by {K : PySem.W.Frag} {mg : Str → Option Value} (C : HF fa fn K mg) : Binds K (fdOf K (Pl.ad K (.glob "lead_by"))) ["key", "one", "two"] [] := (C.fun_ 21 (d := d_lead_by) rfl).bindsN fun _ _ _ _ _ _ us hl => match us, hl with | [_, _, _], _ => rfl
theorem ok_lead_by [PF : PSup P supF] (C : HF fa fn K mg) : FO cs P w K mg base 1 (.glob "lead_by") ["key", "one", "two"] 3 mf_lead_by := by
  have tx_BACKWARD := txts_ok C (C.fact 51 rfl)
  have sc := sc_lead_by
  refine fn_mir (C.fun_ 21 (d := d_lead_by) rfl) sc_lead_by fun cdv A outer s H E p F0 hr => ?_
  exact dBcons (dIfS (dTcmp op_inA m_in (dVar 0) (dTup (dCons (dStr) (dCons (dStr) (dNil)))) rfl) (dBone (dSet (i := 3) sc.nd rfl (by first | exact Or.inl rfl | exact Or.inr rfl) (dBin op_sub m_sub (dIx ix_seq m_ix (dVar 2) (dInt)) (dIx ix_seq m_ix (dVar 1) (dInt))))) (dBone (dIfS (dTcmp op_inA m_in (dVar 0) (dTup (dCons (dStr) (dCons (dStr) (dNil)))) rfl) (dBone (dSet (i := 3) sc.nd rfl (by first | exact Or.inl rfl | exact Or.inr rfl) (dBin op_sub m_sub (dIx ix_seq m_ix (dVar 1) (dInt)) (dIx ix_seq m_ix (dVar 2) (dInt))))) (dBone (dIfS (dTcmp op_inA m_in (dVar 0) (dTup (dCons (dStr) (dCons (dStr) (dNil)))) rfl) (dBone (dSet (i := 3) sc.nd rfl (by first | exact Or.inl rfl | exact Or.inr rfl) (dBin op_sub m_sub (dIx ix_seq m_ix (dVar 1) (dInt)) (dIx ix_seq m_ix (dVar 2) (dInt))))) (dBone (dSet (i := 3) sc.nd rfl (by first | exact Or.inl rfl | exact Or.inr rfl) (dBin op_sub m_sub (dBin op_mulA m_mul (dIx ix_seq m_ix (dVar 1) (dInt)) (dIx ix_seq m_ix (dVar 2) (dInt))) (dBin op_mulA m_mul (dIx ix_seq m_ix (dVar 2) (dInt)) (dIx ix_seq m_ix (dVar 1) (dInt))))))))))) (dBone (dRet (dIf (dTcmp op_inA m_in (dVar 0) (dTxts (zs := ["least", "narrow", "short", "late"]) rfl tx_BACKWARD.choose_spec.1 tx_BACKWARD.choose_spec.2) rfl) (dBin op_sub m_sub (dInt) (dVar 3)) (dVar 3))))
theorem bi_is_ahead {K : PySem.W.Frag} {mg : Str → Option Value} (C : HF fa fn K mg) : Binds K (fdOf K (Pl.ad K (.glob "is_ahead"))) ["keys", "one", "two"] [] := (C.fun_ 22 (d := d_is_ahead) rfl).bindsN fun _ _ _ _ _ _ us hl => match us, hl with | [_, _, _], _ => rfl
theorem ok_is_ahead [PF : PSup P supF] (C : HF fa fn K mg) : FO cs P w K mg base 2 (.glob "is_ahead") ["keys", "one", "two"] 3 mf_is_ahead := by
  have G_lead_by := ok_lead_by (P := P) (w := w) (base := base) C
  have F_lead_by := C.fun_ 21 (d := d_lead_by) rfl
  have B_lead_by := bi_lead_by C
  have g_lead_by := C.glo 52 rfl
  have sc := sc_is_ahead
  refine fn_mir (C.fun_ 22 (d := d_is_ahead) rfl) sc_is_ahead fun cdv A outer s H E p F0 hr => ?_
  exact dBcons (dFor PassesOwn.never rfl (dIany (dVar 0)) (dGn (i := 3) sc.nd rfl (by first | exact Or.inl rfl | exact Or.inr rfl)) (dBcons (dSet (i := 4) sc.nd rfl (by first | exact Or.inl rfl | exact Or.inr rfl) (dCall G_lead_by (hr.mono (by decide)) rfl g_lead_by F_lead_by.kp B_lead_by (dCons (dVar 3) (dCons (dVar 1) (dCons (dVar 2) (dNil)))))) (dBone (dIfS (dTcmp (op_neD hr.units) m_ne (dVar 4) (dInt) (nomark _)) (dBone (dRet (dCmp op_gt m_gt (dVar 4) (dInt) (nomark _)))) (dBnil))))) (dBone (dRet (dCmp op_lt m_lt (dIx ix_seq m_ix (dVar 1) (dInt)) (dIx ix_seq m_ix (dVar 2) (dInt)) (nomark _))))
theorem bi_one_by_one {K : PySem.W.Frag} {mg : Str → Option Value} (C : HF fa fn K mg) : Binds K (fdOf K (Pl.ad K (.glob "one_by_one"))) ["keys", "amounts", "bill"] [] := (C.fun_ 23 (d := d_one_by_one) rfl).bindsN fun _ _ _ _ _ _ us hl => match us, hl with | [_, _, _], _ => rfl
theorem ok_one_by_one [PF : PSup P supF] (C : HF fa fn K mg) : FO cs P w K mg base 3 (.glob "one_by_one") ["keys", "amounts", "bill"] 3 mf_one_by_one := by
  have f_len := C.free 7 rfl
  have f_range := C.free 50 rfl
  have f_enumerate := C.free 20 rfl
  have G_is_ahead := ok_is_ahead (P := P) (w := w) (base := base) C
  have F_is_ahead := C.fun_ 22 (d := d_is_ahead) rfl
  have B_is_ahead := bi_is_ahead C
  have g_is_ahead := C.glo 53 rfl
  have f_tuple := C.free 19 rfl
  have sc := sc_one_by_one
  refine fn_mir (C.fun_ 23 (d := d_one_by_one) rfl) sc_one_by_one fun cdv A outer s H E p F0 hr => ?_
  exact dBcons (dSetO (i := 3) sc.nd rfl (by first | exact Or.inl rfl | exact Or.inr rfl) (dRepO (dFz (dLstO (dCons (dInt) (dNil)))) (dCallB m_len call_lenA rfl f_len bb_len (dCons (dVar 1) (dNil))))) (dBcons (dFor PassesOwn.never rfl (dIrng1 rfl f_range (dCons (dVar 2) (dNil))) (dGn (i := 4) sc.nd rfl (by first | exact Or.inl rfl | exact Or.inr rfl)) (dBcons (dSet (i := 5) sc.nd rfl (by first | exact Or.inl rfl | exact Or.inr rfl) (dNon)) (dBcons (dFor PassesOwn.never rfl (dIenumA rfl f_enumerate (dCons (dVar 1) (dNil))) (dGt (n := 2) rfl (dGcons (dGn (i := 6) sc.nd rfl (by first | exact Or.inl rfl | exact Or.inr rfl)) (dGcons (dGt (n := 2) rfl (dGcons (dGn (i := 7) sc.nd rfl (by first | exact Or.inl rfl | exact Or.inr rfl)) (dGcons (dGn (i := 8) sc.nd rfl (by first | exact Or.inl rfl | exact Or.inr rfl)) (dGnil)))) (dGnil)))) (dBcons (dSet (i := 9) sc.nd rfl (by first | exact Or.inl rfl | exact Or.inr rfl) (dTup (dCons (dVar 6) (dCons (dBin op_sub m_sub (dVar 7) (dIxO 3 (dVar 6))) (dCons (dVar 8) (dNil)))))) (dBcons (dSet (i := 10) sc.nd rfl (by first | exact Or.inl rfl | exact Or.inr rfl) (dAndV (dCmp op_gt m_gt (dIx ix_seq m_ix (dVar 9) (dInt)) (dInt) (nomark _)) (dOneV (dCmp op_lt m_lt (dIxO 3 (dVar 6)) (dVar 8) (nomark _))))) (dBone (dIfS (PW.pt (dAndT (dTst (dVar 10)) (dAnd1 (PW.pt (dOrT (dTcmp op_isA m_is (dVar 5) (dNon) (nomark _)) (dOr1 (dTst (dCall G_is_ahead (hr.mono (by decide)) rfl g_is_ahead F_is_ahead.kp B_is_ahead (dCons (dVar 0) (dCons (dVar 9) (dCons (dVar 5) (dNil)))))))))))) (dBone (dSet (i := 5) sc.nd rfl (by first | exact Or.inl rfl | exact Or.inr rfl) (dVar 9))) (dBnil)))))) (dBone (dAugS 3 m_addI ip_add (dIx ix_seq m_ix (dVar 5) (dInt)) (dInt)))))) (dBone (dFrzS 3 (dRet (dCallT m_tup call_tuple_of rfl f_tuple bb_tuple (dCons (dVar 3) (dNil)))))))
theorem bi_parts {K : PySem.W.Frag} {mg : Str → Option Value} (C : HF fa fn K mg) : Binds K (fdOf K (Pl.ad K (.glob "parts"))) ["amounts", "level"] [] := (C.fun_ 24 (d := d_parts) rfl).bindsN fun _ _ _ _ _ _ us hl => match us, hl with | [_, _], _ => rfl
theorem ok_parts [PF : PSup P supF] (C : HF fa fn K mg) : FO cs P w K mg base 3 (.glob "parts") ["amounts", "level"] 2 mf_parts := by
  have G_part := ok_part (P := P) (w := w) (base := base) C
  have F_part := C.fun_ 17 (d := d_part) rfl
  have B_part := bi_part C
  have g_part := C.glo 42 rfl
  have f_tuple := C.free 19 rfl
  have sc := sc_parts
  refine fn_mir (C.fun_ 24 (d := d_parts) rfl) sc_parts fun cdv A outer s H E p F0 hr => ?_
  exact dBone (dRet (dCallT m_tup call_tuple_of rfl f_tuple bb_tuple (dCons (dFz (dLcO (own := [("balance", 2), ("limit", 3)]) rfl sc.nd (dIany (dVar 0)) (blkOk_by (by kernel_rfl)) (fun _ _ _ _ _ => dGt (n := 2) rfl (dGcons (dGn (i := 2) sc.nd rfl (by first | exact Or.inl rfl | exact Or.inr rfl)) (dGcons (dGn (i := 3) sc.nd rfl (by first | exact Or.inl rfl | exact Or.inr rfl)) (dGnil)))) (fun _ _ _ _ _ => dYes) (fun _ _ _ _ _ => dCall G_part (hr.mono (by decide)) rfl g_part F_part.kp B_part (dCons (dVar 2) (dCons (dVar 3) (dCons (dVar 1) (dNil))))))) (dNil))))
theorem bi_bounds {K : PySem.W.Frag} {mg : Str → Option Value} (C : HF fa fn K mg) : Binds K (fdOf K (Pl.ad K (.glob "bounds"))) ["amounts", "bill"] [] := (C.fun_ 25 (d := d_bounds) rfl).bindsN fun _ _ _ _ _ _ us hl => match us, hl with | [_, _], _ => rfl
theorem ok_bounds [PF : PSup P supF] (C : HF fa fn K mg) : FO cs P w K mg base 4 (.glob "bounds") ["amounts", "bill"] 2 mf_bounds := by
  have f_len := C.free 7 rfl
  have f_tuple := C.free 19 rfl
  have G_parts := ok_parts (P := P) (w := w) (base := base) C
  have F_parts := C.fun_ 24 (d := d_parts) rfl
  have B_parts := bi_parts C
  have g_parts := C.glo 55 rfl
  have f_sum := C.free 36 rfl
  have sc := sc_bounds
  refine fn_mir (C.fun_ 25 (d := d_bounds) rfl) sc_bounds fun cdv A outer s H E p F0 hr => ?_
  exact dBcons (dIfS (dTcmp (op_eqD hr.units) m_eq (dVar 1) (dInt) (nomark _)) (dBone (dRet (dTup (dCons (dCallT m_tup call_tuple_of rfl f_tuple bb_tuple (dCons (dBin op_mulA m_mul (dFz (dLstO (dCons (dInt) (dNil)))) (dCallB m_len call_lenA rfl f_len bb_len (dCons (dVar 0) (dNil)))) (dNil))) (dCons (dCallT m_tup call_tuple_of rfl f_tuple bb_tuple (dCons (dBin op_mulA m_mul (dFz (dLstO (dCons (dInt) (dNil)))) (dCallB m_len call_lenA rfl f_len bb_len (dCons (dVar 0) (dNil)))) (dNil))) (dNil)))))) (dBnil)) (dBcons (dSet (i := 2) sc.nd rfl (by first | exact Or.inl rfl | exact Or.inr rfl) (dInt)) (dBcons (dWhile 100000 PassesOwn.never (dTcmp op_ge m_ge (dCallB m_sum (cr_sumA rfl) rfl f_sum bb_sum (dCons (dCall G_parts (hr.mono (by decide)) rfl g_parts F_parts.kp B_parts (dCons (dVar 0) (dCons (dBin op_addA m_add (dVar 2) (dInt)) (dNil)))) (dNil))) (dVar 1) (nomark _)) (dBone (dAug (i := 2) m_addI ip_add sc.nd rfl (by first | exact Or.inl rfl | exact Or.inr rfl) (dInt)))) (dBone (dRet (dTup (dCons (dCall G_parts (hr.mono (by decide)) rfl g_parts F_parts.kp B_parts (dCons (dVar 0) (dCons (dBin op_addA m_add (dVar 2) (dInt)) (dNil)))) (dCons (dCall G_parts (hr.mono (by decide)) rfl g_parts F_parts.kp B_parts (dCons (dVar 0) (dCons (dVar 2) (dNil)))) (dNil))))))))
theorem bi_placed_by {K : PySem.W.Frag} {mg : Str → Option Value} (C : HF fa fn K mg) : Binds K (fdOf K (Pl.ad K (.glob "placed_by"))) ["keys", "amounts"] [] := (C.fun_ 26 (d := d_placed_by) rfl).bindsN fun _ _ _ _ _ _ us hl => match us, hl with | [_, _], _ => rfl
theorem ok_placed_by [PF : PSup P supF] (C : HF fa fn K mg) : FO cs P w K mg base 3 (.glob "placed_by") ["keys", "amounts"] 2 mf_placed_by := by
  have f_enumerate := C.free 20 rfl
  have f_len := C.free 7 rfl
  have G_is_ahead := ok_is_ahead (P := P) (w := w) (base := base) C
  have F_is_ahead := C.fun_ 22 (d := d_is_ahead) rfl
  have B_is_ahead := bi_is_ahead C
  have g_is_ahead := C.glo 53 rfl
  have sc := sc_placed_by
  refine fn_mir (C.fun_ 26 (d := d_placed_by) rfl) sc_placed_by fun cdv A outer s H E p F0 hr => ?_
  exact dBcons (dSetO (i := 2) sc.nd rfl (by first | exact Or.inl rfl | exact Or.inr rfl) (dLstO (dNil))) (dBcons (dFor PassesOwn.never rfl (dIenumA rfl f_enumerate (dCons (dVar 1) (dNil))) (dGt (n := 2) rfl (dGcons (dGn (i := 3) sc.nd rfl (by first | exact Or.inl rfl | exact Or.inr rfl)) (dGcons (dGt (n := 2) rfl (dGcons (dGn (i := 4) sc.nd rfl (by first | exact Or.inl rfl | exact Or.inr rfl)) (dGcons (dGn (i := 5) sc.nd rfl (by first | exact Or.inl rfl | exact Or.inr rfl)) (dGnil)))) (dGnil)))) (dBcons (dPar (i := 6) (j := 7) rfl sc.nd rfl rfl (by decide) rfl rfl (dMsh (dTup (dCons (dVar 3) (dCons (dVar 4) (dCons (dVar 5) (dNil))))) (dMsh (dInt) (dMnil)))) (dBcons (dWhile 100000 PassesOwn.never (PW.pt (dAndT (dTcmp op_lt m_lt (dVar 7) (dLenO 2 rfl f_len) (nomark _)) (dAnd1 (dTst (dCall G_is_ahead (hr.mono (by decide)) rfl g_is_ahead F_is_ahead.kp B_is_ahead (dCons (dVar 0) (dCons (dIxO 2 (dVar 7)) (dCons (dVar 6) (dNil))))))))) (dBone (dAug (i := 7) m_addI ip_add sc.nd rfl (by first | exact Or.inl rfl | exact Or.inr rfl) (dInt)))) (dBone (dIns 2 (dVar 7) (dVar 6)))))) (dBone (dFrzS 2 (dRet (dVar 2)))))
theorem bi_filled_by {K : PySem.W.Frag} {mg : Str → Option Value} (C : HF fa fn K mg) : Binds K (fdOf K (Pl.ad K (.glob "filled_by"))) ["keys", "amounts", "low", "high", "bill"] [] := (C.fun_ 27 (d := d_filled_by) rfl).bindsN fun _ _ _ _ _ _ us hl => match us, hl with | [_, _, _, _, _], _ => rfl
theorem ok_filled_by [PF : PSup P supF] (C : HF fa fn K mg) : FO cs P w K mg base 4 (.glob "filled_by") ["keys", "amounts", "low", "high", "bill"] 5 mf_filled_by := by
  have f_sum := C.free 36 rfl
  have f_list := C.free 57 rfl
  have G_placed_by := ok_placed_by (P := P) (w := w) (base := base) C
  have F_placed_by := C.fun_ 26 (d := d_placed_by) rfl
  have B_placed_by := bi_placed_by C
  have g_placed_by := C.glo 58 rfl
  have f_int := C.free 5 rfl
  have f_min := C.free 40 rfl
  have f_tuple := C.free 19 rfl
  have sc := sc_filled_by
  refine fn_mir (C.fun_ 27 (d := d_filled_by) rfl) sc_filled_by fun cdv A outer s H E p F0 hr => ?_
  exact dBcons (dPar (i := 5) (j := 6) rfl sc.nd rfl rfl (by decide) rfl rfl (dMow (dCallTO m_listO call_list_of rfl f_list bb_list (dCons (dVar 2) (dNil))) (dMsh (dBin op_sub m_sub (dVar 4) (dCallB m_sum (cr_sumA rfl) rfl f_sum bb_sum (dCons (dVar 2) (dNil)))) (dMnil)))) (dBcons (dFor PassesOwn.never rfl (dIany (dCall G_placed_by (hr.mono (by decide)) rfl g_placed_by F_placed_by.kp B_placed_by (dCons (dVar 0) (dCons (dVar 1) (dNil))))) (dGt (n := 3) rfl (dGcons (dGn (i := 7) sc.nd rfl (by first | exact Or.inl rfl | exact Or.inr rfl)) (dGcons (dGn (i := 8) sc.nd rfl (by first | exact Or.inl rfl | exact Or.inr rfl)) (dGcons (dGn (i := 9) sc.nd rfl (by first | exact Or.inl rfl | exact Or.inr rfl)) (dGnil))))) (dBcons (dSet (i := 10) sc.nd rfl (by first | exact Or.inl rfl | exact Or.inr rfl) (dCallB m_min (cr_minA rfl) rfl f_min bb_min (dCons (dCallT m_int1 call_int1 rfl f_int bb_int (dCons (dVar 6) (dNil))) (dCons (dBin op_sub m_sub (dIx ix_seq m_ix (dVar 3) (dVar 7)) (dIxO 5 (dVar 7))) (dNil))))) (dBcons (dAugS 5 m_addI ip_add (dVar 7) (dVar 10)) (dBone (dAug (i := 6) m_subI ip_sub sc.nd rfl (by first | exact Or.inl rfl | exact Or.inr rfl) (dVar 10)))))) (dBone (dFrzS 5 (dRet (dCallT m_tup call_tuple_of rfl f_tuple bb_tuple (dCons (dVar 5) (dNil)))))))
theorem bi_payment_by {K : PySem.W.Frag} {mg : Str → Option Value} (C : HF fa fn K mg) : Binds K (fdOf K (Pl.ad K (.glob "payment_by"))) ["kind", "keys", "amounts", "bill"] [] := (C.fun_ 28 (d := d_payment_by) rfl).bindsN fun _ _ _ _ _ _ us hl => match us, hl with | [_, _, _, _], _ => rfl
theorem ok_payment_by [PF : PSup P supF] (C : HF fa fn K mg) : FO cs P w K mg base 5 (.glob "payment_by") ["kind", "keys", "amounts", "bill"] 4 mf_payment_by := by
  have G_one_by_one := ok_one_by_one (P := P) (w := w) (base := base) C
  have F_one_by_one := C.fun_ 23 (d := d_one_by_one) rfl
  have B_one_by_one := bi_one_by_one C
  have g_one_by_one := C.glo 54 rfl
  have G_bounds := ok_bounds (P := P) (w := w) (base := base) C
  have F_bounds := C.fun_ 25 (d := d_bounds) rfl
  have B_bounds := bi_bounds C
  have g_bounds := C.glo 56 rfl
  have G_filled_by := ok_filled_by (P := P) (w := w) (base := base) C
  have F_filled_by := C.fun_ 27 (d := d_filled_by) rfl
  have B_filled_by := bi_filled_by C
  have g_filled_by := C.glo 59 rfl
  have G_parts := ok_parts (P := P) (w := w) (base := base) C
  have F_parts := C.fun_ 24 (d := d_parts) rfl
  have B_parts := bi_parts C
  have g_parts := C.glo 55 rfl
  have f_len := C.free 7 rfl
  have sc := sc_payment_by
  refine fn_mir (C.fun_ 28 (d := d_payment_by) rfl) sc_payment_by fun cdv A outer s H E p F0 hr => ?_
  exact dBcons (dIfS (dTcmp (op_eqD hr.units) m_eq (dVar 0) (dStr) (nomark _)) (dBone (dRet (dCall G_one_by_one (hr.mono (by decide)) rfl g_one_by_one F_one_by_one.kp B_one_by_one (dCons (dVar 1) (dCons (dVar 2) (dCons (dVar 3) (dNil))))))) (dBnil)) (dBcons (dIfS (dTcmp (op_eqD hr.units) m_eq (dVar 0) (dStr) (nomark _)) (dBcons (dAsg (dCall G_bounds (hr.mono (by decide)) rfl g_bounds F_bounds.kp B_bounds (dCons (dVar 2) (dCons (dVar 3) (dNil)))) (dGt (n := 2) rfl (dGcons (dGn (i := 4) sc.nd rfl (by first | exact Or.inl rfl | exact Or.inr rfl)) (dGcons (dGn (i := 5) sc.nd rfl (by first | exact Or.inl rfl | exact Or.inr rfl)) (dGnil))))) (dBone (dRet (dCall G_filled_by (hr.mono (by decide)) rfl g_filled_by F_filled_by.kp B_filled_by (dCons (dVar 1) (dCons (dVar 2) (dCons (dVar 4) (dCons (dVar 5) (dCons (dVar 3) (dNil)))))))))) (dBnil)) (dBone (dRet (dCall G_filled_by (hr.mono (by decide)) rfl g_filled_by F_filled_by.kp B_filled_by (dCons (dVar 1) (dCons (dVar 2) (dCons (dBin op_mulA m_mul (dFz (dLstO (dCons (dInt) (dNil)))) (dCallB m_len call_lenA rfl f_len bb_len (dCons (dVar 2) (dNil)))) (dCons (dCall G_parts (hr.mono (by decide)) rfl g_parts F_parts.kp B_parts (dCons (dVar 2) (dCons (dInt) (dNil)))) (dCons (dVar 3) (dNil))))))))))
theorem bi_Drain_share {K : PySem.W.Frag} {mg : Str → Option Value} (C : HF fa fn K mg) : Binds K (fdOf K (Pl.ad K (.meth "Drain" "share"))) ["self", "amounts", "bill"] [] := (C.fun_ 29 (d := d_Drain_share) rfl).bindsN fun _ _ _ _ _ _ us hl => match us, hl with | [_, _, _], _ => rfl
theorem ok_Drain_share [PF : PSup P supF] (C : HF fa fn K mg) : FO cs P w K mg base 6 (.meth "Drain" "share") ["self", "amounts", "bill"] 3 mf_Drain_share := by
  have G_payment_by := ok_payment_by (P := P) (w := w) (base := base) C
  have F_payment_by := C.fun_ 28 (d := d_payment_by) rfl
  have B_payment_by := bi_payment_by C
  have n_Drain_wishes := C.noat 60 rfl
  have c_Drain := C.cls 48 rfl
  have kc_Drain_KIND := con_ok (C.fact 47 rfl)
  have g_payment_by := C.glo 61 rfl
  have sc := sc_Drain_share
  refine fn_mir (C.fun_ 29 (d := d_Drain_share) rfl) sc_Drain_share fun cdv A outer s H E p F0 hr => ?_
  exact dBone (dRet (dCall G_payment_by (hr.mono (by decide)) rfl g_payment_by F_payment_by.kp B_payment_by (dCons (dCon (ck := "Drain") (dVar 0) c_Drain kc_Drain_KIND.1.choose_spec) (dCons (dFld (ck := "Drain") (ks := ["wishes"]) 0 rfl (by decide) c_Drain n_Drain_wishes (dVar 0)) (dCons (dVar 1) (dCons (dVar 2) (dNil)))))))
theorem bi_Wallet_cards {K : PySem.W.Frag} {mg : Str → Option Value} (C : HF fa fn K mg) : Binds K (fdOf K (Pl.ad K (.prop "Wallet" "cards"))) ["self"] [] := (C.fun_ 30 (d := d_Wallet_cards) rfl).bindsN fun _ _ _ _ _ _ us hl => match us, hl with | [_], _ => rfl
theorem ok_Wallet_cards [PF : PSup P supF] (C : HF fa fn K mg) : FO cs P w K mg base 1 (.prop "Wallet" "cards") ["self"] 1 mf_Wallet_cards := by
  have n_Wallet_pairs := C.noat 26 rfl
  have c_Wallet := C.cls 27 rfl
  have f_tuple := C.free 19 rfl
  have sc := sc_Wallet_cards
  refine fn_mir (C.fun_ 30 (d := d_Wallet_cards) rfl) sc_Wallet_cards fun cdv A outer s H E p F0 hr => ?_
  exact dBone (dRet (dCallT m_tup call_tuple_of rfl f_tuple bb_tuple (dCons (dFz (dLcO (own := [("name", 1), ("card", 2)]) rfl sc.nd (dIany (dFld (ck := "Wallet") (ks := ["pairs"]) 0 rfl (by decide) c_Wallet n_Wallet_pairs (dVar 0))) (blkOk_by (by kernel_rfl)) (fun _ _ _ _ _ => dGt (n := 2) rfl (dGcons (dGn (i := 1) sc.nd rfl (by first | exact Or.inl rfl | exact Or.inr rfl)) (dGcons (dGn (i := 2) sc.nd rfl (by first | exact Or.inl rfl | exact Or.inr rfl)) (dGnil)))) (fun _ _ _ _ _ => dYes) (fun _ _ _ _ _ => dVar 2))) (dNil))))
theorem bi_Card_limit {K : PySem.W.Frag} {mg : Str → Option Value} (C : HF fa fn K mg) : Binds K (fdOf K (Pl.ad K (.prop "Card" "limit"))) ["self"] [] := (C.fun_ 31 (d := d_Card_limit) rfl).bindsN fun _ _ _ _ _ _ us hl => match us, hl with | [_], _ => rfl
theorem ok_Card_limit [PF : PSup P supF] (C : HF fa fn K mg) : FO cs P w K mg base 1 (.prop "Card" "limit") ["self"] 1 mf_Card_limit := by
  have n_Card_daily := C.noat 14 rfl
  have c_Card := C.cls 13 rfl
  have sc := sc_Card_limit
  refine fn_mir (C.fun_ 31 (d := d_Card_limit) rfl) sc_Card_limit fun cdv A outer s H E p F0 hr => ?_
  exact dBone (dRet (dFld (ck := "Card") (ks := ["held", "daily"]) 1 rfl (by decide) c_Card n_Card_daily (dVar 0)))
theorem bi_Card_balance {K : PySem.W.Frag} {mg : Str → Option Value} (C : HF fa fn K mg) : Binds K (fdOf K (Pl.ad K (.prop "Card" "balance"))) ["self"] [] := (C.fun_ 32 (d := d_Card_balance) rfl).bindsN fun _ _ _ _ _ _ us hl => match us, hl with | [_], _ => rfl
theorem ok_Card_balance [PF : PSup P supF] (C : HF fa fn K mg) : FO cs P w K mg base 1 (.prop "Card" "balance") ["self"] 1 mf_Card_balance := by
  have n_Card_held := C.noat 12 rfl
  have c_Card := C.cls 13 rfl
  have sc := sc_Card_balance
  refine fn_mir (C.fun_ 32 (d := d_Card_balance) rfl) sc_Card_balance fun cdv A outer s H E p F0 hr => ?_
  exact dBone (dRet (dFld (ck := "Card") (ks := ["held", "daily"]) 0 rfl (by decide) c_Card n_Card_held (dVar 0)))
theorem bi_amounts_of {K : PySem.W.Frag} {mg : Str → Option Value} (C : HF fa fn K mg) : Binds K (fdOf K (Pl.ad K (.glob "amounts_of"))) ["wallet"] [] := (C.fun_ 33 (d := d_amounts_of) rfl).bindsN fun _ _ _ _ _ _ us hl => match us, hl with | [_], _ => rfl
theorem ok_amounts_of [PF : PSup P supF] (C : HF fa fn K mg) : FO cs P w K mg base 3 (.glob "amounts_of") ["wallet"] 1 mf_amounts_of := by
  have G_Wallet_cards := ok_Wallet_cards (P := P) (w := w) (base := base) C
  have F_Wallet_cards := C.fun_ 30 (d := d_Wallet_cards) rfl
  have B_Wallet_cards := bi_Wallet_cards C
  have p_Wallet_cards := prop_ok (C.fact 63 rfl)
  have c_Wallet := C.cls 27 rfl
  have G_Card_limit := ok_Card_limit (P := P) (w := w) (base := base) C
  have F_Card_limit := C.fun_ 31 (d := d_Card_limit) rfl
  have B_Card_limit := bi_Card_limit C
  have p_Card_limit := prop_ok (C.fact 64 rfl)
  have c_Card := C.cls 13 rfl
  have G_Card_balance := ok_Card_balance (P := P) (w := w) (base := base) C
  have F_Card_balance := C.fun_ 32 (d := d_Card_balance) rfl
  have B_Card_balance := bi_Card_balance C
  have p_Card_balance := prop_ok (C.fact 65 rfl)
  have f_tuple := C.free 19 rfl
  have sc := sc_amounts_of
  refine fn_mir (C.fun_ 33 (d := d_amounts_of) rfl) sc_amounts_of fun cdv A outer s H E p F0 hr => ?_
  exact dBone (dRet (dCallT m_tup call_tuple_of rfl f_tuple bb_tuple (dCons (dFz (dLcO (own := [("card", 1)]) rfl sc.nd (dIany (dProp (ck := "Wallet") (dVar 0) c_Wallet p_Wallet_cards G_Wallet_cards (hr.mono (by decide)) B_Wallet_cards)) (blkOk_by (by kernel_rfl)) (fun _ _ _ _ _ => dGn (i := 1) sc.nd rfl (by first | exact Or.inl rfl | exact Or.inr rfl)) (fun _ _ _ _ _ => dYes) (fun _ _ _ _ _ => dTup (dCons (dProp (ck := "Card") (dVar 1) c_Card p_Card_balance G_Card_balance (hr.mono (by decide)) B_Card_balance) (dCons (dProp (ck := "Card") (dVar 1) c_Card p_Card_limit G_Card_limit (hr.mono (by decide)) B_Card_limit) (dNil)))))) (dNil))))
theorem bi_Drain___call__ {K : PySem.W.Frag} {mg : Str → Option Value} (C : HF fa fn K mg) : Binds K (fdOf K (Pl.ad K (.meth "Drain" "__call__"))) ["self", "wallet", "bill"] [] := (C.fun_ 34 (d := d_Drain___call__) rfl).bindsN fun _ _ _ _ _ _ us hl => match us, hl with | [_, _, _], _ => rfl
theorem ok_Drain___call__ [PF : PSup P supF] (C : HF fa fn K mg) : FO cs P w K mg base 9 (.meth "Drain" "__call__") ["self", "wallet", "bill"] 3 mf_Drain___call__ := by
  have G_check_payable := ok_check_payable (P := P) (w := w) (base := base) C
  have F_check_payable := C.fun_ 20 (d := d_check_payable) rfl
  have B_check_payable := bi_check_payable C
  have g_check_payable := C.glo 46 rfl
  have kc_Drain_KIND := con_ok (C.fact 47 rfl)
  have c_Drain := C.cls 48 rfl
  obtain ⟨_, k_UNITS_AT_ONCE⟩ := C.int 49 rfl
  have G_Drain_share := ok_Drain_share (P := P) (w := w) (base := base) C
  have F_Drain_share := C.fun_ 29 (d := d_Drain_share) rfl
  have B_Drain_share := bi_Drain_share C
  have t_Drain_share := C.meth 62 rfl
  have G_amounts_of := ok_amounts_of (P := P) (w := w) (base := base) C
  have F_amounts_of := C.fun_ 33 (d := d_amounts_of) rfl
  have B_amounts_of := bi_amounts_of C
  have g_amounts_of := C.glo 66 rfl
  have sc := sc_Drain___call__
  refine fn_mir (C.fun_ 34 (d := d_Drain___call__) rfl) sc_Drain___call__ fun cdv A outer s H E p F0 hr => ?_
  exact dBcons (dExpr (dCall G_check_payable (hr.mono (by decide)) rfl g_check_payable F_check_payable.kp B_check_payable (dCons (dVar 1) (dCons (dVar 2) (dNil))))) (dBcons (dIfS (PW.pt (dAndT (dTcmp (op_eqD hr.units) m_eq (dCon (ck := "Drain") (dVar 0) c_Drain kc_Drain_KIND.1.choose_spec) (dStr) (nomark _)) (dAnd1 (dTcmp op_gt m_gt (dVar 2) (dGI rfl k_UNITS_AT_ONCE) (nomark _))))) (dBone (dNever)) (dBnil)) (dBone (dRet (dMeth (ck := "Drain") (dVar 0) c_Drain t_Drain_share G_Drain_share (hr.mono (by decide)) B_Drain_share (dCons (dCall G_amounts_of (hr.mono (by decide)) rfl g_amounts_of F_amounts_of.kp B_amounts_of (dCons (dVar 1) (dNil))) (dCons (dVar 2) (dNil)))))))
theorem bi_wrong_key {K : PySem.W.Frag} {mg : Str → Option Value} (C : HF fa fn K mg) : Binds K (fdOf K (Pl.ad K (.glob "wrong_key"))) ["keys"] [] := (C.fun_ 35 (d := d_wrong_key) rfl).bindsN fun _ _ _ _ _ _ us hl => match us, hl with | [_], _ => rfl
theorem ok_wrong_key [PF : PSup P supF] (C : HF fa fn K mg) : FO cs P w K mg base 1 (.glob "wrong_key") ["keys"] 1 mf_wrong_key := by
  have f_enumerate := C.free 20 rfl
  have isi := isi_ok (C.fact 0 rfl)
  have f_str := C.free 1 rfl
  have f_isinstance := C.free 2 rfl
  have tx_KEYS := txts_ok C (C.fact 68 rfl)
  have sc := sc_wrong_key
  refine fn_mir (C.fun_ 35 (d := d_wrong_key) rfl) sc_wrong_key fun cdv A outer s H E p F0 hr => ?_
  exact dBcons (dFor PassesOwn.never rfl (dIenumA rfl f_enumerate (dCons (dVar 0) (dNil))) (dGt (n := 2) rfl (dGcons (dGn (i := 1) sc.nd rfl (by first | exact Or.inl rfl | exact Or.inr rfl)) (dGcons (dGn (i := 2) sc.nd rfl (by first | exact Or.inl rfl | exact Or.inr rfl)) (dGnil)))) (dBone (dIfS (PW.pt (dOrT (dNotT (dTst (dCallB (m_isi isi) call_isi rfl f_isinstance bb_isinstance (dCons (dVar 2) (dCons (dTy rfl f_str bb_str) (dNil)))))) (dOrT (dTcmp op_ninA m_nin (dVar 2) (dTxts (zs := ["most", "least", "wide", "narrow", "long", "short", "early", "late"]) rfl tx_KEYS.choose_spec.1 tx_KEYS.choose_spec.2) rfl) (dOr1 (dTcmp op_inA m_in (dVar 2) (dSl (dVar 0) (dOn) (dOs (dVar 1))) rfl))))) (dBone (dRet (dVar 1))) (dBnil)))) (dBone (dRet (dIf (dTcmp (op_eqD hr.units) m_eq (dVar 0) (dTup (dNil)) (nomark _)) (dInt) (dNon))))
theorem ok_Drain___base__ [PF : PSup P supF] (C : HF fa fn K mg) : FnR P w K mg base CX0 2 (Pl.ad K (.meth "Rule" "__init__")) (spIS (WW cs K) "Drain" mf_Drain___base__) := by
  have G_wrong_key := ok_wrong_key (P := P) (w := w) (base := base) C
  have F_wrong_key := C.fun_ 35 (d := d_wrong_key) rfl
  have B_wrong_key := bi_wrong_key C
  have g_wrong_key := C.glo 69 rfl
  have n_Drain_wishes := C.noat 60 rfl
  have c_Drain := C.cls 48 rfl
  have sc := sc_Drain___base__
  refine fn_initS (ck := "Drain") (nm := "self") (N := ["keys", "wrong"]) (pv := "keys") (C.fun_ 36 (d := d_Drain___base__) rfl) sc_Drain___base__ (fun kV doc pm an cdv ct => StX.bind_star1 (B := fun z => bindArgs (PySem.W.fnOf _ _ _ _ _ .none kV doc pm an cdv ct) ⟨z, []⟩) (p1 := "self") (pv := "keys") (fun _ => rfl) (fun _ _ _ => rfl)) fun cdv A outer s H E p F0 H0 sf hr => ?_
  exact dBcons (dSet (i := 2) sc.nd rfl (by first | exact Or.inl rfl | exact Or.inr rfl) (dCall G_wrong_key (hr.mono (by decide)) rfl g_wrong_key F_wrong_key.kp B_wrong_key (dCons (dVar 1) (dNil)))) (dBcons (dIfS (dTcmp op_isntA m_isnt (dVar 2) (dNon) (nomark _)) (dBone (dNever)) (dBnil)) (dBone (dSelfSet (ck := "Drain") 0 c_Drain n_Drain_wishes (dVar 1))))
theorem ok_Drain___init__ [PF : PSup P supF] (C : HF fa fn K mg) : FnR P w K mg base CX0 4 (Pl.ad K (.meth "Drain" "__init__")) (spIS (WW cs K) "Drain" mf_Drain___init__) :=
  Mi.fn_super (file := supF) (b := "Rule") (C.fact 70 rfl) (C.free 71 rfl) rfl (ok_Drain___base__ (P := P) (w := w) (base := base) C)
theorem bi_Units_share {K : PySem.W.Frag} {mg : Str → Option Value} (C : HF fa fn K mg) : Binds K (fdOf K (Pl.ad K (.meth "Units" "share"))) ["self", "amounts", "bill"] [] := (C.fun_ 37 (d := d_Units_share) rfl).bindsN fun _ _ _ _ _ _ us hl => match us, hl with | [_, _, _], _ => rfl
theorem ok_Units_share [PF : PSup P supF] (C : HF fa fn K mg) : FO cs P w K mg base 6 (.meth "Units" "share") ["self", "amounts", "bill"] 3 mf_Units_share := by
  have G_payment_by := ok_payment_by (P := P) (w := w) (base := base) C
  have F_payment_by := C.fun_ 28 (d := d_payment_by) rfl
  have B_payment_by := bi_payment_by C
  have n_Units_wishes := C.noat 76 rfl
  have c_Units := C.cls 75 rfl
  have kc_Units_KIND := con_ok (C.fact 74 rfl)
  have g_payment_by := C.glo 61 rfl
  have sc := sc_Units_share
  refine fn_mir (C.fun_ 37 (d := d_Units_share) rfl) sc_Units_share fun cdv A outer s H E p F0 hr => ?_
  exact dBone (dRet (dCall G_payment_by (hr.mono (by decide)) rfl g_payment_by F_payment_by.kp B_payment_by (dCons (dCon (ck := "Units") (dVar 0) c_Units kc_Units_KIND.1.choose_spec) (dCons (dFld (ck := "Units") (ks := ["wishes"]) 0 rfl (by decide) c_Units n_Units_wishes (dVar 0)) (dCons (dVar 1) (dCons (dVar 2) (dNil)))))))
theorem bi_Units___call__ {K : PySem.W.Frag} {mg : Str → Option Value} (C : HF fa fn K mg) : Binds K (fdOf K (Pl.ad K (.meth "Units" "__call__"))) ["self", "wallet", "bill"] [] := (C.fun_ 38 (d := d_Units___call__) rfl).bindsN fun _ _ _ _ _ _ us hl => match us, hl with | [_, _, _], _ => rfl
theorem ok_Units___call__ [PF : PSup P supF] (C : HF fa fn K mg) : FO cs P w K mg base 9 (.meth "Units" "__call__") ["self", "wallet", "bill"] 3 mf_Units___call__ := by
  have G_check_payable := ok_check_payable (P := P) (w := w) (base := base) C
  have F_check_payable := C.fun_ 20 (d := d_check_payable) rfl
  have B_check_payable := bi_check_payable C
  have g_check_payable := C.glo 46 rfl
  have kc_Units_KIND := con_ok (C.fact 74 rfl)
  have c_Units := C.cls 75 rfl
  obtain ⟨_, k_UNITS_AT_ONCE⟩ := C.int 49 rfl
  have G_Units_share := ok_Units_share (P := P) (w := w) (base := base) C
  have F_Units_share := C.fun_ 37 (d := d_Units_share) rfl
  have B_Units_share := bi_Units_share C
  have t_Units_share := C.meth 77 rfl
  have G_amounts_of := ok_amounts_of (P := P) (w := w) (base := base) C
  have F_amounts_of := C.fun_ 33 (d := d_amounts_of) rfl
  have B_amounts_of := bi_amounts_of C
  have g_amounts_of := C.glo 66 rfl
  have sc := sc_Units___call__
  refine fn_mir (C.fun_ 38 (d := d_Units___call__) rfl) sc_Units___call__ fun cdv A outer s H E p F0 hr => ?_
  exact dBcons (dExpr (dCall G_check_payable (hr.mono (by decide)) rfl g_check_payable F_check_payable.kp B_check_payable (dCons (dVar 1) (dCons (dVar 2) (dNil))))) (dBcons (dIfS (PW.pt (dAndT (dTcmp (op_eqD hr.units) m_eq (dCon (ck := "Units") (dVar 0) c_Units kc_Units_KIND.1.choose_spec) (dStr) (nomark _)) (dAnd1 (dTcmp op_gt m_gt (dVar 2) (dGI rfl k_UNITS_AT_ONCE) (nomark _))))) (dBone (dNever)) (dBnil)) (dBone (dRet (dMeth (ck := "Units") (dVar 0) c_Units t_Units_share G_Units_share (hr.mono (by decide)) B_Units_share (dCons (dCall G_amounts_of (hr.mono (by decide)) rfl g_amounts_of F_amounts_of.kp B_amounts_of (dCons (dVar 1) (dNil))) (dCons (dVar 2) (dNil)))))))
theorem bi_Spare_share {K : PySem.W.Frag} {mg : Str → Option Value} (C : HF fa fn K mg) : Binds K (fdOf K (Pl.ad K (.meth "Spare" "share"))) ["self", "amounts", "bill"] [] := (C.fun_ 39 (d := d_Spare_share) rfl).bindsN fun _ _ _ _ _ _ us hl => match us, hl with | [_, _, _], _ => rfl
theorem ok_Spare_share [PF : PSup P supF] (C : HF fa fn K mg) : FO cs P w K mg base 6 (.meth "Spare" "share") ["self", "amounts", "bill"] 3 mf_Spare_share := by
  have G_payment_by := ok_payment_by (P := P) (w := w) (base := base) C
  have F_payment_by := C.fun_ 28 (d := d_payment_by) rfl
  have B_payment_by := bi_payment_by C
  have n_Spare_wishes := C.noat 81 rfl
  have c_Spare := C.cls 80 rfl
  have kc_Spare_KIND := con_ok (C.fact 79 rfl)
  have g_payment_by := C.glo 61 rfl
  have sc := sc_Spare_share
  refine fn_mir (C.fun_ 39 (d := d_Spare_share) rfl) sc_Spare_share fun cdv A outer s H E p F0 hr => ?_
  exact dBone (dRet (dCall G_payment_by (hr.mono (by decide)) rfl g_payment_by F_payment_by.kp B_payment_by (dCons (dCon (ck := "Spare") (dVar 0) c_Spare kc_Spare_KIND.1.choose_spec) (dCons (dFld (ck := "Spare") (ks := ["wishes"]) 0 rfl (by decide) c_Spare n_Spare_wishes (dVar 0)) (dCons (dVar 1) (dCons (dVar 2) (dNil)))))))
theorem bi_Spare___call__ {K : PySem.W.Frag} {mg : Str → Option Value} (C : HF fa fn K mg) : Binds K (fdOf K (Pl.ad K (.meth "Spare" "__call__"))) ["self", "wallet", "bill"] [] := (C.fun_ 40 (d := d_Spare___call__) rfl).bindsN fun _ _ _ _ _ _ us hl => match us, hl with | [_, _, _], _ => rfl
theorem ok_Spare___call__ [PF : PSup P supF] (C : HF fa fn K mg) : FO cs P w K mg base 9 (.meth "Spare" "__call__") ["self", "wallet", "bill"] 3 mf_Spare___call__ := by
  have G_check_payable := ok_check_payable (P := P) (w := w) (base := base) C
  have F_check_payable := C.fun_ 20 (d := d_check_payable) rfl
  have B_check_payable := bi_check_payable C
  have g_check_payable := C.glo 46 rfl
  have kc_Spare_KIND := con_ok (C.fact 79 rfl)
  have c_Spare := C.cls 80 rfl
  obtain ⟨_, k_UNITS_AT_ONCE⟩ := C.int 49 rfl
  have G_Spare_share := ok_Spare_share (P := P) (w := w) (base := base) C
  have F_Spare_share := C.fun_ 39 (d := d_Spare_share) rfl
  have B_Spare_share := bi_Spare_share C
  have t_Spare_share := C.meth 82 rfl
  have G_amounts_of := ok_amounts_of (P := P) (w := w) (base := base) C
  have F_amounts_of := C.fun_ 33 (d := d_amounts_of) rfl
  have B_amounts_of := bi_amounts_of C
  have g_amounts_of := C.glo 66 rfl
  have sc := sc_Spare___call__
  refine fn_mir (C.fun_ 40 (d := d_Spare___call__) rfl) sc_Spare___call__ fun cdv A outer s H E p F0 hr => ?_
  exact dBcons (dExpr (dCall G_check_payable (hr.mono (by decide)) rfl g_check_payable F_check_payable.kp B_check_payable (dCons (dVar 1) (dCons (dVar 2) (dNil))))) (dBcons (dIfS (PW.pt (dAndT (dTcmp (op_eqD hr.units) m_eq (dCon (ck := "Spare") (dVar 0) c_Spare kc_Spare_KIND.1.choose_spec) (dStr) (nomark _)) (dAnd1 (dTcmp op_gt m_gt (dVar 2) (dGI rfl k_UNITS_AT_ONCE) (nomark _))))) (dBone (dNever)) (dBnil)) (dBone (dRet (dMeth (ck := "Spare") (dVar 0) c_Spare t_Spare_share G_Spare_share (hr.mono (by decide)) B_Spare_share (dCons (dCall G_amounts_of (hr.mono (by decide)) rfl g_amounts_of F_amounts_of.kp B_amounts_of (dCons (dVar 1) (dNil))) (dCons (dVar 2) (dNil)))))))
theorem bi__law_by_hand {K : PySem.W.Frag} {mg : Str → Option Value} (C : HF fa fn K mg) : Binds K (fdOf K (Pl.ad K (.glob "_law_by_hand"))) [] [] := (C.fun_ 41 (d := d__law_by_hand) rfl).bindsN fun _ _ _ _ _ _ us hl => match us, hl with | [], _ => rfl
theorem ok__law_by_hand [PF : PSup P supF] (C : HF fa fn K mg) : FO cs P w K mg base 10 (.glob "_law_by_hand") [] 0 mf__law_by_hand := by
  have G_Wallet_read := ok_Wallet_read (P := P) (w := w) (base := base) C
  have F_Wallet_read := C.fun_ 10 (d := d_Wallet_read) rfl
  have B_Wallet_read := bi_Wallet_read C
  have cm_Wallet_read := clsm_ok (C.fact 31 rfl)
  have g_Wallet := C.glo 29 rfl
  have G_Drain___call__ := ok_Drain___call__ (P := P) (w := w) (base := base) C
  have F_Drain___call__ := C.fun_ 34 (d := d_Drain___call__) rfl
  have B_Drain___call__ := bi_Drain___call__ C
  have co_Drain := call_ok' (C.fact 67 rfl)
  have G_Drain___init__ := ok_Drain___init__ (P := P) (w := w) (base := base) C
  have m_Drain := C.mkr 72 rfl
  have g_Drain := C.glo 73 rfl
  have G_Units___call__ := ok_Units___call__ (P := P) (w := w) (base := base) C
  have F_Units___call__ := C.fun_ 38 (d := d_Units___call__) rfl
  have B_Units___call__ := bi_Units___call__ C
  have co_Units := call_ok' (C.fact 78 rfl)
  have G_Spare___call__ := ok_Spare___call__ (P := P) (w := w) (base := base) C
  have F_Spare___call__ := C.fun_ 40 (d := d_Spare___call__) rfl
  have B_Spare___call__ := bi_Spare___call__ C
  have co_Spare := call_ok' (C.fact 83 rfl)
  have G_Wallet___init__ := ok_Wallet___init__ (P := P) (w := w) (base := base) C
  have F_Wallet___init__ := C.fun_ 8 (d := d_Wallet___init__) rfl
  have B_Wallet___init__ := bi_Wallet___init__ C
  have m_Wallet := C.mkr 28 rfl
  have sc := sc__law_by_hand
  refine fn_mir (C.fun_ 41 (d := d__law_by_hand) rfl) sc__law_by_hand fun cdv A outer s H E p F0 hr => ?_
  exact dBcons (dSet (i := 0) sc.nd rfl (by first | exact Or.inl rfl | exact Or.inr rfl) (dCMet1 (ck := "Wallet") hc_Wallet (dGC (k := "Wallet") hc_Wallet rfl g_Wallet) cm_Wallet_read G_Wallet_read (hr.mono (by decide)) B_Wallet_read (dCons (dStr) (dNil)))) (dBcons (dSet (i := 1) sc.nd rfl (by first | exact Or.inl rfl | exact Or.inr rfl) (dFz (dLstO (dCons (dFz (dLstO (dCons (dStr) (dCons (dTup (dCons (dInt) (dCons (dInt) (dCons (dInt) (dNil))))) (dNil))))) (dCons (dFz (dLstO (dCons (dStr) (dCons (dTup (dCons (dInt) (dCons (dInt) (dCons (dInt) (dNil))))) (dNil))))) (dCons (dFz (dLstO (dCons (dStr) (dCons (dTup (dCons (dInt) (dCons (dInt) (dCons (dInt) (dNil))))) (dNil))))) (dCons (dFz (dLstO (dCons (dStr) (dCons (dTup (dCons (dInt) (dCons (dInt) (dCons (dInt) (dNil))))) (dNil))))) (dNil)))))))) (dBcons (dSet (i := 1) sc.nd rfl (by first | exact Or.inl rfl | exact Or.inr rfl) (dBin op_addA m_add (dVar 1) (dFz (dLstO (dCons (dFz (dLstO (dCons (dStr) (dCons (dTup (dCons (dInt) (dCons (dInt) (dCons (dInt) (dNil))))) (dNil))))) (dCons (dFz (dLstO (dCons (dStr) (dCons (dTup (dCons (dInt) (dCons (dInt) (dCons (dInt) (dNil))))) (dNil))))) (dCons (dFz (dLstO (dCons (dStr) (dCons (dTup (dCons (dInt) (dCons (dInt) (dCons (dInt) (dNil))))) (dNil))))) (dCons (dFz (dLstO (dCons (dStr) (dCons (dTup (dCons (dInt) (dCons (dInt) (dCons (dInt) (dNil))))) (dNil))))) (dNil))))))))) (dBcons (dFor PassesOwn.never rfl (dIany (dVar 1)) (dGl (n := 2) rfl (dGcons (dGn (i := 2) sc.nd rfl (by first | exact Or.inl rfl | exact Or.inr rfl)) (dGcons (dGn (i := 3) sc.nd rfl (by first | exact Or.inl rfl | exact Or.inr rfl)) (dGnil)))) (dBone (dIfS (dTcmp (op_neD hr.units) m_ne (dCallO (ck := "Drain") (dMakeS (ck := "Drain") hc_Drain m_Drain G_Drain___init__ (hr.mono (by decide)) rfl g_Drain (dCons (dVar 2) (dNil))) co_Drain G_Drain___call__ (hr.mono (by decide)) B_Drain___call__ (dCons (dVar 0) (dCons (dInt) (dNil)))) (dVar 3) (nomark _)) (dBone (dRet (dBl))) (dBnil)))) (dBcons (dFor PassesOwn.never rfl (dIany (dFz (dLstO (dCons (dMakeS (ck := "Drain") hc_Drain m_Drain G_Drain___init__ (hr.mono (by decide)) rfl g_Drain (dCons (dStr) (dCons (dStr) (dNil)))) (dCons (dMakeS (ck := "Drain") hc_Drain m_Drain G_Drain___init__ (hr.mono (by decide)) rfl g_Drain (dCons (dStr) (dCons (dStr) (dNil)))) (dNil)))))) (dGn (i := 4) sc.nd rfl (by first | exact Or.inl rfl | exact Or.inr rfl)) (dBone (dIfS (dTcmp (op_neD hr.units) m_ne (dCls3 (dCallO (ck := "Drain") (dVar 4) co_Drain G_Drain___call__ (hr.mono (by decide)) B_Drain___call__ (dCons (dVar 0) (dCons (dInt) (dNil)))) (dCallO (ck := "Units") (dVar 4) co_Units G_Units___call__ (hr.mono (by decide)) B_Units___call__ (dCons (dVar 0) (dCons (dInt) (dNil)))) (dCallO (ck := "Spare") (dVar 4) co_Spare G_Spare___call__ (hr.mono (by decide)) B_Spare___call__ (dCons (dVar 0) (dCons (dInt) (dNil))))) (dTup (dCons (dInt) (dCons (dInt) (dCons (dInt) (dNil))))) (nomark _)) (dBone (dRet (dBl))) (dBnil)))) (dBcons (dSet (i := 4) sc.nd rfl (by first | exact Or.inl rfl | exact Or.inr rfl) (dMakeS (ck := "Drain") hc_Drain m_Drain G_Drain___init__ (hr.mono (by decide)) rfl g_Drain (dCons (dStr) (dNil)))) (dBone (dRet (dAndV (dCmp (op_eqD hr.units) m_eq (dCallO (ck := "Drain") (dVar 4) co_Drain G_Drain___call__ (hr.mono (by decide)) B_Drain___call__ (dCons (dMake (ck := "Wallet") hc_Wallet m_Wallet G_Wallet___init__ (hr.mono (by decide)) rfl g_Wallet B_Wallet___init__ (dCons (dTup (dNil)) (dNil))) (dCons (dInt) (dNil)))) (dTup (dNil)) (nomark _)) (dOneV (dCmp (op_eqD hr.units) m_eq (dCallO (ck := "Drain") (dVar 4) co_Drain G_Drain___call__ (hr.mono (by decide)) B_Drain___call__ (dCons (dVar 0) (dCons (dInt) (dNil)))) (dTup (dCons (dInt) (dCons (dInt) (dCons (dInt) (dNil))))) (nomark _)))))))))))
theorem bi__law_draw {K : PySem.W.Frag} {mg : Str → Option Value} (C : HF fa fn K mg) : Binds K (fdOf K (Pl.ad K (.glob "_law_draw"))) ["_law_pool", "_law_many"] [] := (C.fun_ 42 (d := d__law_draw) rfl).bindsN fun _ _ _ _ _ _ us hl => match us, hl with | [_, _], _ => rfl
theorem ok__law_draw [PF : PSup P supF] (C : HF fa fn K mg) : FO cs P w K mg base 1 (.glob "_law_draw") ["_law_pool", "_law_many"] 2 mf__law_draw := by
  have f_int := C.free 5 rfl
  have f_divmod := C.free 86 rfl
  have sc := sc__law_draw
  refine fn_mir (C.fun_ 42 (d := d__law_draw) rfl) sc__law_draw fun cdv A outer s H E p F0 hr => ?_
  exact dBcons (dPutP 0 (dBin op_addA m_add (dIxP 0 (dInt)) (dInt)) (dInt)) (dBcons (dPutP 0 (dBin op_mod m_mod (dCallT m_int1 call_int1 rfl f_int bb_int (dCons (dBin op_addA m_add (dBin op_addA m_add (dBin op_mulA m_mul (dIxP 0 (dInt)) (dInt)) (dBin op_mulA m_mul (dIxP 0 (dInt)) (dInt))) (dInt)) (dNil))) (dInt)) (dInt)) (dBcons (dPutP 0 (dBin op_mod m_mod (dCallT m_int1 call_int1 rfl f_int bb_int (dCons (dBin op_addA m_add (dBin op_mulA m_mul (dIxP 0 (dInt)) (dInt)) (dBin op_mulA m_mul (dBin op_fdivW m_fdiv (dCallT m_int1 call_int1 rfl f_int bb_int (dCons (dIxP 0 (dInt)) (dNil))) (dInt)) (dInt))) (dNil))) (dInt)) (dInt)) (dBcons (dIfS (dTcmp op_gt m_gt (dIxP 0 (dInt)) (dInt) (nomark _)) (dBcons (dDmP 0 2 rfl (dCallB m_dm call_divmodW rfl f_divmod bb_divmod (dCons (dIxP 0 (dInt)) (dCons (dVar 1) (dNil)))) (dInt) sc.nd rfl (by first | exact Or.inl rfl | exact Or.inr rfl)) (dBone (dRet (dVar 2)))) (dBnil)) (dBone (dRet (dBin op_mod m_mod (dCallT m_int1 call_int1 rfl f_int bb_int (dCons (dBin op_addA m_add (dIxP 0 (dInt)) (dBin op_fdivW m_fdiv (dBin op_mulA m_mul (dIxP 0 (dInt)) (dInt)) (dInt))) (dNil))) (dVar 1)))))))
theorem bi__law_some_alike {K : PySem.W.Frag} {mg : Str → Option Value} (C : HF fa fn K mg) : Binds K (fdOf K (Pl.ad K (.glob "_law_some_alike"))) ["_law_pool", "_law_amounts"] [] := (C.fun_ 43 (d := d__law_some_alike) rfl).bindsN fun _ _ _ _ _ _ us hl => match us, hl with | [_, _], _ => rfl
theorem ok__law_some_alike [PF : PSup P supF] (C : HF fa fn K mg) : FO cs P w K mg base 2 (.glob "_law_some_alike") ["_law_pool", "_law_amounts"] 2 mf__law_some_alike := by
  have f_len := C.free 7 rfl
  have G__law_draw := ok__law_draw (P := P) (w := w) (base := base) C
  have F__law_draw := C.fun_ 42 (d := d__law_draw) rfl
  have B__law_draw := bi__law_draw C
  have g__law_draw := C.glo 87 rfl
  have sc := sc__law_some_alike
  refine fn_mir (C.fun_ 43 (d := d__law_some_alike) rfl) sc__law_some_alike fun cdv A outer s H E p F0 hr => ?_
  exact dBcons (dIfS (dTcmp op_lt m_lt (dCallB m_len call_lenA rfl f_len bb_len (dCons (dVar 1) (dNil))) (dInt) (nomark _)) (dBone (dRet (dVar 1))) (dBnil)) (dBcons (dPar (i := 2) (j := 3) rfl sc.nd rfl rfl (by decide) rfl rfl (dMsh (dCall G__law_draw (hr.mono (by decide)) rfl g__law_draw F__law_draw.kp B__law_draw (dCons (dVar 0) (dCons (dCallB m_len call_lenA rfl f_len bb_len (dCons (dVar 1) (dNil))) (dNil)))) (dMsh (dCall G__law_draw (hr.mono (by decide)) rfl g__law_draw F__law_draw.kp B__law_draw (dCons (dVar 0) (dCons (dCallB m_len call_lenA rfl f_len bb_len (dCons (dVar 1) (dNil))) (dNil)))) (dMnil)))) (dBcons (dSet (i := 4) sc.nd rfl (by first | exact Or.inl rfl | exact Or.inr rfl) (dCall G__law_draw (hr.mono (by decide)) rfl g__law_draw F__law_draw.kp B__law_draw (dCons (dVar 0) (dCons (dInt) (dNil))))) (dBcons (dSet (i := 5) sc.nd rfl (by first | exact Or.inl rfl | exact Or.inr rfl) (dIx ix_seq m_ix (dFz (dLstO (dCons (dTup (dCons (dIx ix_seq m_ix (dIx ix_seq m_ix (dVar 1) (dVar 2)) (dInt)) (dCons (dIx ix_seq m_ix (dIx ix_seq m_ix (dVar 1) (dVar 3)) (dInt)) (dNil)))) (dCons (dTup (dCons (dIx ix_seq m_ix (dIx ix_seq m_ix (dVar 1) (dVar 3)) (dInt)) (dCons (dIx ix_seq m_ix (dIx ix_seq m_ix (dVar 1) (dVar 2)) (dInt)) (dNil)))) (dCons (dIx ix_seq m_ix (dVar 1) (dVar 2)) (dNil)))))) (dVar 4))) (dBcons (dIfS (dTcmp op_gt m_gt (dIx ix_seq m_ix (dVar 5) (dInt)) (dBin op_mulA m_mul (dInt) (dIx ix_seq m_ix (dVar 5) (dInt))) (nomark _)) (dBone (dRet (dVar 1))) (dBnil)) (dBone (dRet (dBin op_addA m_add (dBin op_addA m_add (dSl (dVar 1) (dOn) (dOs (dVar 3))) (dFz (dLstO (dCons (dVar 5) (dNil))))) (dSl (dVar 1) (dOs (dBin op_addA m_add (dVar 3) (dInt))) (dOn)))))))))
theorem bi__law_drawn_small {K : PySem.W.Frag} {mg : Str → Option Value} (C : HF fa fn K mg) : Binds K (fdOf K (Pl.ad K (.glob "_law_drawn_small"))) ["_law_pool", "_law_many", "_law_most"] [] := (C.fun_ 44 (d := d__law_drawn_small) rfl).bindsN fun _ _ _ _ _ _ us hl => match us, hl with | [_, _, _], _ => rfl
theorem ok__law_drawn_small [PF : PSup P supF] (C : HF fa fn K mg) : FO cs P w K mg base 2 (.glob "_law_drawn_small") ["_law_pool", "_law_many", "_law_most"] 3 mf__law_drawn_small := by
  have G__law_draw := ok__law_draw (P := P) (w := w) (base := base) C
  have F__law_draw := C.fun_ 42 (d := d__law_draw) rfl
  have B__law_draw := bi__law_draw C
  have g__law_draw := C.glo 87 rfl
  have f_range := C.free 50 rfl
  have f_min := C.free 40 rfl
  have sc := sc__law_drawn_small
  refine fn_mir (C.fun_ 44 (d := d__law_drawn_small) rfl) sc__law_drawn_small fun cdv A outer s H E p F0 hr => ?_
  exact dBcons (dPar (i := 3) (j := 4) rfl sc.nd rfl rfl (by decide) rfl rfl (dMow (dLstO (dNil)) (dMsh (dVar 2) (dMnil)))) (dBcons (dFor PassesOwn.never rfl (dIrng1 rfl f_range (dCons (dCall G__law_draw (hr.mono (by decide)) rfl g__law_draw F__law_draw.kp B__law_draw (dCons (dVar 0) (dCons (dBin op_addA m_add (dVar 1) (dInt)) (dNil)))) (dNil))) (dGn (i := 5) sc.nd rfl (by first | exact Or.inl rfl | exact Or.inr rfl)) (dBcons (dSet (i := 6) sc.nd rfl (by first | exact Or.inl rfl | exact Or.inr rfl) (dCall G__law_draw (hr.mono (by decide)) rfl g__law_draw F__law_draw.kp B__law_draw (dCons (dVar 0) (dCons (dBin op_addA m_add (dCallB m_min (cr_minA rfl) rfl f_min bb_min (dCons (dVar 4) (dCons (dInt) (dNil)))) (dInt)) (dNil))))) (dBcons (dApp 3 (dTup (dCons (dVar 6) (dCons (dBin op_addA m_add (dInt) (dCall G__law_draw (hr.mono (by decide)) rfl g__law_draw F__law_draw.kp B__law_draw (dCons (dVar 0) (dCons (dInt) (dNil))))) (dNil))))) (dBone (dSet (i := 4) sc.nd rfl (by first | exact Or.inl rfl | exact Or.inr rfl) (dBin op_sub m_sub (dVar 4) (dVar 6))))))) (dBone (dFrzS 3 (dRet (dVar 3)))))
theorem bi__law_drawn_large {K : PySem.W.Frag} {mg : Str → Option Value} (C : HF fa fn K mg) : Binds K (fdOf K (Pl.ad K (.glob "_law_drawn_large"))) ["_law_pool"] [] := (C.fun_ 45 (d := d__law_drawn_large) rfl).bindsN fun _ _ _ _ _ _ us hl => match us, hl with | [_], _ => rfl
theorem ok__law_drawn_large [PF : PSup P supF] (C : HF fa fn K mg) : FO cs P w K mg base 2 (.glob "_law_drawn_large") ["_law_pool"] 1 mf__law_drawn_large := by
  have G__law_draw := ok__law_draw (P := P) (w := w) (base := base) C
  have F__law_draw := C.fun_ 42 (d := d__law_draw) rfl
  have B__law_draw := bi__law_draw C
  have g__law_draw := C.glo 87 rfl
  have f_range := C.free 50 rfl
  have sc := sc__law_drawn_large
  refine fn_mir (C.fun_ 45 (d := d__law_drawn_large) rfl) sc__law_drawn_large fun cdv A outer s H E p F0 hr => ?_
  exact dBcons (dSet (i := 1) sc.nd rfl (by first | exact Or.inl rfl | exact Or.inr rfl) (dInt)) (dBcons (dFor PassesOwn.never rfl (dIrng1 rfl f_range (dCons (dIx ix_seq m_ix (dFz (dLstO (dCons (dInt) (dCons (dInt) (dCons (dInt) (dCons (dInt) (dNil))))))) (dCall G__law_draw (hr.mono (by decide)) rfl g__law_draw F__law_draw.kp B__law_draw (dCons (dVar 0) (dCons (dInt) (dNil))))) (dNil))) (dGn (i := 2) sc.nd rfl (by first | exact Or.inl rfl | exact Or.inr rfl)) (dBone (dSet (i := 1) sc.nd rfl (by first | exact Or.inl rfl | exact Or.inr rfl) (dBin op_addA m_add (dBin op_mulA m_mul (dVar 1) (dBin op_pow m_pow (dInt) (dInt))) (dCall G__law_draw (hr.mono (by decide)) rfl g__law_draw F__law_draw.kp B__law_draw (dCons (dVar 0) (dCons (dBin op_pow m_pow (dInt) (dInt)) (dNil)))))))) (dBone (dRet (dVar 1))))
theorem bi__law_drawn_great {K : PySem.W.Frag} {mg : Str → Option Value} (C : HF fa fn K mg) : Binds K (fdOf K (Pl.ad K (.glob "_law_drawn_great"))) ["_law_pool", "_law_many"] [] := (C.fun_ 46 (d := d__law_drawn_great) rfl).bindsN fun _ _ _ _ _ _ us hl => match us, hl with | [_, _], _ => rfl
theorem ok__law_drawn_great [PF : PSup P supF] (C : HF fa fn K mg) : FO cs P w K mg base 3 (.glob "_law_drawn_great") ["_law_pool", "_law_many"] 2 mf__law_drawn_great := by
  have G__law_draw := ok__law_draw (P := P) (w := w) (base := base) C
  have F__law_draw := C.fun_ 42 (d := d__law_draw) rfl
  have B__law_draw := bi__law_draw C
  have g__law_draw := C.glo 87 rfl
  have f_range := C.free 50 rfl
  have G__law_drawn_large := ok__law_drawn_large (P := P) (w := w) (base := base) C
  have F__law_drawn_large := C.fun_ 45 (d := d__law_drawn_large) rfl
  have B__law_drawn_large := bi__law_drawn_large C
  have g__law_drawn_large := C.glo 89 rfl
  have f_min := C.free 40 rfl
  have sc := sc__law_drawn_great
  refine fn_mir (C.fun_ 46 (d := d__law_drawn_great) rfl) sc__law_drawn_great fun cdv A outer s H E p F0 hr => ?_
  exact dBcons (dSetO (i := 2) sc.nd rfl (by first | exact Or.inl rfl | exact Or.inr rfl) (dLstO (dNil))) (dBcons (dFor PassesOwn.never rfl (dIrng1 rfl f_range (dCons (dCall G__law_draw (hr.mono (by decide)) rfl g__law_draw F__law_draw.kp B__law_draw (dCons (dVar 0) (dCons (dBin op_addA m_add (dVar 1) (dInt)) (dNil)))) (dNil))) (dGn (i := 3) sc.nd rfl (by first | exact Or.inl rfl | exact Or.inr rfl)) (dBcons (dSet (i := 4) sc.nd rfl (by first | exact Or.inl rfl | exact Or.inr rfl) (dBin op_addA m_add (dInt) (dIf (dTcmp op_gt m_gt (dCall G__law_draw (hr.mono (by decide)) rfl g__law_draw F__law_draw.kp B__law_draw (dCons (dVar 0) (dCons (dInt) (dNil)))) (dInt) (nomark _)) (dCall G__law_drawn_large (hr.mono (by decide)) rfl g__law_drawn_large F__law_drawn_large.kp B__law_drawn_large (dCons (dVar 0) (dNil))) (dCall G__law_draw (hr.mono (by decide)) rfl g__law_draw F__law_draw.kp B__law_draw (dCons (dVar 0) (dCons (dInt) (dNil))))))) (dBcons (dSet (i := 5) sc.nd rfl (by first | exact Or.inl rfl | exact Or.inr rfl) (dIx ix_seq m_ix (dFz (dLstO (dCons (dInt) (dCons (dInt) (dCons (dBin op_sub m_sub (dVar 4) (dInt)) (dCons (dBin op_fdivW m_fdiv (dVar 4) (dInt)) (dCons (dCall G__law_drawn_large (hr.mono (by decide)) rfl g__law_drawn_large F__law_drawn_large.kp B__law_drawn_large (dCons (dVar 0) (dNil))) (dNil)))))))) (dCall G__law_draw (hr.mono (by decide)) rfl g__law_draw F__law_draw.kp B__law_draw (dCons (dVar 0) (dCons (dInt) (dNil)))))) (dBone (dApp 2 (dTup (dCons (dBin op_addA m_add (dBin op_mulA m_mul (dCall G__law_draw (hr.mono (by decide)) rfl g__law_draw F__law_draw.kp B__law_draw (dCons (dVar 0) (dCons (dInt) (dNil)))) (dVar 4)) (dCallB m_min (cr_minA rfl) rfl f_min bb_min (dCons (dVar 5) (dCons (dVar 4) (dNil))))) (dCons (dVar 4) (dNil))))))))) (dBone (dFrzS 2 (dRet (dVar 2)))))
theorem bi__law_pick {K : PySem.W.Frag} {mg : Str → Option Value} (C : HF fa fn K mg) : Binds K (fdOf K (Pl.ad K (.glob "_law_pick"))) ["_law_pool", "_law_menu"] [] := (C.fun_ 47 (d := d__law_pick) rfl).bindsN fun _ _ _ _ _ _ us hl => match us, hl with | [_, _], _ => rfl
theorem ok__law_pick [PF : PSup P supF] (C : HF fa fn K mg) : FO cs P w K mg base 2 (.glob "_law_pick") ["_law_pool", "_law_menu"] 2 mf__law_pick := by
  have G__law_draw := ok__law_draw (P := P) (w := w) (base := base) C
  have F__law_draw := C.fun_ 42 (d := d__law_draw) rfl
  have B__law_draw := bi__law_draw C
  have f_len := C.free 7 rfl
  have g__law_draw := C.glo 87 rfl
  have sc := sc__law_pick
  refine fn_mir (C.fun_ 47 (d := d__law_pick) rfl) sc__law_pick fun cdv A outer s H E p F0 hr => ?_
  exact dBone (dRet (dIx ix_seq m_ix (dVar 1) (dCall G__law_draw (hr.mono (by decide)) rfl g__law_draw F__law_draw.kp B__law_draw (dCons (dVar 0) (dCons (dCallB m_len call_lenA rfl f_len bb_len (dCons (dVar 1) (dNil))) (dNil))))))
theorem bi__law_drawn_amounts {K : PySem.W.Frag} {mg : Str → Option Value} (C : HF fa fn K mg) : Binds K (fdOf K (Pl.ad K (.glob "_law_drawn_amounts"))) ["_law_pool"] [] := (C.fun_ 48 (d := d__law_drawn_amounts) rfl).bindsN fun _ _ _ _ _ _ us hl => match us, hl with | [_], _ => rfl
theorem ok__law_drawn_amounts [PF : PSup P supF] (C : HF fa fn K mg) : FO cs P w K mg base 4 (.glob "_law_drawn_amounts") ["_law_pool"] 1 mf__law_drawn_amounts := by
  have G__law_draw := ok__law_draw (P := P) (w := w) (base := base) C
  have F__law_draw := C.fun_ 42 (d := d__law_draw) rfl
  have B__law_draw := bi__law_draw C
  have g__law_draw := C.glo 87 rfl
  have G__law_drawn_small := ok__law_drawn_small (P := P) (w := w) (base := base) C
  have F__law_drawn_small := C.fun_ 44 (d := d__law_drawn_small) rfl
  have B__law_drawn_small := bi__law_drawn_small C
  have g__law_drawn_small := C.glo 88 rfl
  have G__law_drawn_great := ok__law_drawn_great (P := P) (w := w) (base := base) C
  have F__law_drawn_great := C.fun_ 46 (d := d__law_drawn_great) rfl
  have B__law_drawn_great := bi__law_drawn_great C
  have G__law_pick := ok__law_pick (P := P) (w := w) (base := base) C
  have F__law_pick := C.fun_ 47 (d := d__law_pick) rfl
  have B__law_pick := bi__law_pick C
  have g__law_pick := C.glo 90 rfl
  have g__law_drawn_great := C.glo 91 rfl
  have sc := sc__law_drawn_amounts
  refine fn_mir (C.fun_ 48 (d := d__law_drawn_amounts) rfl) sc__law_drawn_amounts fun cdv A outer s H E p F0 hr => ?_
  exact dBcons (dIfS (dTcmp (op_eqD hr.units) m_eq (dCall G__law_draw (hr.mono (by decide)) rfl g__law_draw F__law_draw.kp B__law_draw (dCons (dVar 0) (dCons (dInt) (dNil)))) (dInt) (nomark _)) (dBone (dRet (dCall G__law_drawn_small (hr.mono (by decide)) rfl g__law_drawn_small F__law_drawn_small.kp B__law_drawn_small (dCons (dVar 0) (dCons (dInt) (dCons (dInt) (dNil))))))) (dBnil)) (dBone (dRet (dCall G__law_drawn_great (hr.mono (by decide)) rfl g__law_drawn_great F__law_drawn_great.kp B__law_drawn_great (dCons (dVar 0) (dCons (dCall G__law_pick (hr.mono (by decide)) rfl g__law_pick F__law_pick.kp B__law_pick (dCons (dVar 0) (dCons (dFz (dLstO (dCons (dInt) (dCons (dInt) (dCons (dInt) (dCons (dInt) (dCons (dInt) (dNil)))))))) (dNil)))) (dNil))))))
theorem bi__law_drawn_name {K : PySem.W.Frag} {mg : Str → Option Value} (C : HF fa fn K mg) : Binds K (fdOf K (Pl.ad K (.glob "_law_drawn_name"))) ["_law_pool"] [] := (C.fun_ 49 (d := d__law_drawn_name) rfl).bindsN fun _ _ _ _ _ _ us hl => match us, hl with | [_], _ => rfl
theorem ok__law_drawn_name [PF : PSup P supF] (C : HF fa fn K mg) : FO cs P w K mg base 2 (.glob "_law_drawn_name") ["_law_pool"] 1 mf__law_drawn_name := by
  have G__law_draw := ok__law_draw (P := P) (w := w) (base := base) C
  have F__law_draw := C.fun_ 42 (d := d__law_draw) rfl
  have B__law_draw := bi__law_draw C
  have g__law_draw := C.glo 87 rfl
  have f_range := C.free 50 rfl
  have sc := sc__law_drawn_name
  refine fn_mir (C.fun_ 49 (d := d__law_drawn_name) rfl) sc__law_drawn_name fun cdv A outer s H E p F0 hr => ?_
  exact dBcons (dSet (i := 1) sc.nd rfl (by first | exact Or.inl rfl | exact Or.inr rfl) (dStr)) (dBcons (dSet (i := 2) sc.nd rfl (by first | exact Or.inl rfl | exact Or.inr rfl) (dIx ix_seq m_ix (dVar 1) (dCall G__law_draw (hr.mono (by decide)) rfl g__law_draw F__law_draw.kp B__law_draw (dCons (dVar 0) (dCons (dInt) (dNil)))))) (dBcons (dFor PassesOwn.never rfl (dIrng1 rfl f_range (dCons (dIx ix_seq m_ix (dFz (dLstO (dCons (dInt) (dCons (dInt) (dCons (dInt) (dCons (dInt) (dNil))))))) (dCall G__law_draw (hr.mono (by decide)) rfl g__law_draw F__law_draw.kp B__law_draw (dCons (dVar 0) (dCons (dInt) (dNil))))) (dNil))) (dGn (i := 3) sc.nd rfl (by first | exact Or.inl rfl | exact Or.inr rfl)) (dBone (dSet (i := 2) sc.nd rfl (by first | exact Or.inl rfl | exact Or.inr rfl) (dBin op_addA m_add (dVar 2) (dIx ix_seq m_ix (dVar 1) (dCall G__law_draw (hr.mono (by decide)) rfl g__law_draw F__law_draw.kp B__law_draw (dCons (dVar 0) (dCons (dInt) (dNil))))))))) (dBone (dRet (dVar 2)))))
theorem bi__law_drawn_names {K : PySem.W.Frag} {mg : Str → Option Value} (C : HF fa fn K mg) : Binds K (fdOf K (Pl.ad K (.glob "_law_drawn_names"))) ["_law_pool", "_law_many"] [] := (C.fun_ 50 (d := d__law_drawn_names) rfl).bindsN fun _ _ _ _ _ _ us hl => match us, hl with | [_, _], _ => rfl
theorem ok__law_drawn_names [PF : PSup P supF] (C : HF fa fn K mg) : FO cs P w K mg base 3 (.glob "_law_drawn_names") ["_law_pool", "_law_many"] 2 mf__law_drawn_names := by
  have f_range := C.free 50 rfl
  have G__law_drawn_name := ok__law_drawn_name (P := P) (w := w) (base := base) C
  have F__law_drawn_name := C.fun_ 49 (d := d__law_drawn_name) rfl
  have B__law_drawn_name := bi__law_drawn_name C
  have g__law_drawn_name := C.glo 94 rfl
  have sc := sc__law_drawn_names
  refine fn_mir (C.fun_ 50 (d := d__law_drawn_names) rfl) sc__law_drawn_names fun cdv A outer s H E p F0 hr => ?_
  exact dBcons (dSetO (i := 2) sc.nd rfl (by first | exact Or.inl rfl | exact Or.inr rfl) (dLstO (dNil))) (dBcons (dFor PassesOwn.never rfl (dIrng1 rfl f_range (dCons (dVar 1) (dNil))) (dGn (i := 3) sc.nd rfl (by first | exact Or.inl rfl | exact Or.inr rfl)) (dBcons (dSet (i := 4) sc.nd rfl (by first | exact Or.inl rfl | exact Or.inr rfl) (dCall G__law_drawn_name (hr.mono (by decide)) rfl g__law_drawn_name F__law_drawn_name.kp B__law_drawn_name (dCons (dVar 0) (dNil)))) (dBcons (dLcSet 5 [2] (own := [("_law_sign", 6)]) rfl sc.nd rfl rfl (sw_true rfl rfl rfl (by kernel_rfl)) (dIany (dStr)) (blkOk_by (by kernel_rfl)) (fun _ _ _ _ _ => dGn (i := 6) sc.nd rfl (by first | exact Or.inl rfl | exact Or.inr rfl)) (fun _ _ _ _ _ => pts_one (dTcmp op_ninA m_nin (dVar 6) (dVar 2) rfl)) (fun _ _ _ _ _ => dVar 6)) (dBone (dApp 2 (dBor 2 (dIf (dTcmp op_inA m_in (dVar 4) (dVar 2) rfl) (dIx ix_seq m_ix (dVar 5) (dInt)) (dVar 4)))))))) (dBone (dFrzS 2 (dRet (dVar 2)))))
theorem bi__law_drawn_keys {K : PySem.W.Frag} {mg : Str → Option Value} (C : HF fa fn K mg) : Binds K (fdOf K (Pl.ad K (.glob "_law_drawn_keys"))) ["_law_pool", "_law_many"] [] := (C.fun_ 51 (d := d__law_drawn_keys) rfl).bindsN fun _ _ _ _ _ _ us hl => match us, hl with | [_, _], _ => rfl
theorem ok__law_drawn_keys [PF : PSup P supF] (C : HF fa fn K mg) : FO cs P w K mg base 2 (.glob "_law_drawn_keys") ["_law_pool", "_law_many"] 2 mf__law_drawn_keys := by
  have f_range := C.free 50 rfl
  have G__law_draw := ok__law_draw (P := P) (w := w) (base := base) C
  have F__law_draw := C.fun_ 42 (d := d__law_draw) rfl
  have B__law_draw := bi__law_draw C
  have f_len := C.free 7 rfl
  have g__law_draw := C.glo 87 rfl
  have sc := sc__law_drawn_keys
  refine fn_mir (C.fun_ 51 (d := d__law_drawn_keys) rfl) sc__law_drawn_keys fun cdv A outer s H E p F0 hr => ?_
  exact dBcons (dPar (i := 2) (j := 3) rfl sc.nd rfl rfl (by decide) rfl rfl (dMow (dLstO (dCons (dStr) (dCons (dStr) (dCons (dStr) (dCons (dStr) (dCons (dStr) (dCons (dStr) (dCons (dStr) (dCons (dStr) (dNil)))))))))) (dMow (dLstO (dNil)) (dMnil)))) (dBcons (dFor PassesOwn.never rfl (dIrng1 rfl f_range (dCons (dVar 1) (dNil))) (dGn (i := 4) sc.nd rfl (by first | exact Or.inl rfl | exact Or.inr rfl)) (dBone (dAppPop 3 2 (by decide) (dCall G__law_draw (hr.mono (by decide)) rfl g__law_draw F__law_draw.kp B__law_draw (dCons (dVar 0) (dCons (dLenO 2 rfl f_len) (dNil))))))) (dBone (dFrzS 3 (dRet (dVar 3)))))
theorem bi__law_made_shutet {K : PySem.W.Frag} {mg : Str → Option Value} (C : HF fa fn K mg) : Binds K (fdOf K (Pl.ad K (.glob "_law_made_shutet"))) ["_law_names", "_law_amounts"] [] := (C.fun_ 52 (d := d__law_made_shutet) rfl).bindsN fun _ _ _ _ _ _ us hl => match us, hl with | [_, _], _ => rfl
theorem ok__law_made_shutet [PF : PSup P supF] (C : HF fa fn K mg) : FO cs P w K mg base 5 (.glob "_law_made_shutet") ["_law_names", "_law_amounts"] 2 mf__law_made_shutet := by
  have G_Wallet___init__ := ok_Wallet___init__ (P := P) (w := w) (base := base) C
  have F_Wallet___init__ := C.fun_ 8 (d := d_Wallet___init__) rfl
  have B_Wallet___init__ := bi_Wallet___init__ C
  have m_Wallet := C.mkr 28 rfl
  have f_len := C.free 7 rfl
  have f_range := C.free 50 rfl
  have G_Card___init__ := ok_Card___init__ (P := P) (w := w) (base := base) C
  have F_Card___init__ := C.fun_ 3 (d := d_Card___init__) rfl
  have B_Card___init__ := bi_Card___init__ C
  have m_Card := C.mkr 15 rfl
  have g_Card := C.glo 16 rfl
  have f_tuple := C.free 19 rfl
  have g_Wallet := C.glo 29 rfl
  have sc := sc__law_made_shutet
  refine fn_mir (C.fun_ 52 (d := d__law_made_shutet) rfl) sc__law_made_shutet fun cdv A outer s H E p F0 hr => ?_
  exact dBone (dRet (dMake (ck := "Wallet") hc_Wallet m_Wallet G_Wallet___init__ (hr.mono (by decide)) rfl g_Wallet B_Wallet___init__ (dCons (dCallT m_tup call_tuple_of rfl f_tuple bb_tuple (dCons (dFz (dLcO (own := [("_law_k", 2)]) rfl sc.nd (dIrng1 rfl f_range (dCons (dCallB m_len call_lenA rfl f_len bb_len (dCons (dVar 1) (dNil))) (dNil))) (blkOk_by (by kernel_rfl)) (fun _ _ _ _ _ => dGn (i := 2) sc.nd rfl (by first | exact Or.inl rfl | exact Or.inr rfl)) (fun _ _ _ _ _ => dYes) (fun _ _ _ _ _ => dTup (dCons (dIx ix_seq m_ix (dVar 0) (dVar 2)) (dCons (dMake (ck := "Card") hc_Card m_Card G_Card___init__ (hr.mono (by decide)) rfl g_Card B_Card___init__ (dCons (dIx ix_seq m_ix (dIx ix_seq m_ix (dVar 1) (dVar 2)) (dInt)) (dCons (dIx ix_seq m_ix (dIx ix_seq m_ix (dVar 1) (dVar 2)) (dInt)) (dNil)))) (dNil)))))) (dNil))) (dNil))))
theorem bi__law_worth_of {K : PySem.W.Frag} {mg : Str → Option Value} (C : HF fa fn K mg) : Binds K (fdOf K (Pl.ad K (.glob "_law_worth_of"))) ["_law_pair", "_law_days"] [] := (C.fun_ 53 (d := d__law_worth_of) rfl).bindsN fun _ _ _ _ _ _ us hl => match us, hl with | [_, _], _ => rfl
theorem ok__law_worth_of [PF : PSup P supF] (C : HF fa fn K mg) : FO cs P w K mg base 1 (.glob "_law_worth_of") ["_law_pair", "_law_days"] 2 mf__law_worth_of := by
  have f_min := C.free 40 rfl
  have sc := sc__law_worth_of
  refine fn_mir (C.fun_ 53 (d := d__law_worth_of) rfl) sc__law_worth_of fun cdv A outer s H E p F0 hr => ?_
  exact dBone (dRet (dCallB m_min (cr_minA rfl) rfl f_min bb_min (dCons (dIx ix_seq m_ix (dVar 0) (dInt)) (dCons (dBin op_mulA m_mul (dIx ix_seq m_ix (dVar 0) (dInt)) (dVar 1)) (dNil)))))
theorem bi__law_room_of {K : PySem.W.Frag} {mg : Str → Option Value} (C : HF fa fn K mg) : Binds K (fdOf K (Pl.ad K (.glob "_law_room_of"))) ["_law_amounts", "_law_days"] [] := (C.fun_ 54 (d := d__law_room_of) rfl).bindsN fun _ _ _ _ _ _ us hl => match us, hl with | [_, _], _ => rfl
theorem ok__law_room_of [PF : PSup P supF] (C : HF fa fn K mg) : FO cs P w K mg base 2 (.glob "_law_room_of") ["_law_amounts", "_law_days"] 2 mf__law_room_of := by
  have G__law_worth_of := ok__law_worth_of (P := P) (w := w) (base := base) C
  have F__law_worth_of := C.fun_ 53 (d := d__law_worth_of) rfl
  have B__law_worth_of := bi__law_worth_of C
  have g__law_worth_of := C.glo 98 rfl
  have f_sum := C.free 36 rfl
  have sc := sc__law_room_of
  refine fn_mir (C.fun_ 54 (d := d__law_room_of) rfl) sc__law_room_of fun cdv A outer s H E p F0 hr => ?_
  exact dBone (dRet (dCallB m_sum (cr_sumA rfl) rfl f_sum bb_sum (dCons (dFz (dLcO (own := [("_law_pair", 2)]) rfl sc.nd (dIany (dVar 0)) (blkOk_by (by kernel_rfl)) (fun _ _ _ _ _ => dGn (i := 2) sc.nd rfl (by first | exact Or.inl rfl | exact Or.inr rfl)) (fun _ _ _ _ _ => dYes) (fun _ _ _ _ _ => dCall G__law_worth_of (hr.mono (by decide)) rfl g__law_worth_of F__law_worth_of.kp B__law_worth_of (dCons (dVar 2) (dCons (dVar 1) (dNil)))))) (dNil))))
theorem bi__law_drawn_bill {K : PySem.W.Frag} {mg : Str → Option Value} (C : HF fa fn K mg) : Binds K (fdOf K (Pl.ad K (.glob "_law_drawn_bill"))) ["_law_pool", "_law_amounts", "_law_most"] [] := (C.fun_ 55 (d := d__law_drawn_bill) rfl).bindsN fun _ _ _ _ _ _ us hl => match us, hl with | [_, _, _], _ => rfl
theorem ok__law_drawn_bill [PF : PSup P supF] (C : HF fa fn K mg) : FO cs P w K mg base 3 (.glob "_law_drawn_bill") ["_law_pool", "_law_amounts", "_law_most"] 3 mf__law_drawn_bill := by
  have G__law_room_of := ok__law_room_of (P := P) (w := w) (base := base) C
  have F__law_room_of := C.fun_ 54 (d := d__law_room_of) rfl
  have B__law_room_of := bi__law_room_of C
  have g__law_room_of := C.glo 99 rfl
  have f_min := C.free 40 rfl
  have G__law_draw := ok__law_draw (P := P) (w := w) (base := base) C
  have F__law_draw := C.fun_ 42 (d := d__law_draw) rfl
  have B__law_draw := bi__law_draw C
  have g__law_draw := C.glo 87 rfl
  have f_max := C.free 85 rfl
  have G__law_drawn_large := ok__law_drawn_large (P := P) (w := w) (base := base) C
  have F__law_drawn_large := C.fun_ 45 (d := d__law_drawn_large) rfl
  have B__law_drawn_large := bi__law_drawn_large C
  have g__law_drawn_large := C.glo 89 rfl
  have f_int := C.free 5 rfl
  have sc := sc__law_drawn_bill
  refine fn_mir (C.fun_ 55 (d := d__law_drawn_bill) rfl) sc__law_drawn_bill fun cdv A outer s H E p F0 hr => ?_
  exact dBcons (dSet (i := 3) sc.nd rfl (by first | exact Or.inl rfl | exact Or.inr rfl) (dCallB m_min (cr_minA rfl) rfl f_min bb_min (dCons (dCall G__law_room_of (hr.mono (by decide)) rfl g__law_room_of F__law_room_of.kp B__law_room_of (dCons (dVar 1) (dCons (dInt) (dNil)))) (dCons (dVar 2) (dNil))))) (dBcons (dSet (i := 4) sc.nd rfl (by first | exact Or.inl rfl | exact Or.inr rfl) (dCall G__law_draw (hr.mono (by decide)) rfl g__law_draw F__law_draw.kp B__law_draw (dCons (dVar 0) (dCons (dInt) (dNil))))) (dBcons (dIfS (dTcmp op_lt m_lt (dVar 4) (dInt) (nomark _)) (dBone (dRet (dIx ix_seq m_ix (dFz (dLstO (dCons (dInt) (dCons (dCallB m_min (cr_minA rfl) rfl f_min bb_min (dCons (dInt) (dCons (dVar 3) (dNil)))) (dNil))))) (dVar 4)))) (dBnil)) (dBcons (dIfS (dTcmp op_lt m_lt (dVar 4) (dInt) (nomark _)) (dBone (dRet (dIx ix_seq m_ix (dFz (dLstO (dCons (dVar 3) (dCons (dCallB m_max (cr_maxA rfl) rfl f_max bb_max (dCons (dInt) (dCons (dBin op_sub m_sub (dVar 3) (dInt)) (dNil)))) (dNil))))) (dBin op_sub m_sub (dVar 4) (dInt))))) (dBnil)) (dBone (dRet (dBin op_mod m_mod (dCallT m_int1 call_int1 rfl f_int bb_int (dCons (dCall G__law_drawn_large (hr.mono (by decide)) rfl g__law_drawn_large F__law_drawn_large.kp B__law_drawn_large (dCons (dVar 0) (dNil))) (dNil))) (dBin op_addA m_add (dVar 3) (dInt))))))))
theorem bi__law_pairs_left {K : PySem.W.Frag} {mg : Str → Option Value} (C : HF fa fn K mg) : Binds K (fdOf K (Pl.ad K (.glob "_law_pairs_left"))) ["_law_amounts", "_law_payment"] [] := (C.fun_ 56 (d := d__law_pairs_left) rfl).bindsN fun _ _ _ _ _ _ us hl => match us, hl with | [_, _], _ => rfl
theorem ok__law_pairs_left [PF : PSup P supF] (C : HF fa fn K mg) : FO cs P w K mg base 1 (.glob "_law_pairs_left") ["_law_amounts", "_law_payment"] 2 mf__law_pairs_left := by
  have f_len := C.free 7 rfl
  have f_range := C.free 50 rfl
  have sc := sc__law_pairs_left
  refine fn_mir (C.fun_ 56 (d := d__law_pairs_left) rfl) sc__law_pairs_left fun cdv A outer s H E p F0 hr => ?_
  exact dBone (dRet (dFz (dLcO (own := [("_law_k", 2)]) rfl sc.nd (dIrng1 rfl f_range (dCons (dCallB m_len call_lenA rfl f_len bb_len (dCons (dVar 0) (dNil))) (dNil))) (blkOk_by (by kernel_rfl)) (fun _ _ _ _ _ => dGn (i := 2) sc.nd rfl (by first | exact Or.inl rfl | exact Or.inr rfl)) (fun _ _ _ _ _ => dYes) (fun _ _ _ _ _ => dTup (dCons (dBin op_sub m_sub (dIx ix_seq m_ix (dIx ix_seq m_ix (dVar 0) (dVar 2)) (dInt)) (dIx ix_seq m_ix (dVar 1) (dVar 2))) (dCons (dIx ix_seq m_ix (dIx ix_seq m_ix (dVar 0) (dVar 2)) (dInt)) (dNil)))))))
theorem bi__law_rank_of {K : PySem.W.Frag} {mg : Str → Option Value} (C : HF fa fn K mg) : Binds K (fdOf K (Pl.ad K (.glob "_law_rank_of"))) ["_law_word", "_law_pair", "_law_place", "_law_whole"] [] := (C.fun_ 57 (d := d__law_rank_of) rfl).bindsN fun _ _ _ _ _ _ us hl => match us, hl with | [_, _, _, _], _ => rfl
theorem ok__law_rank_of [PF : PSup P supF] (C : HF fa fn K mg) : FO cs P w K mg base 1 (.glob "_law_rank_of") ["_law_word", "_law_pair", "_law_place", "_law_whole"] 4 mf__law_rank_of := by
  have sc := sc__law_rank_of
  refine fn_mir (C.fun_ 57 (d := d__law_rank_of) rfl) sc__law_rank_of fun cdv A outer s H E p F0 hr => ?_
  exact dBcons (dIfS (dTcmp op_inA m_in (dVar 0) (dFz (dLstO (dCons (dStr) (dCons (dStr) (dNil))))) rfl) (dBone (dRet (dIf (dTcmp (op_eqD hr.units) m_eq (dVar 0) (dStr) (nomark _)) (dVar 2) (dBin op_sub m_sub (dInt) (dVar 2))))) (dBnil)) (dBcons (dIfS (dTcmp op_inA m_in (dVar 0) (dFz (dLstO (dCons (dStr) (dCons (dStr) (dNil))))) rfl) (dBone (dRet (dIf (dTcmp (op_eqD hr.units) m_eq (dVar 0) (dStr) (nomark _)) (dIx ix_seq m_ix (dVar 1) (dInt)) (dBin op_sub m_sub (dInt) (dIx ix_seq m_ix (dVar 1) (dInt)))))) (dBnil)) (dBcons (dIfS (dTcmp op_inA m_in (dVar 0) (dFz (dLstO (dCons (dStr) (dCons (dStr) (dNil))))) rfl) (dBone (dRet (dIf (dTcmp (op_eqD hr.units) m_eq (dVar 0) (dStr) (nomark _)) (dIx ix_seq m_ix (dVar 1) (dInt)) (dBin op_sub m_sub (dInt) (dIx ix_seq m_ix (dVar 1) (dInt)))))) (dBnil)) (dBcons (dSet (i := 4) sc.nd rfl (by first | exact Or.inl rfl | exact Or.inr rfl) (dBin op_mulA m_mul (dIx ix_seq m_ix (dVar 1) (dInt)) (dBin op_fdivW m_fdiv (dVar 3) (dIx ix_seq m_ix (dVar 1) (dInt))))) (dBone (dRet (dIf (dTcmp (op_eqD hr.units) m_eq (dVar 0) (dStr) (nomark _)) (dVar 4) (dBin op_sub m_sub (dInt) (dVar 4))))))))
theorem bi__law_places_of {K : PySem.W.Frag} {mg : Str → Option Value} (C : HF fa fn K mg) : Binds K (fdOf K (Pl.ad K (.glob "_law_places_of"))) ["_law_words", "_law_amounts"] [] := (C.fun_ 58 (d := d__law_places_of) rfl).bindsN fun _ _ _ _ _ _ us hl => match us, hl with | [_, _], _ => rfl
theorem ok__law_places_of [PF : PSup P supF] (C : HF fa fn K mg) : FO cs P w K mg base 2 (.glob "_law_places_of") ["_law_words", "_law_amounts"] 2 mf__law_places_of := by
  have f_len := C.free 7 rfl
  have f_range := C.free 50 rfl
  have G__law_rank_of := ok__law_rank_of (P := P) (w := w) (base := base) C
  have F__law_rank_of := C.fun_ 57 (d := d__law_rank_of) rfl
  have B__law_rank_of := bi__law_rank_of C
  have g__law_rank_of := C.glo 102 rfl
  have f_sorted := C.free 103 rfl
  have sc := sc__law_places_of
  refine fn_mir (C.fun_ 58 (d := d__law_places_of) rfl) sc__law_places_of fun cdv A outer s H E p F0 hr => ?_
  exact dBcons (dSet (i := 2) sc.nd rfl (by first | exact Or.inl rfl | exact Or.inr rfl) (dInt)) (dBcons (dFor PassesOwn.never rfl (dIany (dVar 1)) (dGt (n := 2) rfl (dGcons (dGn (i := 3) sc.nd rfl (by first | exact Or.inl rfl | exact Or.inr rfl)) (dGcons (dGn (i := 4) sc.nd rfl (by first | exact Or.inl rfl | exact Or.inr rfl)) (dGnil)))) (dBone (dSet (i := 2) sc.nd rfl (by first | exact Or.inl rfl | exact Or.inr rfl) (dBin op_mulA m_mul (dVar 2) (dVar 4))))) (dBcons (dSetO (i := 5) sc.nd rfl (by first | exact Or.inl rfl | exact Or.inr rfl) (dLstO (dNil))) (dBcons (dFor PassesOwn.never rfl (dIrng1 rfl f_range (dCons (dCallB m_len call_lenA rfl f_len bb_len (dCons (dVar 1) (dNil))) (dNil))) (dGn (i := 6) sc.nd rfl (by first | exact Or.inl rfl | exact Or.inr rfl)) (dBone (dApp 5 (dBin op_addA m_add (dFz (dLcO (own := [("_law_word", 7)]) rfl sc.nd (dIany (dVar 0)) (blkOk_by (by kernel_rfl)) (fun _ _ _ _ _ => dGn (i := 7) sc.nd rfl (by first | exact Or.inl rfl | exact Or.inr rfl)) (fun _ _ _ _ _ => dYes) (fun _ _ _ _ _ => dCall G__law_rank_of (hr.mono (by decide)) rfl g__law_rank_of F__law_rank_of.kp B__law_rank_of (dCons (dVar 7) (dCons (dIx ix_seq m_ix (dVar 1) (dVar 6)) (dCons (dVar 6) (dCons (dVar 2) (dNil)))))))) (dFz (dLstO (dCons (dVar 6) (dNil)))))))) (dBone (dFrzS 5 (dRet (dFz (dLcO (own := [("_law_rank", 8)]) rfl sc.nd (dIany (dFz (dSortL (room65' hr) rfl f_sorted (dCons (dVar 5) (dNil))))) (blkOk_by (by kernel_rfl)) (fun _ _ _ _ _ => dGn (i := 8) sc.nd rfl (by first | exact Or.inl rfl | exact Or.inr rfl)) (fun _ _ _ _ _ => dYes) (fun _ _ _ _ _ => dIx ix_seq m_ix (dVar 8) (dUn un_neg m_neg (dInt)))))))))))
theorem bi__law_units_of {K : PySem.W.Frag} {mg : Str → Option Value} (C : HF fa fn K mg) : Binds K (fdOf K (Pl.ad K (.glob "_law_units_of"))) ["_law_words", "_law_amounts", "_law_bill"] [] := (C.fun_ 59 (d := d__law_units_of) rfl).bindsN fun _ _ _ _ _ _ us hl => match us, hl with | [_, _, _], _ => rfl
theorem ok__law_units_of [PF : PSup P supF] (C : HF fa fn K mg) : FO cs P w K mg base 3 (.glob "_law_units_of") ["_law_words", "_law_amounts", "_law_bill"] 3 mf__law_units_of := by
  have f_range := C.free 50 rfl
  have G__law_pairs_left := ok__law_pairs_left (P := P) (w := w) (base := base) C
  have F__law_pairs_left := C.fun_ 56 (d := d__law_pairs_left) rfl
  have B__law_pairs_left := bi__law_pairs_left C
  have g__law_pairs_left := C.glo 101 rfl
  have G__law_places_of := ok__law_places_of (P := P) (w := w) (base := base) C
  have F__law_places_of := C.fun_ 58 (d := d__law_places_of) rfl
  have B__law_places_of := bi__law_places_of C
  have g__law_places_of := C.glo 104 rfl
  have f_tuple := C.free 19 rfl
  have sc := sc__law_units_of
  refine fn_mir (C.fun_ 59 (d := d__law_units_of) rfl) sc__law_units_of fun cdv A outer s H E p F0 hr => ?_
  exact dBcons (dSetO (i := 3) sc.nd rfl (by first | exact Or.inl rfl | exact Or.inr rfl) (dLcO (own := [("_law_pair", 7)]) rfl sc.nd (dIany (dVar 1)) (blkOk_by (by kernel_rfl)) (fun _ _ _ _ _ => dGn (i := 7) sc.nd rfl (by first | exact Or.inl rfl | exact Or.inr rfl)) (fun _ _ _ _ _ => dYes) (fun _ _ _ _ _ => dInt))) (dBcons (dFor PassesOwn.never rfl (dIrng1 rfl f_range (dCons (dVar 2) (dNil))) (dGn (i := 4) sc.nd rfl (by first | exact Or.inl rfl | exact Or.inr rfl)) (dBcons (dSet (i := 5) sc.nd rfl (by first | exact Or.inl rfl | exact Or.inr rfl) (dBor 3 (dCall G__law_pairs_left (hr.mono (by decide)) rfl g__law_pairs_left F__law_pairs_left.kp B__law_pairs_left (dCons (dVar 1) (dCons (dVar 3) (dNil)))))) (dBcons (dLcSet 6 [3] (own := [("_law_k", 8)]) rfl sc.nd rfl rfl (sw_true rfl rfl rfl (by kernel_rfl)) (dIany (dCall G__law_places_of (hr.mono (by decide)) rfl g__law_places_of F__law_places_of.kp B__law_places_of (dCons (dVar 0) (dCons (dVar 5) (dNil))))) (blkOk_by (by kernel_rfl)) (fun _ _ _ _ _ => dGn (i := 8) sc.nd rfl (by first | exact Or.inl rfl | exact Or.inr rfl)) (fun _ _ _ _ _ => pts_one (PW.pt (dAndT (dTcmp op_gt m_gt (dIx ix_seq m_ix (dIx ix_seq m_ix (dVar 5) (dVar 8)) (dInt)) (dInt) (nomark _)) (dAnd1 (dTcmp op_lt m_lt (dIx ix_seq m_ix (dVar 3) (dVar 8)) (dIx ix_seq m_ix (dIx ix_seq m_ix (dVar 5) (dVar 8)) (dInt)) (nomark _)))))) (fun _ _ _ _ _ => dVar 8)) (dBone (dPut 3 (dBin op_addA m_add (dIxO 3 (dIx ix_seq m_ix (dVar 6) (dInt))) (dInt)) (dIx ix_seq m_ix (dVar 6) (dInt))))))) (dBone (dFrzS 3 (dRet (dCallT m_tup call_tuple_of rfl f_tuple bb_tuple (dCons (dVar 3) (dNil)))))))
theorem bi__law_part_of {K : PySem.W.Frag} {mg : Str → Option Value} (C : HF fa fn K mg) : Binds K (fdOf K (Pl.ad K (.glob "_law_part_of"))) ["_law_pair", "_law_level"] [] := (C.fun_ 60 (d := d__law_part_of) rfl).bindsN fun _ _ _ _ _ _ us hl => match us, hl with | [_, _], _ => rfl
theorem ok__law_part_of [PF : PSup P supF] (C : HF fa fn K mg) : FO cs P w K mg base 2 (.glob "_law_part_of") ["_law_pair", "_law_level"] 2 mf__law_part_of := by
  have G__law_worth_of := ok__law_worth_of (P := P) (w := w) (base := base) C
  have F__law_worth_of := C.fun_ 53 (d := d__law_worth_of) rfl
  have B__law_worth_of := bi__law_worth_of C
  have g__law_worth_of := C.glo 98 rfl
  have sc := sc__law_part_of
  refine fn_mir (C.fun_ 60 (d := d__law_part_of) rfl) sc__law_part_of fun cdv A outer s H E p F0 hr => ?_
  exact dBone (dRet (dBin op_sub m_sub (dCall G__law_worth_of (hr.mono (by decide)) rfl g__law_worth_of F__law_worth_of.kp B__law_worth_of (dCons (dVar 0) (dCons (dBin op_addA m_add (dVar 1) (dInt)) (dNil)))) (dCall G__law_worth_of (hr.mono (by decide)) rfl g__law_worth_of F__law_worth_of.kp B__law_worth_of (dCons (dVar 0) (dCons (dVar 1) (dNil))))))
theorem bi__law_bounds_of {K : PySem.W.Frag} {mg : Str → Option Value} (C : HF fa fn K mg) : Binds K (fdOf K (Pl.ad K (.glob "_law_bounds_of"))) ["_law_amounts", "_law_bill"] [] := (C.fun_ 61 (d := d__law_bounds_of) rfl).bindsN fun _ _ _ _ _ _ us hl => match us, hl with | [_, _], _ => rfl
theorem ok__law_bounds_of [PF : PSup P supF] (C : HF fa fn K mg) : FO cs P w K mg base 3 (.glob "_law_bounds_of") ["_law_amounts", "_law_bill"] 2 mf__law_bounds_of := by
  have f_range := C.free 50 rfl
  have G__law_part_of := ok__law_part_of (P := P) (w := w) (base := base) C
  have F__law_part_of := C.fun_ 60 (d := d__law_part_of) rfl
  have B__law_part_of := bi__law_part_of C
  have g__law_part_of := C.glo 106 rfl
  have f_sum := C.free 36 rfl
  have f_max := C.free 85 rfl
  have sc := sc__law_bounds_of
  refine fn_mir (C.fun_ 61 (d := d__law_bounds_of) rfl) sc__law_bounds_of fun cdv A outer s H E p F0 hr => ?_
  exact dBcons (dIfS (dTcmp (op_eqD hr.units) m_eq (dVar 1) (dInt) (nomark _)) (dBone (dRet (dTup (dCons (dFz (dLcO (own := [("_law_pair", 3)]) rfl sc.nd (dIany (dVar 0)) (blkOk_by (by kernel_rfl)) (fun _ _ _ _ _ => dGn (i := 3) sc.nd rfl (by first | exact Or.inl rfl | exact Or.inr rfl)) (fun _ _ _ _ _ => dYes) (fun _ _ _ _ _ => dInt))) (dCons (dFz (dLcO (own := [("_law_pair", 3)]) rfl sc.nd (dIany (dVar 0)) (blkOk_by (by kernel_rfl)) (fun _ _ _ _ _ => dGn (i := 3) sc.nd rfl (by first | exact Or.inl rfl | exact Or.inr rfl)) (fun _ _ _ _ _ => dYes) (fun _ _ _ _ _ => dInt))) (dNil)))))) (dBnil)) (dBcons (dSet (i := 2) sc.nd rfl (by first | exact Or.inl rfl | exact Or.inr rfl) (dCallB m_max (cr_maxA rfl) rfl f_max bb_max (dCons (dFz (dLcO (own := [("_law_k", 4)]) rfl sc.nd (dIrng1 rfl f_range (dCons (dInt) (dNil))) (blkOk_by (by kernel_rfl)) (fun _ _ _ _ _ => dGn (i := 4) sc.nd rfl (by first | exact Or.inl rfl | exact Or.inr rfl)) (fun _ _ _ _ _ => pts_one (dTcmp op_ge m_ge (dCallB m_sum (cr_sumA rfl) rfl f_sum bb_sum (dCons (dFz (dLcO (own := [("_law_pair", 3)]) rfl sc.nd (dIany (dVar 0)) (blkOk_by (by kernel_rfl)) (fun _ _ _ _ _ => dGn (i := 3) sc.nd rfl (by first | exact Or.inl rfl | exact Or.inr rfl)) (fun _ _ _ _ _ => dYes) (fun _ _ _ _ _ => dCall G__law_part_of (hr.mono (by decide)) rfl g__law_part_of F__law_part_of.kp B__law_part_of (dCons (dVar 3) (dCons (dVar 4) (dNil)))))) (dNil))) (dVar 1) (nomark _))) (fun _ _ _ _ _ => dVar 4))) (dNil)))) (dBone (dRet (dTup (dCons (dFz (dLcO (own := [("_law_pair", 3)]) rfl sc.nd (dIany (dVar 0)) (blkOk_by (by kernel_rfl)) (fun _ _ _ _ _ => dGn (i := 3) sc.nd rfl (by first | exact Or.inl rfl | exact Or.inr rfl)) (fun _ _ _ _ _ => dYes) (fun _ _ _ _ _ => dCall G__law_part_of (hr.mono (by decide)) rfl g__law_part_of F__law_part_of.kp B__law_part_of (dCons (dVar 3) (dCons (dBin op_addA m_add (dVar 2) (dInt)) (dNil)))))) (dCons (dFz (dLcO (own := [("_law_pair", 3)]) rfl sc.nd (dIany (dVar 0)) (blkOk_by (by kernel_rfl)) (fun _ _ _ _ _ => dGn (i := 3) sc.nd rfl (by first | exact Or.inl rfl | exact Or.inr rfl)) (fun _ _ _ _ _ => dYes) (fun _ _ _ _ _ => dCall G__law_part_of (hr.mono (by decide)) rfl g__law_part_of F__law_part_of.kp B__law_part_of (dCons (dVar 3) (dCons (dVar 2) (dNil)))))) (dNil)))))))
theorem bi__law_filled_by {K : PySem.W.Frag} {mg : Str → Option Value} (C : HF fa fn K mg) : Binds K (fdOf K (Pl.ad K (.glob "_law_filled_by"))) ["_law_words", "_law_amounts", "_law_low", "_law_high", "_law_bill"] [] := (C.fun_ 62 (d := d__law_filled_by) rfl).bindsN fun _ _ _ _ _ _ us hl => match us, hl with | [_, _, _, _, _], _ => rfl
theorem ok__law_filled_by [PF : PSup P supF] (C : HF fa fn K mg) : FO cs P w K mg base 3 (.glob "_law_filled_by") ["_law_words", "_law_amounts", "_law_low", "_law_high", "_law_bill"] 5 mf__law_filled_by := by
  have f_sum := C.free 36 rfl
  have f_list := C.free 57 rfl
  have G__law_places_of := ok__law_places_of (P := P) (w := w) (base := base) C
  have F__law_places_of := C.fun_ 58 (d := d__law_places_of) rfl
  have B__law_places_of := bi__law_places_of C
  have g__law_places_of := C.glo 104 rfl
  have f_min := C.free 40 rfl
  have f_tuple := C.free 19 rfl
  have sc := sc__law_filled_by
  refine fn_mir (C.fun_ 62 (d := d__law_filled_by) rfl) sc__law_filled_by fun cdv A outer s H E p F0 hr => ?_
  exact dBcons (dPar (i := 5) (j := 6) rfl sc.nd rfl rfl (by decide) rfl rfl (dMow (dCallTO m_listO call_list_of rfl f_list bb_list (dCons (dVar 2) (dNil))) (dMsh (dBin op_sub m_sub (dVar 4) (dCallB m_sum (cr_sumA rfl) rfl f_sum bb_sum (dCons (dVar 2) (dNil)))) (dMnil)))) (dBcons (dFor PassesOwn.never rfl (dIany (dCall G__law_places_of (hr.mono (by decide)) rfl g__law_places_of F__law_places_of.kp B__law_places_of (dCons (dVar 0) (dCons (dVar 1) (dNil))))) (dGn (i := 7) sc.nd rfl (by first | exact Or.inl rfl | exact Or.inr rfl)) (dBcons (dSet (i := 8) sc.nd rfl (by first | exact Or.inl rfl | exact Or.inr rfl) (dCallB m_min (cr_minA rfl) rfl f_min bb_min (dCons (dVar 6) (dCons (dBin op_sub m_sub (dIx ix_seq m_ix (dVar 3) (dVar 7)) (dIxO 5 (dVar 7))) (dNil))))) (dBcons (dPut 5 (dBin op_addA m_add (dIxO 5 (dVar 7)) (dVar 8)) (dVar 7)) (dBone (dSet (i := 6) sc.nd rfl (by first | exact Or.inl rfl | exact Or.inr rfl) (dBin op_sub m_sub (dVar 6) (dVar 8))))))) (dBone (dFrzS 5 (dRet (dCallT m_tup call_tuple_of rfl f_tuple bb_tuple (dCons (dVar 5) (dNil)))))))
theorem bi__law_due_of {K : PySem.W.Frag} {mg : Str → Option Value} (C : HF fa fn K mg) : Binds K (fdOf K (Pl.ad K (.glob "_law_due_of"))) ["_law_kind", "_law_words", "_law_amounts", "_law_bill"] [] := (C.fun_ 63 (d := d__law_due_of) rfl).bindsN fun _ _ _ _ _ _ us hl => match us, hl with | [_, _, _, _], _ => rfl
theorem ok__law_due_of [PF : PSup P supF] (C : HF fa fn K mg) : FO cs P w K mg base 4 (.glob "_law_due_of") ["_law_kind", "_law_words", "_law_amounts", "_law_bill"] 4 mf__law_due_of := by
  have G__law_units_of := ok__law_units_of (P := P) (w := w) (base := base) C
  have F__law_units_of := C.fun_ 59 (d := d__law_units_of) rfl
  have B__law_units_of := bi__law_units_of C
  have g__law_units_of := C.glo 105 rfl
  have f_min := C.free 40 rfl
  have G__law_bounds_of := ok__law_bounds_of (P := P) (w := w) (base := base) C
  have F__law_bounds_of := C.fun_ 61 (d := d__law_bounds_of) rfl
  have B__law_bounds_of := bi__law_bounds_of C
  have g__law_bounds_of := C.glo 107 rfl
  have G__law_filled_by := ok__law_filled_by (P := P) (w := w) (base := base) C
  have F__law_filled_by := C.fun_ 62 (d := d__law_filled_by) rfl
  have B__law_filled_by := bi__law_filled_by C
  have g__law_filled_by := C.glo 108 rfl
  have sc := sc__law_due_of
  refine fn_mir (C.fun_ 63 (d := d__law_due_of) rfl) sc__law_due_of fun cdv A outer s H E p F0 hr => ?_
  exact dBcons (dIfS (dTcmp (op_eqD hr.units) m_eq (dVar 0) (dStr) (nomark _)) (dBone (dRet (dCall G__law_units_of (hr.mono (by decide)) rfl g__law_units_of F__law_units_of.kp B__law_units_of (dCons (dVar 1) (dCons (dVar 2) (dCons (dVar 3) (dNil))))))) (dBnil)) (dBcons (dPar (i := 4) (j := 5) rfl sc.nd rfl rfl (by decide) rfl rfl (dMsh (dFz (dLcO (own := [("_law_pair", 6)]) rfl sc.nd (dIany (dVar 2)) (blkOk_by (by kernel_rfl)) (fun _ _ _ _ _ => dGn (i := 6) sc.nd rfl (by first | exact Or.inl rfl | exact Or.inr rfl)) (fun _ _ _ _ _ => dYes) (fun _ _ _ _ _ => dInt))) (dMsh (dFz (dLcO (own := [("_law_pair", 6)]) rfl sc.nd (dIany (dVar 2)) (blkOk_by (by kernel_rfl)) (fun _ _ _ _ _ => dGn (i := 6) sc.nd rfl (by first | exact Or.inl rfl | exact Or.inr rfl)) (fun _ _ _ _ _ => dYes) (fun _ _ _ _ _ => dCallB m_minT (cr_minT rfl (room65' hr)) rfl f_min bb_min (dCons (dVar 6) (dNil))))) (dMnil)))) (dBcons (dIfS (dTcmp (op_eqD hr.units) m_eq (dVar 0) (dStr) (nomark _)) (dBone (dAsg (dCall G__law_bounds_of (hr.mono (by decide)) rfl g__law_bounds_of F__law_bounds_of.kp B__law_bounds_of (dCons (dVar 2) (dCons (dVar 3) (dNil)))) (dGt (n := 2) rfl (dGcons (dGn (i := 4) sc.nd rfl (by first | exact Or.inl rfl | exact Or.inr rfl)) (dGcons (dGn (i := 5) sc.nd rfl (by first | exact Or.inl rfl | exact Or.inr rfl)) (dGnil)))))) (dBnil)) (dBone (dRet (dCall G__law_filled_by (hr.mono (by decide)) rfl g__law_filled_by F__law_filled_by.kp B__law_filled_by (dCons (dVar 1) (dCons (dVar 2) (dCons (dVar 4) (dCons (dVar 5) (dCons (dVar 3) (dNil)))))))))))
theorem ok_Units___base__ [PF : PSup P supF] (C : HF fa fn K mg) : FnR P w K mg base CX0 2 (Pl.ad K (.meth "Rule" "__init__")) (spIS (WW cs K) "Units" mf_Units___base__) := by
  have G_wrong_key := ok_wrong_key (P := P) (w := w) (base := base) C
  have F_wrong_key := C.fun_ 35 (d := d_wrong_key) rfl
  have B_wrong_key := bi_wrong_key C
  have g_wrong_key := C.glo 69 rfl
  have n_Units_wishes := C.noat 76 rfl
  have c_Units := C.cls 75 rfl
  have sc := sc_Units___base__
  refine fn_initS (ck := "Units") (nm := "self") (N := ["keys", "wrong"]) (pv := "keys") (C.fun_ 64 (d := d_Units___base__) rfl) sc_Units___base__ (fun kV doc pm an cdv ct => StX.bind_star1 (B := fun z => bindArgs (PySem.W.fnOf _ _ _ _ _ .none kV doc pm an cdv ct) ⟨z, []⟩) (p1 := "self") (pv := "keys") (fun _ => rfl) (fun _ _ _ => rfl)) fun cdv A outer s H E p F0 H0 sf hr => ?_
  exact dBcons (dSet (i := 2) sc.nd rfl (by first | exact Or.inl rfl | exact Or.inr rfl) (dCall G_wrong_key (hr.mono (by decide)) rfl g_wrong_key F_wrong_key.kp B_wrong_key (dCons (dVar 1) (dNil)))) (dBcons (dIfS (dTcmp op_isntA m_isnt (dVar 2) (dNon) (nomark _)) (dBone (dNever)) (dBnil)) (dBone (dSelfSet (ck := "Units") 0 c_Units n_Units_wishes (dVar 1))))
theorem ok_Units___init__ [PF : PSup P supF] (C : HF fa fn K mg) : FnR P w K mg base CX0 4 (Pl.ad K (.meth "Units" "__init__")) (spIS (WW cs K) "Units" mf_Units___init__) :=
  Mi.fn_super (file := supF) (b := "Rule") (C.fact 111 rfl) (C.free 71 rfl) rfl (ok_Units___base__ (P := P) (w := w) (base := base) C)
theorem ok_Spare___base__ [PF : PSup P supF] (C : HF fa fn K mg) : FnR P w K mg base CX0 2 (Pl.ad K (.meth "Rule" "__init__")) (spIS (WW cs K) "Spare" mf_Spare___base__) := by
  have G_wrong_key := ok_wrong_key (P := P) (w := w) (base := base) C
  have F_wrong_key := C.fun_ 35 (d := d_wrong_key) rfl
  have B_wrong_key := bi_wrong_key C
  have g_wrong_key := C.glo 69 rfl
  have n_Spare_wishes := C.noat 81 rfl
  have c_Spare := C.cls 80 rfl
  have sc := sc_Spare___base__
  refine fn_initS (ck := "Spare") (nm := "self") (N := ["keys", "wrong"]) (pv := "keys") (C.fun_ 65 (d := d_Spare___base__) rfl) sc_Spare___base__ (fun kV doc pm an cdv ct => StX.bind_star1 (B := fun z => bindArgs (PySem.W.fnOf _ _ _ _ _ .none kV doc pm an cdv ct) ⟨z, []⟩) (p1 := "self") (pv := "keys") (fun _ => rfl) (fun _ _ _ => rfl)) fun cdv A outer s H E p F0 H0 sf hr => ?_
  exact dBcons (dSet (i := 2) sc.nd rfl (by first | exact Or.inl rfl | exact Or.inr rfl) (dCall G_wrong_key (hr.mono (by decide)) rfl g_wrong_key F_wrong_key.kp B_wrong_key (dCons (dVar 1) (dNil)))) (dBcons (dIfS (dTcmp op_isntA m_isnt (dVar 2) (dNon) (nomark _)) (dBone (dNever)) (dBnil)) (dBone (dSelfSet (ck := "Spare") 0 c_Spare n_Spare_wishes (dVar 1))))
theorem ok_Spare___init__ [PF : PSup P supF] (C : HF fa fn K mg) : FnR P w K mg base CX0 4 (Pl.ad K (.meth "Spare" "__init__")) (spIS (WW cs K) "Spare" mf_Spare___init__) :=
  Mi.fn_super (file := supF) (b := "Rule") (C.fact 114 rfl) (C.free 71 rfl) rfl (ok_Spare___base__ (P := P) (w := w) (base := base) C)
theorem bi_rule_of {K : PySem.W.Frag} {mg : Str → Option Value} (C : HF fa fn K mg) : Binds K (fdOf K (Pl.ad K (.glob "rule_of"))) ["text"] [] := (C.fun_ 66 (d := d_rule_of) rfl).bindsN fun _ _ _ _ _ _ us hl => match us, hl with | [_], _ => rfl
theorem ok_rule_of [PF : PSup P supF] (C : HF fa fn K mg) : FO cs P w K mg base 6 (.glob "rule_of") ["text"] 1 mf_rule_of := by
  have isi := isi_ok (C.fact 0 rfl)
  have f_str := C.free 1 rfl
  have f_isinstance := C.free 2 rfl
  have f_tuple := C.free 19 rfl
  have G_wrong_key := ok_wrong_key (P := P) (w := w) (base := base) C
  have F_wrong_key := C.fun_ 35 (d := d_wrong_key) rfl
  have B_wrong_key := bi_wrong_key C
  have g_wrong_key := C.glo 69 rfl
  have kc_Drain_KIND := con_ok (C.fact 47 rfl)
  have g_Drain := C.glo 73 rfl
  have G_Drain___init__ := ok_Drain___init__ (P := P) (w := w) (base := base) C
  have m_Drain := C.mkr 72 rfl
  have kc_Units_KIND := con_ok (C.fact 74 rfl)
  have g_Units := C.glo 110 rfl
  have G_Units___init__ := ok_Units___init__ (P := P) (w := w) (base := base) C
  have m_Units := C.mkr 112 rfl
  have kc_Spare_KIND := con_ok (C.fact 79 rfl)
  have g_Spare := C.glo 113 rfl
  have G_Spare___init__ := ok_Spare___init__ (P := P) (w := w) (base := base) C
  have m_Spare := C.mkr 115 rfl
  have sc := sc_rule_of
  refine fn_mir (C.fun_ 66 (d := d_rule_of) rfl) sc_rule_of fun cdv A outer s H E p F0 hr => ?_
  exact dBcons (dIfS (dNotT (dTst (dCallB (m_isi isi) call_isi rfl f_isinstance bb_isinstance (dCons (dVar 0) (dCons (dTy rfl f_str bb_str) (dNil)))))) (dBone (dRet (dNon))) (dBnil)) (dBcons (dSet (i := 1) sc.nd rfl (by first | exact Or.inl rfl | exact Or.inr rfl) (dSplit (dVar 0) (dStr))) (dBcons (dSet (i := 2) sc.nd rfl (by first | exact Or.inl rfl | exact Or.inr rfl) (dCallT m_tup call_tuple_of rfl f_tuple bb_tuple (dCons (dSl (dVar 1) (dOs (dInt)) (dOn)) (dNil)))) (dBcons (dIfS (dTcmp op_isntA m_isnt (dCall G_wrong_key (hr.mono (by decide)) rfl g_wrong_key F_wrong_key.kp B_wrong_key (dCons (dVar 2) (dNil))) (dNon) (nomark _)) (dBone (dRet (dNon))) (dBnil)) (dBcons (dIfS (dTcmp (op_eqD hr.units) m_eq (dIx ix_seq m_ix (dVar 1) (dInt)) (dCCon (ck := "Drain") (dGC (k := "Drain") hc_Drain rfl g_Drain) kc_Drain_KIND.2.1 kc_Drain_KIND.2.2.choose_spec) (nomark _)) (dBone (dRet (dMakeS1 (ck := "Drain") hc_Drain m_Drain G_Drain___init__ (hr.mono (by decide)) rfl g_Drain (dVar 2)))) (dBnil)) (dBcons (dIfS (dTcmp (op_eqD hr.units) m_eq (dIx ix_seq m_ix (dVar 1) (dInt)) (dCCon (ck := "Units") (dGC (k := "Units") hc_Units rfl g_Units) kc_Units_KIND.2.1 kc_Units_KIND.2.2.choose_spec) (nomark _)) (dBone (dRet (dMakeS1 (ck := "Units") hc_Units m_Units G_Units___init__ (hr.mono (by decide)) rfl g_Units (dVar 2)))) (dBnil)) (dBone (dRet (dIf (dTcmp (op_eqD hr.units) m_eq (dIx ix_seq m_ix (dVar 1) (dInt)) (dCCon (ck := "Spare") (dGC (k := "Spare") hc_Spare rfl g_Spare) kc_Spare_KIND.2.1 kc_Spare_KIND.2.2.choose_spec) (nomark _)) (dMakeS1 (ck := "Spare") hc_Spare m_Spare G_Spare___init__ (hr.mono (by decide)) rfl g_Spare (dVar 2)) (dNon)))))))))
theorem bi_Rule_read {K : PySem.W.Frag} {mg : Str → Option Value} (C : HF fa fn K mg) : Binds K (fdOf K (Pl.ad K (.stat "Rule" "read"))) ["text"] [] := (C.fun_ 67 (d := d_Rule_read) rfl).bindsN fun _ _ _ _ _ _ us hl => match us, hl with | [_], _ => rfl
theorem ok_Rule_read [PF : PSup P supF] (C : HF fa fn K mg) : FO cs P w K mg base 7 (.stat "Rule" "read") ["text"] 1 mf_Rule_read := by
  have G_rule_of := ok_rule_of (P := P) (w := w) (base := base) C
  have F_rule_of := C.fun_ 66 (d := d_rule_of) rfl
  have B_rule_of := bi_rule_of C
  have g_rule_of := C.glo 116 rfl
  have sc := sc_Rule_read
  refine fn_mir (C.fun_ 67 (d := d_Rule_read) rfl) sc_Rule_read fun cdv A outer s H E p F0 hr => ?_
  exact dBcons (dSet (i := 1) sc.nd rfl (by first | exact Or.inl rfl | exact Or.inr rfl) (dCall G_rule_of (hr.mono (by decide)) rfl g_rule_of F_rule_of.kp B_rule_of (dCons (dVar 0) (dNil)))) (dBcons (dIfS (dTcmp op_isA m_is (dVar 1) (dNon) (nomark _)) (dBone (dNever)) (dBnil)) (dBone (dRet (dVar 1))))
theorem bi__law_made_rule {K : PySem.W.Frag} {mg : Str → Option Value} (C : HF fa fn K mg) : Binds K (fdOf K (Pl.ad K (.glob "_law_made_rule"))) ["_law_kind", "_law_words"] [] := (C.fun_ 68 (d := d__law_made_rule) rfl).bindsN fun _ _ _ _ _ _ us hl => match us, hl with | [_, _], _ => rfl
theorem ok__law_made_rule [PF : PSup P supF] (C : HF fa fn K mg) : FO cs P w K mg base 8 (.glob "_law_made_rule") ["_law_kind", "_law_words"] 2 mf__law_made_rule := by
  have f_len := C.free 7 rfl
  have G_Rule_read := ok_Rule_read (P := P) (w := w) (base := base) C
  have F_Rule_read := C.fun_ 67 (d := d_Rule_read) rfl
  have B_Rule_read := bi_Rule_read C
  have s_Rule_read := stat_ok (C.fact 117 rfl)
  have g_Rule := C.glo 118 rfl
  have G_Drain___init__ := ok_Drain___init__ (P := P) (w := w) (base := base) C
  have m_Drain := C.mkr 72 rfl
  have g_Drain := C.glo 73 rfl
  have G_Units___init__ := ok_Units___init__ (P := P) (w := w) (base := base) C
  have m_Units := C.mkr 112 rfl
  have g_Units := C.glo 110 rfl
  have G_Spare___init__ := ok_Spare___init__ (P := P) (w := w) (base := base) C
  have m_Spare := C.mkr 115 rfl
  have g_Spare := C.glo 113 rfl
  have sc := sc__law_made_rule
  refine fn_mir (C.fun_ 68 (d := d__law_made_rule) rfl) sc__law_made_rule fun cdv A outer s H E p F0 hr => ?_
  exact dBcons (dIfS (dTcmp op_gt m_gt (dCallB m_len call_lenA rfl f_len bb_len (dCons (dVar 1) (dNil))) (dInt) (nomark _)) (dBone (dRet (dSMeth (ck := "Rule") (dGC (k := "Rule") hc_Rule rfl g_Rule) s_Rule_read G_Rule_read (hr.mono (by decide)) B_Rule_read (dCons (dJoin (dStr) (dBin op_addA m_add (dFz (dLstO (dCons (dVar 0) (dNil)))) (dVar 1))) (dNil)) rfl))) (dBnil)) (dBcons (dIfS (dTcmp (op_eqD hr.units) m_eq (dCallB m_len call_lenA rfl f_len bb_len (dCons (dVar 1) (dNil))) (dInt) (nomark _)) (dBcons (dIfS (dTcmp (op_eqD hr.units) m_eq (dVar 0) (dStr) (nomark _)) (dBone (dRet (dMakeS (ck := "Drain") hc_Drain m_Drain G_Drain___init__ (hr.mono (by decide)) rfl g_Drain (dCons (dIx ix_seq m_ix (dVar 1) (dInt)) (dNil))))) (dBnil)) (dBone (dRet (dIf (dTcmp (op_eqD hr.units) m_eq (dVar 0) (dStr) (nomark _)) (dMakeS (ck := "Units") hc_Units m_Units G_Units___init__ (hr.mono (by decide)) rfl g_Units (dCons (dIx ix_seq m_ix (dVar 1) (dInt)) (dNil))) (dMakeS (ck := "Spare") hc_Spare m_Spare G_Spare___init__ (hr.mono (by decide)) rfl g_Spare (dCons (dIx ix_seq m_ix (dVar 1) (dInt)) (dNil))))))) (dBnil)) (dBcons (dIfS (dTcmp (op_eqD hr.units) m_eq (dVar 0) (dStr) (nomark _)) (dBone (dRet (dMakeS (ck := "Drain") hc_Drain m_Drain G_Drain___init__ (hr.mono (by decide)) rfl g_Drain (dCons (dIx ix_seq m_ix (dVar 1) (dInt)) (dCons (dIx ix_seq m_ix (dVar 1) (dInt)) (dNil)))))) (dBnil)) (dBone (dRet (dIf (dTcmp (op_eqD hr.units) m_eq (dVar 0) (dStr) (nomark _)) (dMakeS (ck := "Units") hc_Units m_Units G_Units___init__ (hr.mono (by decide)) rfl g_Units (dCons (dIx ix_seq m_ix (dVar 1) (dInt)) (dCons (dIx ix_seq m_ix (dVar 1) (dInt)) (dNil)))) (dMakeS (ck := "Spare") hc_Spare m_Spare G_Spare___init__ (hr.mono (by decide)) rfl g_Spare (dCons (dIx ix_seq m_ix (dVar 1) (dInt)) (dCons (dIx ix_seq m_ix (dVar 1) (dInt)) (dNil)))))))))
theorem bi__law_is_whole {K : PySem.W.Frag} {mg : Str → Option Value} (C : HF fa fn K mg) : Binds K (fdOf K (Pl.ad K (.glob "_law_is_whole"))) ["_law_thing"] [] := (C.fun_ 69 (d := d__law_is_whole) rfl).bindsN fun _ _ _ _ _ _ us hl => match us, hl with | [_], _ => rfl
theorem ok__law_is_whole [PF : PSup P supF] (C : HF fa fn K mg) : FO cs P w K mg base 1 (.glob "_law_is_whole") ["_law_thing"] 1 mf__law_is_whole := by
  have isi := isi_ok (C.fact 0 rfl)
  have f_int := C.free 5 rfl
  have f_isinstance := C.free 2 rfl
  have f_bool := C.free 9 rfl
  have sc := sc__law_is_whole
  refine fn_mir (C.fun_ 69 (d := d__law_is_whole) rfl) sc__law_is_whole fun cdv A outer s H E p F0 hr => ?_
  exact dBone (dRet (dAndV (dCallB (m_isi isi) call_isi rfl f_isinstance bb_isinstance (dCons (dVar 0) (dCons (dTy rfl f_int bb_int) (dNil)))) (dOneV (dNotV (dCallB (m_isi isi) call_isi rfl f_isinstance bb_isinstance (dCons (dVar 0) (dCons (dTy rfl f_bool bb_bool) (dNil))))))))
theorem bi__law_is_row_of {K : PySem.W.Frag} {mg : Str → Option Value} (C : HF fa fn K mg) : Binds K (fdOf K (Pl.ad K (.glob "_law_is_row_of"))) ["_law_thing"] [] := (C.fun_ 70 (d := d__law_is_row_of) rfl).bindsN fun _ _ _ _ _ _ us hl => match us, hl with | [_], _ => rfl
theorem ok__law_is_row_of [PF : PSup P supF] (C : HF fa fn K mg) : FO cs P w K mg base 2 (.glob "_law_is_row_of") ["_law_thing"] 1 mf__law_is_row_of := by
  have isi := isi_ok (C.fact 0 rfl)
  have f_tuple := C.free 19 rfl
  have f_isinstance := C.free 2 rfl
  have G__law_is_whole := ok__law_is_whole (P := P) (w := w) (base := base) C
  have F__law_is_whole := C.fun_ 69 (d := d__law_is_whole) rfl
  have B__law_is_whole := bi__law_is_whole C
  have g__law_is_whole := C.glo 120 rfl
  have f_all := C.free 4 rfl
  have sc := sc__law_is_row_of
  refine fn_mir (C.fun_ 70 (d := d__law_is_row_of) rfl) sc__law_is_row_of fun cdv A outer s H E p F0 hr => ?_
  exact dBone (dRet (dAndV (dCallB (m_isi isi) call_isi rfl f_isinstance bb_isinstance (dCons (dVar 0) (dCons (dTy rfl f_tuple bb_tuple) (dNil)))) (dOneV (dCallB m_all (cr_all rfl) rfl f_all bb_all (dCons (dFz (dLcO (own := [("_law_part_here", 1)]) rfl sc.nd (dIany (dVar 0)) (blkOk_by (by kernel_rfl)) (fun _ _ _ _ _ => dGn (i := 1) sc.nd rfl (by first | exact Or.inl rfl | exact Or.inr rfl)) (fun _ _ _ _ _ => dYes) (fun _ _ _ _ _ => dAndV (dCall G__law_is_whole (hr.mono (by decide)) rfl g__law_is_whole F__law_is_whole.kp B__law_is_whole (dCons (dVar 1) (dNil))) (dOneV (dCmp op_ge m_ge (dVar 1) (dInt) (nomark _)))))) (dNil))))))
theorem bi__law_is_told {K : PySem.W.Frag} {mg : Str → Option Value} (C : HF fa fn K mg) : Binds K (fdOf K (Pl.ad K (.glob "_law_is_told"))) ["_law_rule", "_law_shutet", "_law_bill", "_law_due"] [] := (C.fun_ 71 (d := d__law_is_told) rfl).bindsN fun _ _ _ _ _ _ us hl => match us, hl with | [_, _, _, _], _ => rfl
theorem ok__law_is_told [PF : PSup P supF] (C : HF fa fn K mg) : FO cs P w K mg base 10 (.glob "_law_is_told") ["_law_rule", "_law_shutet", "_law_bill", "_law_due"] 4 mf__law_is_told := by
  have G_Drain___call__ := ok_Drain___call__ (P := P) (w := w) (base := base) C
  have F_Drain___call__ := C.fun_ 34 (d := d_Drain___call__) rfl
  have B_Drain___call__ := bi_Drain___call__ C
  have co_Drain := call_ok' (C.fact 67 rfl)
  have G_Units___call__ := ok_Units___call__ (P := P) (w := w) (base := base) C
  have F_Units___call__ := C.fun_ 38 (d := d_Units___call__) rfl
  have B_Units___call__ := bi_Units___call__ C
  have co_Units := call_ok' (C.fact 78 rfl)
  have G_Spare___call__ := ok_Spare___call__ (P := P) (w := w) (base := base) C
  have F_Spare___call__ := C.fun_ 40 (d := d_Spare___call__) rfl
  have B_Spare___call__ := bi_Spare___call__ C
  have co_Spare := call_ok' (C.fact 83 rfl)
  have G__law_is_row_of := ok__law_is_row_of (P := P) (w := w) (base := base) C
  have F__law_is_row_of := C.fun_ 70 (d := d__law_is_row_of) rfl
  have B__law_is_row_of := bi__law_is_row_of C
  have g__law_is_row_of := C.glo 121 rfl
  have f_tuple := C.free 19 rfl
  have sc := sc__law_is_told
  refine fn_mir (C.fun_ 71 (d := d__law_is_told) rfl) sc__law_is_told fun cdv A outer s H E p F0 hr => ?_
  exact dBcons (dSet (i := 4) sc.nd rfl (by first | exact Or.inl rfl | exact Or.inr rfl) (dCls3 (dCallO (ck := "Drain") (dVar 0) co_Drain G_Drain___call__ (hr.mono (by decide)) B_Drain___call__ (dCons (dVar 1) (dCons (dVar 2) (dNil)))) (dCallO (ck := "Units") (dVar 0) co_Units G_Units___call__ (hr.mono (by decide)) B_Units___call__ (dCons (dVar 1) (dCons (dVar 2) (dNil)))) (dCallO (ck := "Spare") (dVar 0) co_Spare G_Spare___call__ (hr.mono (by decide)) B_Spare___call__ (dCons (dVar 1) (dCons (dVar 2) (dNil)))))) (dBone (dRet (dAndV (dCall G__law_is_row_of (hr.mono (by decide)) rfl g__law_is_row_of F__law_is_row_of.kp B__law_is_row_of (dCons (dVar 4) (dNil))) (dAndV (dCmp (op_eqD hr.units) m_eq (dVar 4) (dCallT m_tup call_tuple_of rfl f_tuple bb_tuple (dCons (dVar 3) (dNil))) (nomark _)) (dOneV (dCmp (op_eqD hr.units) m_eq (dCls3 (dCallO (ck := "Drain") (dVar 0) co_Drain G_Drain___call__ (hr.mono (by decide)) B_Drain___call__ (dCons (dVar 1) (dCons (dVar 2) (dNil)))) (dCallO (ck := "Units") (dVar 0) co_Units G_Units___call__ (hr.mono (by decide)) B_Units___call__ (dCons (dVar 1) (dCons (dVar 2) (dNil)))) (dCallO (ck := "Spare") (dVar 0) co_Spare G_Spare___call__ (hr.mono (by decide)) B_Spare___call__ (dCons (dVar 1) (dCons (dVar 2) (dNil))))) (dVar 4) (nomark _)))))))
theorem bi__law_times {K : PySem.W.Frag} {mg : Str → Option Value} (C : HF fa fn K mg) : Binds K (fdOf K (Pl.ad K (.glob "_law_times"))) ["_law_amounts", "_law_times_here"] [] := (C.fun_ 72 (d := d__law_times) rfl).bindsN fun _ _ _ _ _ _ us hl => match us, hl with | [_, _], _ => rfl
theorem ok__law_times [PF : PSup P supF] (C : HF fa fn K mg) : FO cs P w K mg base 1 (.glob "_law_times") ["_law_amounts", "_law_times_here"] 2 mf__law_times := by
  have sc := sc__law_times
  refine fn_mir (C.fun_ 72 (d := d__law_times) rfl) sc__law_times fun cdv A outer s H E p F0 hr => ?_
  exact dBone (dRet (dFz (dLcO (own := [("_law_balance", 2), ("_law_limit", 3)]) rfl sc.nd (dIany (dVar 0)) (blkOk_by (by kernel_rfl)) (fun _ _ _ _ _ => dGt (n := 2) rfl (dGcons (dGn (i := 2) sc.nd rfl (by first | exact Or.inl rfl | exact Or.inr rfl)) (dGcons (dGn (i := 3) sc.nd rfl (by first | exact Or.inl rfl | exact Or.inr rfl)) (dGnil)))) (fun _ _ _ _ _ => dYes) (fun _ _ _ _ _ => dTup (dCons (dBin op_mulA m_mul (dVar 2) (dVar 1)) (dCons (dBin op_mulA m_mul (dVar 3) (dVar 1)) (dNil)))))))
theorem bi_Wallet___str__ {K : PySem.W.Frag} {mg : Str → Option Value} (C : HF fa fn K mg) : Binds K (fdOf K (Pl.ad K (.meth "Wallet" "__str__"))) ["self"] [] := (C.fun_ 73 (d := d_Wallet___str__) rfl).bindsN fun _ _ _ _ _ _ us hl => match us, hl with | [_], _ => rfl
theorem ok_Wallet___str__ [PF : PSup P supF] (C : HF fa fn K mg) : FO cs P w K mg base 1 (.meth "Wallet" "__str__") ["self"] 1 mf_Wallet___str__ := by
  have n_Wallet_pairs := C.noat 26 rfl
  have c_Wallet := C.cls 27 rfl
  have n_Card_held := C.noat 12 rfl
  have c_Card := C.cls 13 rfl
  have n_Card_daily := C.noat 14 rfl
  have sc := sc_Wallet___str__
  refine fn_mir (C.fun_ 73 (d := d_Wallet___str__) rfl) sc_Wallet___str__ fun cdv A outer s H E p F0 hr => ?_
  exact dBone (dRet (dJoin (dStr) (dFz (dLcO (own := [("name", 1), ("card", 2)]) rfl sc.nd (dIany (dFld (ck := "Wallet") (ks := ["pairs"]) 0 rfl (by decide) c_Wallet n_Wallet_pairs (dVar 0))) (blkOk_by (by kernel_rfl)) (fun _ _ _ _ _ => dGt (n := 2) rfl (dGcons (dGn (i := 1) sc.nd rfl (by first | exact Or.inl rfl | exact Or.inr rfl)) (dGcons (dGn (i := 2) sc.nd rfl (by first | exact Or.inl rfl | exact Or.inr rfl)) (dGnil)))) (fun _ _ _ _ _ => dYes) (fun _ _ _ _ _ => dFs (DJ.cons (dFmt (dVar 1)) (DJ.cons (dStr) (DJ.cons (dFmt (dFld (ck := "Card") (ks := ["held", "daily"]) 0 rfl (by decide) c_Card n_Card_held (dVar 2))) (DJ.cons (dStr) (DJ.cons (dFmt (dFld (ck := "Card") (ks := ["held", "daily"]) 1 rfl (by decide) c_Card n_Card_daily (dVar 2))) (DJ.nil)))))))))))
theorem bi__law_shutet_text {K : PySem.W.Frag} {mg : Str → Option Value} (C : HF fa fn K mg) : Binds K (fdOf K (Pl.ad K (.glob "_law_shutet_text"))) ["_law_names", "_law_amounts"] [] := (C.fun_ 74 (d := d__law_shutet_text) rfl).bindsN fun _ _ _ _ _ _ us hl => match us, hl with | [_, _], _ => rfl
theorem ok__law_shutet_text [PF : PSup P supF] (C : HF fa fn K mg) : FO cs P w K mg base 1 (.glob "_law_shutet_text") ["_law_names", "_law_amounts"] 2 mf__law_shutet_text := by
  have f_len := C.free 7 rfl
  have f_range := C.free 50 rfl
  have f_str := C.free 1 rfl
  have sc := sc__law_shutet_text
  refine fn_mir (C.fun_ 74 (d := d__law_shutet_text) rfl) sc__law_shutet_text fun cdv A outer s H E p F0 hr => ?_
  exact dBcons (dSetO (i := 2) sc.nd rfl (by first | exact Or.inl rfl | exact Or.inr rfl) (dLstO (dNil))) (dBcons (dFor PassesOwn.never rfl (dIrng1 rfl f_range (dCons (dCallB m_len call_lenA rfl f_len bb_len (dCons (dVar 1) (dNil))) (dNil))) (dGn (i := 3) sc.nd rfl (by first | exact Or.inl rfl | exact Or.inr rfl)) (dBcons (dAsg (dIx ix_seq m_ix (dVar 1) (dVar 3)) (dGt (n := 2) rfl (dGcons (dGn (i := 4) sc.nd rfl (by first | exact Or.inl rfl | exact Or.inr rfl)) (dGcons (dGn (i := 5) sc.nd rfl (by first | exact Or.inl rfl | exact Or.inr rfl)) (dGnil))))) (dBone (dApp 2 (dBin op_addA m_add (dBin op_addA m_add (dBin op_addA m_add (dBin op_addA m_add (dIx ix_seq m_ix (dVar 0) (dVar 3)) (dStr)) (dCallT m_strI call_str_int rfl f_str bb_str (dCons (dVar 4) (dNil)))) (dStr)) (dCallT m_strI call_str_int rfl f_str bb_str (dCons (dVar 5) (dNil)))))))) (dBone (dFrzS 2 (dRet (dJoin (dStr) (dVar 2))))))
theorem bi__law_right {K : PySem.W.Frag} {mg : Str → Option Value} (C : HF fa fn K mg) : Binds K (fdOf K (Pl.ad K (.glob "_law_right"))) ["_law_pool"] [] := (C.fun_ 75 (d := d__law_right) rfl).bindsN fun _ _ _ _ _ _ us hl => match us, hl with | [_], _ => rfl
theorem ok__law_right [PF : PSup P supF] (C : HF fa fn K mg) : FO cs P w K mg base 11 (.glob "_law_right") ["_law_pool"] 1 mf__law_right := by
  have f_range := C.free 50 rfl
  have G__law_some_alike := ok__law_some_alike (P := P) (w := w) (base := base) C
  have F__law_some_alike := C.fun_ 43 (d := d__law_some_alike) rfl
  have B__law_some_alike := bi__law_some_alike C
  have G__law_drawn_amounts := ok__law_drawn_amounts (P := P) (w := w) (base := base) C
  have F__law_drawn_amounts := C.fun_ 48 (d := d__law_drawn_amounts) rfl
  have B__law_drawn_amounts := bi__law_drawn_amounts C
  have g__law_drawn_amounts := C.glo 92 rfl
  have g__law_some_alike := C.glo 93 rfl
  have G__law_drawn_names := ok__law_drawn_names (P := P) (w := w) (base := base) C
  have F__law_drawn_names := C.fun_ 50 (d := d__law_drawn_names) rfl
  have B__law_drawn_names := bi__law_drawn_names C
  have f_len := C.free 7 rfl
  have g__law_drawn_names := C.glo 95 rfl
  have G__law_drawn_keys := ok__law_drawn_keys (P := P) (w := w) (base := base) C
  have F__law_drawn_keys := C.fun_ 51 (d := d__law_drawn_keys) rfl
  have B__law_drawn_keys := bi__law_drawn_keys C
  have G__law_draw := ok__law_draw (P := P) (w := w) (base := base) C
  have F__law_draw := C.fun_ 42 (d := d__law_draw) rfl
  have B__law_draw := bi__law_draw C
  have g__law_draw := C.glo 87 rfl
  have g__law_drawn_keys := C.glo 96 rfl
  have G__law_made_shutet := ok__law_made_shutet (P := P) (w := w) (base := base) C
  have F__law_made_shutet := C.fun_ 52 (d := d__law_made_shutet) rfl
  have B__law_made_shutet := bi__law_made_shutet C
  have g__law_made_shutet := C.glo 97 rfl
  have G__law_drawn_bill := ok__law_drawn_bill (P := P) (w := w) (base := base) C
  have F__law_drawn_bill := C.fun_ 55 (d := d__law_drawn_bill) rfl
  have B__law_drawn_bill := bi__law_drawn_bill C
  have g__law_drawn_bill := C.glo 100 rfl
  have G__law_due_of := ok__law_due_of (P := P) (w := w) (base := base) C
  have F__law_due_of := C.fun_ 63 (d := d__law_due_of) rfl
  have B__law_due_of := bi__law_due_of C
  have g__law_due_of := C.glo 109 rfl
  have G__law_made_rule := ok__law_made_rule (P := P) (w := w) (base := base) C
  have F__law_made_rule := C.fun_ 68 (d := d__law_made_rule) rfl
  have B__law_made_rule := bi__law_made_rule C
  have g__law_made_rule := C.glo 119 rfl
  have G__law_is_told := ok__law_is_told (P := P) (w := w) (base := base) C
  have F__law_is_told := C.fun_ 71 (d := d__law_is_told) rfl
  have B__law_is_told := bi__law_is_told C
  have g__law_is_told := C.glo 122 rfl
  have G__law_drawn_large := ok__law_drawn_large (P := P) (w := w) (base := base) C
  have F__law_drawn_large := C.fun_ 45 (d := d__law_drawn_large) rfl
  have B__law_drawn_large := bi__law_drawn_large C
  have g__law_drawn_large := C.glo 89 rfl
  have G__law_times := ok__law_times (P := P) (w := w) (base := base) C
  have F__law_times := C.fun_ 72 (d := d__law_times) rfl
  have B__law_times := bi__law_times C
  have g__law_times := C.glo 123 rfl
  have G_Wallet___str__ := ok_Wallet___str__ (P := P) (w := w) (base := base) C
  have F_Wallet___str__ := C.fun_ 73 (d := d_Wallet___str__) rfl
  have B_Wallet___str__ := bi_Wallet___str__ C
  have oS_Wallet___str__ := own_ok (C.fact 124 rfl)
  have f_str := C.free 1 rfl
  have G__law_shutet_text := ok__law_shutet_text (P := P) (w := w) (base := base) C
  have F__law_shutet_text := C.fun_ 74 (d := d__law_shutet_text) rfl
  have B__law_shutet_text := bi__law_shutet_text C
  have g__law_shutet_text := C.glo 125 rfl
  have sc := sc__law_right
  refine fn_mir (C.fun_ 75 (d := d__law_right) rfl) sc__law_right fun cdv A outer s H E p F0 hr => ?_
  exact dBcons (dFor PassesOwn.never rfl (dIrng1 rfl f_range (dCons (dInt) (dNil))) (dGn (i := 1) sc.nd rfl (by first | exact Or.inl rfl | exact Or.inr rfl)) (dBcons (dSet (i := 2) sc.nd rfl (by first | exact Or.inl rfl | exact Or.inr rfl) (dCall G__law_some_alike (hr.mono (by decide)) rfl g__law_some_alike F__law_some_alike.kp B__law_some_alike (dCons (dVar 0) (dCons (dCall G__law_drawn_amounts (hr.mono (by decide)) rfl g__law_drawn_amounts F__law_drawn_amounts.kp B__law_drawn_amounts (dCons (dVar 0) (dNil))) (dNil))))) (dBcons (dSet (i := 3) sc.nd rfl (by first | exact Or.inl rfl | exact Or.inr rfl) (dCall G__law_drawn_names (hr.mono (by decide)) rfl g__law_drawn_names F__law_drawn_names.kp B__law_drawn_names (dCons (dVar 0) (dCons (dCallB m_len call_lenA rfl f_len bb_len (dCons (dVar 2) (dNil))) (dNil))))) (dBcons (dAsg (dTup (dCons (dCall G__law_made_shutet (hr.mono (by decide)) rfl g__law_made_shutet F__law_made_shutet.kp B__law_made_shutet (dCons (dVar 3) (dCons (dVar 2) (dNil)))) (dCons (dCall G__law_drawn_keys (hr.mono (by decide)) rfl g__law_drawn_keys F__law_drawn_keys.kp B__law_drawn_keys (dCons (dVar 0) (dCons (dBin op_addA m_add (dInt) (dCall G__law_draw (hr.mono (by decide)) rfl g__law_draw F__law_draw.kp B__law_draw (dCons (dVar 0) (dCons (dInt) (dNil))))) (dNil)))) (dNil)))) (dGt (n := 2) rfl (dGcons (dGn (i := 4) sc.nd rfl (by first | exact Or.inl rfl | exact Or.inr rfl)) (dGcons (dGn (i := 5) sc.nd rfl (by first | exact Or.inl rfl | exact Or.inr rfl)) (dGnil))))) (dBcons (dSet (i := 6) sc.nd rfl (by first | exact Or.inl rfl | exact Or.inr rfl) (dCall G__law_drawn_bill (hr.mono (by decide)) rfl g__law_drawn_bill F__law_drawn_bill.kp B__law_drawn_bill (dCons (dVar 0) (dCons (dVar 2) (dCons (dBin op_pow m_pow (dInt) (dInt)) (dNil)))))) (dBcons (dSet (i := 7) sc.nd rfl (by first | exact Or.inl rfl | exact Or.inr rfl) (dCall G__law_due_of (hr.mono (by decide)) rfl g__law_due_of F__law_due_of.kp B__law_due_of (dCons (dStr) (dCons (dVar 5) (dCons (dVar 2) (dCons (dVar 6) (dNil))))))) (dBcons (dSet (i := 8) sc.nd rfl (by first | exact Or.inl rfl | exact Or.inr rfl) (dCall G__law_made_rule (hr.mono (by decide)) rfl g__law_made_rule F__law_made_rule.kp B__law_made_rule (dCons (dStr) (dCons (dVar 5) (dNil))))) (dBcons (dIfS (dNotT (dTst (dCall G__law_is_told (hr.mono (by decide)) rfl g__law_is_told F__law_is_told.kp B__law_is_told (dCons (dVar 8) (dCons (dVar 4) (dCons (dVar 6) (dCons (dVar 7) (dNil)))))))) (dBone (dRet (dBl))) (dBnil)) (dBcons (dLcSet 9 [] (own := [("_law_k", 13)]) rfl sc.nd rfl rfl (sw_true rfl rfl rfl (by kernel_rfl)) (dIrng1 rfl f_range (dCons (dCallB m_len call_lenA rfl f_len bb_len (dCons (dVar 5) (dNil))) (dNil))) (blkOk_by (by kernel_rfl)) (fun _ _ _ _ _ => dGn (i := 13) sc.nd rfl (by first | exact Or.inl rfl | exact Or.inr rfl)) (fun _ _ _ _ _ => pts_one (dTcmp op_inA m_in (dIx ix_seq m_ix (dVar 5) (dVar 13)) (dFz (dLstO (dCons (dStr) (dCons (dStr) (dNil))))) rfl)) (fun _ _ _ _ _ => dVar 13)) (dBcons (dSet (i := 10) sc.nd rfl (by first | exact Or.inl rfl | exact Or.inr rfl) (dIf (dTcmp (op_eqD hr.units) m_eq (dVar 9) (dFz (dLstO (dNil))) (nomark _)) (dBin op_addA m_add (dVar 5) (dFz (dLstO (dCons (dStr) (dNil))))) (dSl (dVar 5) (dOn) (dOs (dBin op_addA m_add (dIx ix_seq m_ix (dVar 9) (dInt)) (dInt)))))) (dBcons (dIfS (dNotT (dTst (dCall G__law_is_told (hr.mono (by decide)) rfl g__law_is_told F__law_is_told.kp B__law_is_told (dCons (dCall G__law_made_rule (hr.mono (by decide)) rfl g__law_made_rule F__law_made_rule.kp B__law_made_rule (dCons (dStr) (dCons (dVar 10) (dNil)))) (dCons (dVar 4) (dCons (dVar 6) (dCons (dVar 7) (dNil)))))))) (dBone (dRet (dBl))) (dBnil)) (dBcons (dSet (i := 11) sc.nd rfl (by first | exact Or.inl rfl | exact Or.inr rfl) (dBin op_addA m_add (dInt) (dIf (dTcmp (op_eqD hr.units) m_eq (dCall G__law_draw (hr.mono (by decide)) rfl g__law_draw F__law_draw.kp B__law_draw (dCons (dVar 0) (dCons (dInt) (dNil)))) (dInt) (nomark _)) (dCall G__law_drawn_large (hr.mono (by decide)) rfl g__law_drawn_large F__law_drawn_large.kp B__law_drawn_large (dCons (dVar 0) (dNil))) (dCall G__law_draw (hr.mono (by decide)) rfl g__law_draw F__law_draw.kp B__law_draw (dCons (dVar 0) (dCons (dInt) (dNil))))))) (dBcons (dSet (i := 12) sc.nd rfl (by first | exact Or.inl rfl | exact Or.inr rfl) (dCall G__law_made_shutet (hr.mono (by decide)) rfl g__law_made_shutet F__law_made_shutet.kp B__law_made_shutet (dCons (dVar 3) (dCons (dCall G__law_times (hr.mono (by decide)) rfl g__law_times F__law_times.kp B__law_times (dCons (dVar 2) (dCons (dVar 11) (dNil)))) (dNil))))) (dBcons (dIfS (dNotT (dTst (dCall G__law_is_told (hr.mono (by decide)) rfl g__law_is_told F__law_is_told.kp B__law_is_told (dCons (dVar 8) (dCons (dVar 12) (dCons (dBin op_mulA m_mul (dVar 6) (dVar 11)) (dCons (dFz (dLcO (own := [("_law_part_here", 14)]) rfl sc.nd (dIany (dVar 7)) (blkOk_by (by kernel_rfl)) (fun _ _ _ _ _ => dGn (i := 14) sc.nd rfl (by first | exact Or.inl rfl | exact Or.inr rfl)) (fun _ _ _ _ _ => dYes) (fun _ _ _ _ _ => dBin op_mulA m_mul (dVar 14) (dVar 11)))) (dNil)))))))) (dBone (dRet (dBl))) (dBnil)) (dBone (dIfS (dTcmp op_ne m_neS (dStrO (ck := "Wallet") G_Wallet___str__ (hr.mono (by decide)) B_Wallet___str__ oS_Wallet___str__ rfl f_str (dVar 4)) (dCall G__law_shutet_text (hr.mono (by decide)) rfl g__law_shutet_text F__law_shutet_text.kp B__law_shutet_text (dCons (dVar 3) (dCons (dVar 2) (dNil)))) (nomark _)) (dBone (dRet (dBl))) (dBnil))))))))))))))))) (dBone (dRet (dBl)))
theorem bi__law_made_pool {K : PySem.W.Frag} {mg : Str → Option Value} (C : HF fa fn K mg) : Binds K (fdOf K (Pl.ad K (.glob "_law_made_pool"))) ["_law_cell"] [] := (C.fun_ 76 (d := d__law_made_pool) rfl).bindsN fun _ _ _ _ _ _ us hl => match us, hl with | [_], _ => rfl
theorem okL__law_made_pool [PF : PSup P supF] (C : HF fa fn K mg) : FnOk P w K mg base CX0 1 (Pl.ad K (.glob "_law_made_pool")) (fdOf K (Pl.ad K (.glob "_law_made_pool"))) ["_law_cell"] (spL (WW cs K) 1 mfL__law_made_pool) := by
  have f_abs := C.free 126 rfl
  have f_int := C.free 5 rfl
  have sc := sc__law_made_pool
  refine fn_mirL (C.fun_ 76 (d := d__law_made_pool) rfl) sc__law_made_pool fun cdv A outer s H E p F0 hr => ?_
  exact dBcons (dSet (i := 1) sc.nd rfl (by first | exact Or.inl rfl | exact Or.inr rfl) (dIf (PW.pt (dOrT (dTcmp op_lt m_lt (dVar 0) (dInt) (nomark _)) (dOr1 (dTcmp op_ge m_ge (dVar 0) (dBin op_pow m_pow (dInt) (dInt)) (nomark _))))) (dCallB m_abs call_abs rfl f_abs bb_abs (dCons (dVar 0) (dNil))) (dInt))) (dBone (dRetL (dLstO (dCons (dBin op_mod m_mod (dCallT m_int1 call_int1 rfl f_int bb_int (dCons (dVar 0) (dNil))) (dInt)) (dCons (dBin op_mod m_mod (dCallT m_int1 call_int1 rfl f_int bb_int (dCons (dBin op_addA m_add (dBin op_fdivW m_fdiv (dVar 0) (dInt)) (dInt)) (dNil))) (dInt)) (dCons (dVar 1) (dCons (dInt) (dNil))))))))
theorem bi__law_cell_at {K : PySem.W.Frag} {mg : Str → Option Value} (C : HF fa fn K mg) : Binds K (fdOf K (Pl.ad K (.glob "_law_cell_at"))) ["_law_cells", "_law_k"] [] := (C.fun_ 77 (d := d__law_cell_at) rfl).bindsN fun _ _ _ _ _ _ us hl => match us, hl with | [_, _], _ => rfl
theorem ok__law_cell_at [PF : PSup P supF] (C : HF fa fn K mg) : FO cs P w K mg base 1 (.glob "_law_cell_at") ["_law_cells", "_law_k"] 2 mf__law_cell_at := by
  have f_len := C.free 7 rfl
  have f_int := C.free 5 rfl
  have sc := sc__law_cell_at
  refine fn_mir (C.fun_ 77 (d := d__law_cell_at) rfl) sc__law_cell_at fun cdv A outer s H E p F0 hr => ?_
  exact dBcons (dIfS (dTcmp op_lt m_lt (dVar 1) (dCallB m_len call_lenA rfl f_len bb_len (dCons (dVar 0) (dNil))) (nomark _)) (dBone (dRet (dIx ix_seq m_ix (dVar 0) (dVar 1)))) (dBnil)) (dBcons (dSet (i := 2) sc.nd rfl (by first | exact Or.inl rfl | exact Or.inr rfl) (dBin op_mod m_mod (dCallT m_int1 call_int1 rfl f_int bb_int (dCons (dBin op_addA m_add (dBin op_addA m_add (dBin op_mulA m_mul (dBin op_mulA m_mul (dVar 1) (dVar 1)) (dInt)) (dBin op_mulA m_mul (dVar 1) (dInt))) (dInt)) (dNil))) (dInt))) (dBcons (dFor PassesOwn.never rfl (dIany (dSl (dVar 0) (dOn) (dOs (dInt)))) (dGn (i := 3) sc.nd rfl (by first | exact Or.inl rfl | exact Or.inr rfl)) (dBone (dSet (i := 2) sc.nd rfl (by first | exact Or.inl rfl | exact Or.inr rfl) (dBin op_mod m_mod (dCallT m_int1 call_int1 rfl f_int bb_int (dCons (dBin op_addA m_add (dBin op_mulA m_mul (dVar 2) (dInt)) (dVar 3)) (dNil))) (dInt))))) (dBone (dRet (dVar 2)))))
theorem bi_law {K : PySem.W.Frag} {mg : Str → Option Value} (C : HF fa fn K mg) : Binds K (fdOf K (Pl.ad K (.glob "law"))) ["_law_script"] [] := (C.fun_ 78 (d := d_law) rfl).bindsN fun _ _ _ _ _ _ us hl => match us, hl with | [_], _ => rfl
theorem ok_law [PF : PSup P supF] (C : HF fa fn K mg) : FO cs P w K mg base 12 (.glob "law") ["_law_script"] 1 mf_law := by
  have G__law_by_hand := ok__law_by_hand (P := P) (w := w) (base := base) C
  have F__law_by_hand := C.fun_ 41 (d := d__law_by_hand) rfl
  have B__law_by_hand := bi__law_by_hand C
  have g__law_by_hand := C.glo 84 rfl
  have f_len := C.free 7 rfl
  have f_min := C.free 40 rfl
  have f_max := C.free 85 rfl
  have f_range := C.free 50 rfl
  have G__law_right := ok__law_right (P := P) (w := w) (base := base) C
  have F__law_right := C.fun_ 75 (d := d__law_right) rfl
  have B__law_right := bi__law_right C
  have GL__law_made_pool := okL__law_made_pool (P := P) (w := w) (base := base) C
  have F__law_made_pool := C.fun_ 76 (d := d__law_made_pool) rfl
  have B__law_made_pool := bi__law_made_pool C
  have G__law_cell_at := ok__law_cell_at (P := P) (w := w) (base := base) C
  have F__law_cell_at := C.fun_ 77 (d := d__law_cell_at) rfl
  have B__law_cell_at := bi__law_cell_at C
  have g__law_cell_at := C.glo 127 rfl
  have g__law_made_pool := C.glo 128 rfl
  have g__law_right := C.glo 129 rfl
  have f_all := C.free 4 rfl
  have sc := sc_law
  refine fn_mir (C.fun_ 78 (d := d_law) rfl) sc_law fun cdv A outer s H E p F0 hr => ?_
  exact dBcons (dIfS (dNotT (dTst (dCall0 G__law_by_hand (hr.mono (by decide)) rfl g__law_by_hand F__law_by_hand.kp B__law_by_hand))) (dBone (dRet (dBl))) (dBnil)) (dBone (dRet (dCallB m_all (cr_all rfl) rfl f_all bb_all (dCons (dFz (dLcO (own := [("_law_k", 1)]) rfl sc.nd (dIrng1 rfl f_range (dCons (dCallB m_max (cr_maxA rfl) rfl f_max bb_max (dCons (dInt) (dCons (dCallB m_min (cr_minA rfl) rfl f_min bb_min (dCons (dCallB m_len call_lenA rfl f_len bb_len (dCons (dVar 0) (dNil))) (dCons (dInt) (dNil)))) (dNil)))) (dNil))) (blkOk_by (by kernel_rfl)) (fun _ _ _ _ _ => dGn (i := 1) sc.nd rfl (by first | exact Or.inl rfl | exact Or.inr rfl)) (fun _ _ _ _ _ => dYes) (fun _ _ _ _ _ => dWith G__law_right (hr.mono (by decide)) rfl g__law_right F__law_right.kp B__law_right (dCallL GL__law_made_pool (hr.mono (by decide)) rfl g__law_made_pool F__law_made_pool.kp B__law_made_pool (dCons (dCall G__law_cell_at (hr.mono (by decide)) rfl g__law_cell_at F__law_cell_at.kp B__law_cell_at (dCons (dVar 0) (dCons (dVar 1) (dNil)))) (dNil)))))) (dNil)))))
theorem glaw (C : HF fa fn K mg) : mg "law" = some (.ref (ga K "law")) := C.glo 130 rfl
theorem flaw (C : HF fa fn K mg) : FunP K d_law := C.fun_ 78 rfl
end
end G64

set_option Elab.async false
set_option linter.all false
set_option maxRecDepth 100000
set_option maxHeartbeats 4000000
/-! S4g: orders of cards by keys, plain. -/
namespace S4
/-! ### insertion -/
section
variable {α β : Type}
def insF (lt : α → α → Bool) (c : α) : List α → List α
  | [] => [c]
  | x :: xs => if lt x c then x :: insF lt c xs else c :: x :: xs
def isF (lt : α → α → Bool) (xs : List α) : List α := xs.foldl (fun acc c => insF lt c acc) []
theorem insF_perm (lt : α → α → Bool) (c : α) : ∀ xs : List α, (insF lt c xs).Perm (c :: xs)
  | [] => List.Perm.refl _
  | x :: xs => by
    unfold insF
    split
    · exact ((insF_perm lt c xs).cons x).trans (List.Perm.swap c x xs)
    · exact List.Perm.refl _
theorem foldF_perm (lt : α → α → Bool) : ∀ (xs acc : List α), (xs.foldl (fun acc c => insF lt c acc) acc).Perm (xs ++ acc)
  | [], acc => List.Perm.refl _
  | x :: xs, acc => by
    rw [List.foldl_cons]
    refine (foldF_perm lt xs _).trans ?_
    refine ((insF_perm lt x acc).append_left xs).trans ?_
    exact List.perm_middle
theorem isF_perm (lt : α → α → Bool) (xs : List α) : (isF lt xs).Perm xs := by
  have h := foldF_perm lt xs []
  rw [List.append_nil] at h
  exact h
/-- tr: what is ahead stays ahead; tot: one of two is ahead -/
theorem insF_sorted (lt : α → α → Bool) (tr : ∀ x y z, lt x y = true → lt y z = true → lt x z = true) (c : α) : ∀ xs : List α, (∀ x ∈ xs, lt x c = true ∨ lt c x = true) → xs.Pairwise (fun x y => lt x y = true) → (insF lt c xs).Pairwise (fun x y => lt x y = true)
  | [], _, _ => List.pairwise_singleton _ _
  | x :: xs, tot, h => by
    obtain ⟨h1, h2⟩ := List.pairwise_cons.mp h
    unfold insF
    split
    · rename_i e
      refine List.pairwise_cons.mpr ⟨fun y hy => ?_, insF_sorted lt tr c xs (fun y hy => tot y (List.mem_cons_of_mem _ hy)) h2⟩
      rcases List.mem_cons.mp ((insF_perm lt c xs).mem_iff.mp hy) with rfl | hy
      · exact e
      · exact h1 y hy
    · rename_i e
      have e2 : lt c x = true := (tot x List.mem_cons_self).resolve_left e
      refine List.pairwise_cons.mpr ⟨fun y hy => ?_, h⟩
      rcases List.mem_cons.mp hy with rfl | hy
      · exact e2
      · exact tr c x y e2 (h1 y hy)
theorem foldF_sorted (lt : α → α → Bool) (tr : ∀ x y z, lt x y = true → lt y z = true → lt x z = true) : ∀ (xs acc : List α), (∀ x ∈ acc, ∀ c ∈ xs, lt x c = true ∨ lt c x = true) → xs.Pairwise (fun x y => lt x y = true ∨ lt y x = true) → acc.Pairwise (fun x y => lt x y = true) →
    (xs.foldl (fun acc c => insF lt c acc) acc).Pairwise (fun x y => lt x y = true)
  | [], acc, _, _, h => h
  | c :: xs, acc, h1, h2, h => by
    obtain ⟨h3, h4⟩ := List.pairwise_cons.mp h2
    rw [List.foldl_cons]
    refine foldF_sorted lt tr xs _ (fun x hx d hd => ?_) h4 (insF_sorted lt tr c acc (fun x hx => h1 x hx c List.mem_cons_self) h)
    rcases List.mem_cons.mp ((insF_perm lt c acc).mem_iff.mp hx) with rfl | hx
    · exact h3 d hd
    · exact h1 x hx d (List.mem_cons_of_mem _ hd)
theorem isF_sorted (lt : α → α → Bool) (tr : ∀ x y z, lt x y = true → lt y z = true → lt x z = true) {xs : List α} (h : xs.Pairwise (fun x y => lt x y = true ∨ lt y x = true)) : (isF lt xs).Pairwise (fun x y => lt x y = true) :=
  foldF_sorted lt tr xs [] (fun x hx => absurd hx (by simp)) h List.Pairwise.nil
theorem insF_congr (lt lt' : α → α → Bool) (c : α) : ∀ xs : List α, (∀ x ∈ xs, lt x c = lt' x c) → insF lt c xs = insF lt' c xs
  | [], _ => rfl
  | x :: xs, h => by
    unfold insF
    rw [h x List.mem_cons_self, insF_congr lt lt' c xs fun y hy => h y (List.mem_cons_of_mem _ hy)]
theorem foldF_congr (lt lt' : α → α → Bool) : ∀ (xs acc : List α), (∀ x ∈ acc, ∀ c ∈ xs, lt x c = lt' x c) → xs.Pairwise (fun x c => lt x c = lt' x c) →
    xs.foldl (fun acc c => insF lt c acc) acc = xs.foldl (fun acc c => insF lt' c acc) acc
  | [], _, _, _ => rfl
  | c :: xs, acc, h1, h2 => by
    obtain ⟨h3, h4⟩ := List.pairwise_cons.mp h2
    rw [List.foldl_cons, List.foldl_cons, insF_congr lt lt' c acc fun x hx => h1 x hx c List.mem_cons_self]
    refine foldF_congr lt lt' xs _ (fun x hx d hd => ?_) h4
    rcases List.mem_cons.mp ((insF_perm lt' c acc).mem_iff.mp hx) with rfl | hx
    · exact h3 d hd
    · exact h1 x hx d (List.mem_cons_of_mem _ hd)
theorem isF_congr {lt lt' : α → α → Bool} {xs : List α} (h : xs.Pairwise (fun x c => lt x c = lt' x c)) : isF lt xs = isF lt' xs :=
  foldF_congr lt lt' xs [] (fun x hx => absurd hx (by simp)) h
theorem insF_map (lt : β → β → Bool) (f : α → β) (c : α) : ∀ xs : List α, insF lt (f c) (xs.map f) = (insF (fun x y => lt (f x) (f y)) c xs).map f
  | [] => rfl
  | x :: xs => by
    show (if lt (f x) (f c) = true then f x :: insF lt (f c) (xs.map f) else f c :: f x :: xs.map f) = List.map f (if lt (f x) (f c) = true then x :: insF _ c xs else c :: x :: xs)
    rw [insF_map lt f c xs]
    split <;> rfl
theorem foldF_map (lt : β → β → Bool) (f : α → β) : ∀ (xs acc : List α), (xs.map f).foldl (fun acc c => insF lt c acc) (acc.map f) = (xs.foldl (fun acc c => insF (fun x y => lt (f x) (f y)) c acc) acc).map f
  | [], _ => rfl
  | c :: xs, acc => by
    rw [List.map_cons, List.foldl_cons, List.foldl_cons, insF_map, foldF_map lt f xs]
theorem isF_map (lt : β → β → Bool) (f : α → β) (xs : List α) : isF lt (xs.map f) = (isF (fun x y => lt (f x) (f y)) xs).map f := foldF_map lt f xs []
end
open PySem
/-! ### keys -/
/-- a card with its place: place, balance, limit -/
abbrev Cd := Int × Int × Int
abbrev keys8 : List Str := ["most", "least", "wide", "narrow", "long", "short", "early", "late"]
/-- the greater first -/
def upF (w : Str) (x y : Cd) : Int :=
  if w = "early" ∨ w = "late" then y.1 - x.1
  else if w = "most" ∨ w = "least" then x.2.1 - y.2.1
  else if w = "wide" ∨ w = "narrow" then x.2.2 - y.2.2
  else x.2.1 * y.2.2 - y.2.1 * x.2.2
def leadF (w : Str) (x y : Cd) : Int := if w = "least" ∨ w = "narrow" ∨ w = "short" ∨ w = "late" then 0 - upF w x y else upF w x y
def aheadF : List Str → Cd → Cd → Bool
  | [], x, y => decide (x.1 < y.1)
  | w :: ws, x, y => if leadF w x y ≠ 0 then decide (0 < leadF w x y) else aheadF ws x y
def rankF (W : Int) (w : Str) (c : Cd) : Int :=
  if w = "early" ∨ w = "late" then (if w = "early" then c.1 else 0 - c.1)
  else if w = "wide" ∨ w = "narrow" then (if w = "narrow" then c.2.2 else 0 - c.2.2)
  else if w = "most" ∨ w = "least" then (if w = "least" then c.2.1 else 0 - c.2.1)
  else (if w = "short" then c.2.1 * (W / c.2.2) else 0 - c.2.1 * (W / c.2.2))
def ranksF (W : Int) (ws : List Str) (c : Cd) : List Int := ws.map (rankF W · c) ++ [c.1]
theorem mul_days {W a b c d : Int} (hb : 0 < b) (hd : 0 < d) (h1 : W / b * b = W) (h2 : W / d * d = W) (hW : 0 < W) : (a * (W / b) < c * (W / d) ↔ a * d < c * b) := by
  have e1 : a * (W / b) * (b * d) = W * (a * d) := by
    calc a * (W / b) * (b * d) = (W / b * b) * (a * d) := by ac_rfl
      _ = W * (a * d) := by rw [h1]
  have e2 : c * (W / d) * (b * d) = W * (c * b) := by
    calc c * (W / d) * (b * d) = (W / d * d) * (c * b) := by ac_rfl
      _ = W * (c * b) := by rw [h2]
  have hbd : 0 < b * d := Int.mul_pos hb hd
  constructor
  · intro h
    have h3 := Int.mul_lt_mul_of_pos_right h hbd
    rw [e1, e2] at h3
    exact Int.lt_of_mul_lt_mul_left h3 (Int.le_of_lt hW)
  · intro h
    have h3 := Int.mul_lt_mul_of_pos_left h hW
    rw [← e1, ← e2] at h3
    exact Int.lt_of_mul_lt_mul_right h3 (Int.le_of_lt hbd)
theorem lead_rank {W : Int} {w : Str} {x y : Cd} (hw : w ∈ keys8) (hx : 0 < x.2.2) (hy : 0 < y.2.2) (dx : W / x.2.2 * x.2.2 = W) (dy : W / y.2.2 * y.2.2 = W) (hW : 0 < W) :
    (0 < leadF w x y ↔ rankF W w x < rankF W w y) ∧ (leadF w x y < 0 ↔ rankF W w y < rankF W w x) := by
  have m1 := mul_days (a := x.2.1) (c := y.2.1) hx hy dx dy hW
  have m2 := mul_days (a := y.2.1) (c := x.2.1) hy hx dy dx hW
  have hk : w = "most" ∨ w = "least" ∨ w = "wide" ∨ w = "narrow" ∨ w = "long" ∨ w = "short" ∨ w = "early" ∨ w = "late" := by simpa [keys8] using hw
  rcases hk with rfl | rfl | rfl | rfl | rfl | rfl | rfl | rfl
  · have e1 : leadF "most" x y = x.2.1 - y.2.1 := rfl
    have e2 : ∀ c : Cd, rankF W "most" c = 0 - c.2.1 := fun c => rfl
    rw [e1, e2, e2]; omega
  · have e1 : leadF "least" x y = 0 - (x.2.1 - y.2.1) := rfl
    have e2 : ∀ c : Cd, rankF W "least" c = c.2.1 := fun c => rfl
    rw [e1, e2, e2]; omega
  · have e1 : leadF "wide" x y = x.2.2 - y.2.2 := rfl
    have e2 : ∀ c : Cd, rankF W "wide" c = 0 - c.2.2 := fun c => rfl
    rw [e1, e2, e2]; omega
  · have e1 : leadF "narrow" x y = 0 - (x.2.2 - y.2.2) := rfl
    have e2 : ∀ c : Cd, rankF W "narrow" c = c.2.2 := fun c => rfl
    rw [e1, e2, e2]; omega
  · have e1 : leadF "long" x y = x.2.1 * y.2.2 - y.2.1 * x.2.2 := rfl
    have e2 : ∀ c : Cd, rankF W "long" c = 0 - c.2.1 * (W / c.2.2) := fun c => rfl
    rw [e1, e2, e2]; omega
  · have e1 : leadF "short" x y = 0 - (x.2.1 * y.2.2 - y.2.1 * x.2.2) := rfl
    have e2 : ∀ c : Cd, rankF W "short" c = c.2.1 * (W / c.2.2) := fun c => rfl
    rw [e1, e2, e2]; omega
  · have e1 : leadF "early" x y = y.1 - x.1 := rfl
    have e2 : ∀ c : Cd, rankF W "early" c = c.1 := fun c => rfl
    rw [e1, e2, e2]; omega
  · have e1 : leadF "late" x y = 0 - (y.1 - x.1) := rfl
    have e2 : ∀ c : Cd, rankF W "late" c = 0 - c.1 := fun c => rfl
    rw [e1, e2, e2]; omega
/-- whole is fit for this card -/
structure Fit (W : Int) (c : Cd) : Prop where
  pos : 0 < c.2.2
  div : W / c.2.2 * c.2.2 = W
theorem ahead_rank {W : Int} (hW : 0 < W) {x y : Cd} (hx : Fit W x) (hy : Fit W y) : ∀ ws : List Str, (∀ w ∈ ws, w ∈ keys8) → (aheadF ws x y = true ↔ ranksF W ws x < ranksF W ws y)
  | [], _ => by
    show decide (x.1 < y.1) = true ↔ [x.1] < [y.1]
    rw [decide_eq_true_iff, List.cons_lt_cons_iff]
    simp
  | w :: ws, h => by
    have ih := ahead_rank hW hx hy ws fun v hv => h v (List.mem_cons_of_mem _ hv)
    obtain ⟨l1, l2⟩ := lead_rank (h w List.mem_cons_self) hx.pos hy.pos hx.div hy.div hW
    show (if leadF w x y ≠ 0 then decide (0 < leadF w x y) else aheadF ws x y) = true ↔ (rankF W w x :: ranksF W ws x) < (rankF W w y :: ranksF W ws y)
    rw [List.cons_lt_cons_iff]
    split
    · rename_i hz
      rw [decide_eq_true_iff]
      constructor
      · intro hp
        exact .inl (l1.mp hp)
      · intro hp
        rcases hp with hp | ⟨hp, _⟩
        · exact l1.mpr hp
        · exfalso
          have a1 : ¬ 0 < leadF w x y := fun q => by have := l1.mp q; omega
          have a2 : ¬ leadF w x y < 0 := fun q => by have := l2.mp q; omega
          omega
    · rename_i hz
      have hz : leadF w x y = 0 := Decidable.not_not.mp hz
      have a1 : ¬ rankF W w x < rankF W w y := fun q => by have := l1.mpr q; omega
      have a2 : ¬ rankF W w y < rankF W w x := fun q => by have := l2.mpr q; omega
      rw [ih]
      constructor
      · intro q
        exact .inr ⟨by omega, q⟩
      · intro q
        rcases q with q | ⟨_, q⟩
        · exact absurd q a1
        · exact q
/-! ### the sorted ranks are the ranks of the placed cards -/
abbrev apart (xs : List Cd) : Prop := xs.Pairwise fun x y => x.1 ≠ y.1
theorem ranks_apart {W : Int} {ws : List Str} {x y : Cd} (h : x.1 ≠ y.1) : ranksF W ws x < ranksF W ws y ∨ ranksF W ws y < ranksF W ws x := by
  by_cases h1 : ranksF W ws x < ranksF W ws y
  · exact .inl h1
  by_cases h2 : ranksF W ws y < ranksF W ws x
  · exact .inr h2
  exfalso
  have h3 : ranksF W ws y ≤ ranksF W ws x := List.not_lt.mp h1
  have h4 : ranksF W ws x ≤ ranksF W ws y := List.not_lt.mp h2
  have e := List.le_antisymm h3 h4
  unfold ranksF at e
  have e2 := (List.append_inj' e rfl).2
  exact h (by simpa using e2.symm)
theorem isF_rank {W : Int} (hW : 0 < W) {ws : List Str} (hws : ∀ w ∈ ws, w ∈ keys8) {cs : List Cd} (hc : ∀ c ∈ cs, Fit W c) (ap : apart cs) : (isF (aheadF ws) cs).Pairwise (fun x y => ranksF W ws x < ranksF W ws y) := by
  have e : isF (aheadF ws) cs = isF (fun x y => decide (ranksF W ws x < ranksF W ws y)) cs := by
    refine isF_congr ?_
    refine List.Pairwise.imp_of_mem (R := fun x y => x.1 ≠ y.1) (fun {x y} hx hy _ => ?_) ap
    have h := ahead_rank hW (hc x hx) (hc y hy) ws hws
    by_cases q : ranksF W ws x < ranksF W ws y
    · rw [h.mpr q, decide_eq_true q]
    · rw [Bool.eq_false_iff.mpr fun z => q (h.mp z), decide_eq_false q]
  rw [e]
  have z := isF_sorted (fun x y => decide (ranksF W ws x < ranksF W ws y)) (fun x y z h1 h2 => decide_eq_true (List.lt_trans (of_decide_eq_true h1) (of_decide_eq_true h2))) (xs := cs) (ap.imp fun {x y} q => by
    rcases ranks_apart (W := W) (ws := ws) q with q | q
    · exact .inl (decide_eq_true q)
    · exact .inr (decide_eq_true q))
  exact z.imp fun {x y} q => of_decide_eq_true q
theorem srtR_perm (nss : List (List Int)) : (Mi.srtR nss).Perm nss := List.mergeSort_perm _ _
theorem srtR_ord (nss : List (List Int)) : (Mi.srtR nss).Pairwise (· ≤ ·) := by
  have h := List.pairwise_mergeSort (le := fun x y : List Int => decide (x ≤ y)) (fun x y z h1 h2 => decide_eq_true (List.le_trans (of_decide_eq_true h1) (of_decide_eq_true h2))) (fun x y => by
    rcases List.le_total x y with h | h
    · simp [h]
    · simp [h]) nss
  exact h.imp fun {x y} q => of_decide_eq_true q
theorem srtR_ranks {W : Int} (hW : 0 < W) {ws : List Str} (hws : ∀ w ∈ ws, w ∈ keys8) {cs : List Cd} (hc : ∀ c ∈ cs, Fit W c) (ap : apart cs) : Mi.srtR (cs.map (ranksF W ws)) = (isF (aheadF ws) cs).map (ranksF W ws) := by
  refine List.Perm.eq_of_pairwise (le := fun x y : List Int => x ≤ y) (fun x y _ _ z1 z2 => List.le_antisymm z1 z2) (srtR_ord _) ?_ ((srtR_perm _).trans ((isF_perm _ cs).symm.map _))
  exact List.pairwise_map.mpr ((isF_rank hW hws hc ap).imp fun {x y} q => List.le_of_lt q)
/-! ### keys that change nothing -/
theorem ahead_cut {x y : Cd} (h : x.1 ≠ y.1) : ∀ (us vs : List Str) (w : Str), w = "early" ∨ w = "late" → aheadF (us ++ w :: vs) x y = aheadF (us ++ [w]) x y
  | [], vs, w, hw => by
    have hz : leadF w x y ≠ 0 := by
      rcases hw with rfl | rfl
      · have e1 : leadF "early" x y = y.1 - x.1 := rfl
        rw [e1]; omega
      · have e1 : leadF "late" x y = 0 - (y.1 - x.1) := rfl
        rw [e1]; omega
    show (if leadF w x y ≠ 0 then decide (0 < leadF w x y) else aheadF vs x y) = (if leadF w x y ≠ 0 then decide (0 < leadF w x y) else aheadF [] x y)
    rw [if_pos hz, if_pos hz]
  | u :: us, vs, w, hw => by
    show (if leadF u x y ≠ 0 then decide (0 < leadF u x y) else aheadF (us ++ w :: vs) x y) = (if leadF u x y ≠ 0 then decide (0 < leadF u x y) else aheadF (us ++ [w]) x y)
    rw [ahead_cut h us vs w hw]
theorem ahead_more {x y : Cd} : ∀ us : List Str, aheadF (us ++ [("early" : Str)]) x y = aheadF us x y
  | [] => by
    have e1 : leadF "early" x y = y.1 - x.1 := rfl
    show (if leadF "early" x y ≠ 0 then decide (0 < leadF "early" x y) else decide (x.1 < y.1)) = decide (x.1 < y.1)
    rw [e1]
    split
    · by_cases q : x.1 < y.1
      · rw [decide_eq_true q, decide_eq_true (by omega)]
      · rw [decide_eq_false q, decide_eq_false (by omega)]
    · rfl
  | u :: us => by
    show (if leadF u x y ≠ 0 then decide (0 < leadF u x y) else aheadF (us ++ [("early" : Str)]) x y) = (if leadF u x y ≠ 0 then decide (0 < leadF u x y) else aheadF us x y)
    rw [ahead_more us]
theorem isF_cut {cs : List Cd} (ap : apart cs) {us vs : List Str} {w : Str} (hw : w = "early" ∨ w = "late") : isF (aheadF (us ++ w :: vs)) cs = isF (aheadF (us ++ [w])) cs :=
  isF_congr (ap.imp fun {x y} q => ahead_cut q us vs w hw)
theorem isF_more {cs : List Cd} (us : List Str) : isF (aheadF (us ++ [("early" : Str)])) cs = isF (aheadF us) cs := by
  have e : aheadF (us ++ [("early" : Str)]) = aheadF us := by
    funext x y
    exact ahead_more us
  rw [e]
/-! ### all amounts so many times as great -/
def timesF (t : Int) (c : Cd) : Cd := (c.1, c.2.1 * t, c.2.2 * t)
theorem sgn_mul {a t : Int} (ht : 0 < t) : (0 < a * t ↔ 0 < a) ∧ (a * t = 0 ↔ a = 0) := by
  constructor
  · constructor
    · intro h
      have h : 0 * t < a * t := by simpa using h
      exact Int.lt_of_mul_lt_mul_right h (Int.le_of_lt ht)
    · intro h
      exact Int.mul_pos h ht
  · constructor
    · intro h
      rcases Int.mul_eq_zero.mp h with h | h
      · exact h
      · omega
    · rintro rfl
      simp
theorem up_times {t : Int} (ht : 0 < t) (w : Str) (x y : Cd) : ∃ s : Int, 0 < s ∧ upF w (timesF t x) (timesF t y) = upF w x y * s := by
  unfold upF
  split
  · exact ⟨1, by omega, by simp [timesF]⟩
  split
  · exact ⟨t, ht, by simp [timesF, Int.sub_mul]⟩
  split
  · exact ⟨t, ht, by simp [timesF, Int.sub_mul]⟩
  · refine ⟨t * t, Int.mul_pos ht ht, ?_⟩
    show x.2.1 * t * (y.2.2 * t) - y.2.1 * t * (x.2.2 * t) = (x.2.1 * y.2.2 - y.2.1 * x.2.2) * (t * t)
    rw [Int.sub_mul]
    congr 1 <;> ac_rfl
theorem lead_times {t : Int} (ht : 0 < t) (w : Str) (x y : Cd) : ∃ s : Int, 0 < s ∧ leadF w (timesF t x) (timesF t y) = leadF w x y * s := by
  obtain ⟨s, hs, e⟩ := up_times ht w x y
  refine ⟨s, hs, ?_⟩
  unfold leadF
  rw [e]
  split
  · rw [Int.sub_mul]; simp
  · rfl
theorem ahead_times {t : Int} (ht : 0 < t) (x y : Cd) : ∀ ws : List Str, aheadF ws (timesF t x) (timesF t y) = aheadF ws x y
  | [] => rfl
  | w :: ws => by
    obtain ⟨s, hs, e⟩ := lead_times ht w x y
    obtain ⟨g1, g2⟩ := sgn_mul (a := leadF w x y) hs
    show (if leadF w (timesF t x) (timesF t y) ≠ 0 then decide (0 < leadF w (timesF t x) (timesF t y)) else aheadF ws (timesF t x) (timesF t y)) = (if leadF w x y ≠ 0 then decide (0 < leadF w x y) else aheadF ws x y)
    rw [e, ahead_times ht x y ws]
    by_cases q : leadF w x y = 0
    · rw [if_neg (by rw [g2.mpr q]; simp), if_neg (by rw [q]; simp)]
    · rw [if_pos (fun z => q (g2.mp z)), if_pos q]
      by_cases p : 0 < leadF w x y
      · rw [decide_eq_true p, decide_eq_true (g1.mpr p)]
      · rw [decide_eq_false p, decide_eq_false (fun z => p (g1.mp z))]
theorem isF_times {t : Int} (ht : 0 < t) (ws : List Str) (cs : List Cd) : isF (aheadF ws) (cs.map (timesF t)) = (isF (aheadF ws) cs).map (timesF t) := by
  rw [isF_map]
  have e : (fun x y => aheadF ws (timesF t x) (timesF t y)) = aheadF ws := by
    funext x y
    exact ahead_times ht x y ws
  rw [e]
end S4

set_option Elab.async false
set_option linter.all false
set_option maxRecDepth 100000
set_option maxHeartbeats 4000000
/-! P20m: the least falling row above given sums, plain. -/
namespace P20
/-- what must still come on a day: the greatest of the rounded-up means -/
def need (total : Int) (i : Nat) (s : Int) : Int := -((total - s) / ((i : Int) + 1))
/-- k is the greatest of the needs -/
def IsMax (k total : Int) (ss : List Int) : Prop := (∃ i s, ss[i]? = some s ∧ k = need total i s) ∧ ∀ i s, ss[i]? = some s → need total i s ≤ k
theorem need_le {total s k : Int} {i : Nat} (h : need total i s ≤ k) : s - total ≤ k * ((i : Int) + 1) := by
  unfold need at h
  have hp : (0 : Int) < (i : Int) + 1 := by omega
  have h1 : -k ≤ (total - s) / ((i : Int) + 1) := by omega
  have h2 : (-k) * ((i : Int) + 1) ≤ total - s := (Int.le_ediv_iff_mul_le hp).mp h1
  rw [Int.neg_mul] at h2
  omega
theorem need_gt {total s k : Int} {i : Nat} (h : k ≤ need total i s) : (k - 1) * ((i : Int) + 1) < s - total := by
  unfold need at h
  have hp : (0 : Int) < (i : Int) + 1 := by omega
  have h1 : (total - s) / ((i : Int) + 1) < -k + 1 := by omega
  have h2 : total - s < (-k + 1) * ((i : Int) + 1) := Int.lt_mul_of_ediv_lt hp h1
  have e : (-k + 1) * ((i : Int) + 1) = -((k - 1) * ((i : Int) + 1)) := by
    rw [← Int.neg_mul]; congr 1; omega
  rw [e] at h2
  omega
/-- the row as it is built, from the sums ss that are left behind a total -/
inductive Least : Int → List Int → List Int → Prop
  | nil (total : Int) : Least total [] []
  | stop {total k : Int} {ss : List Int} (h : IsMax k total ss) (hk : k ≤ 0) : Least total ss []
  | more {total k s : Int} {ss row : List Int} (h : IsMax k total (s :: ss)) (hk : 0 < k) (r : Least (total + k) ss row) : Least total (s :: ss) (k :: row)
theorem Least.len {t : Int} {ss row : List Int} (h : Least t ss row) : row.length ≤ ss.length := by
  induction h with
  | nil => simp
  | stop => simp
  | more _ _ _ ih => simpa using ih
theorem Least.pos {t : Int} {ss row : List Int} (h : Least t ss row) : ∀ x ∈ row, 0 < x := by
  induction h with
  | nil => simp
  | stop => simp
  | more _ hk _ ih =>
    intro x hx
    rcases List.mem_cons.mp hx with rfl | hx
    · exact hk
    · exact ih x hx
/-- the first number behind a day is at most the day's -/
theorem Least.fall {t k s : Int} {ss row : List Int} (hm : IsMax k t (s :: ss)) (hk : 0 < k) (h : Least (t + k) ss row) : ∀ x, row[0]? = some x → x ≤ k := by
  intro x hx
  cases h with
  | nil => cases hx
  | stop => cases hx
  | more h2 hk2 r =>
    simp at hx
    subst hx
    obtain ⟨⟨i, s2, e, rfl⟩, _⟩ := h2
    have h3 := need_le (hm.2 (i + 1) s2 (by simpa using e))
    have h4 := @need_gt (t + k) s2 _ i (Int.le_refl _)
    apply Decidable.byContradiction
    intro hc
    have h5 : k ≤ need (t + k) i s2 - 1 := by omega
    have h6 : k * ((i : Int) + 1) ≤ (need (t + k) i s2 - 1) * ((i : Int) + 1) := Int.mul_le_mul_of_nonneg_right h5 (by omega)
    have h7 : k * (((i + 1 : Nat) : Int) + 1) = k * ((i : Int) + 1) + k := by
      rw [show (((i + 1 : Nat) : Int) + 1) = ((i : Int) + 1) + 1 by omega, Int.mul_add, Int.mul_one]
    rw [h7] at h3
    omega
theorem Least.falls {t : Int} {ss row : List Int} (h : Least t ss row) : ∀ (k : Nat) (x y : Int), row[k]? = some x → row[k + 1]? = some y → y ≤ x := by
  induction h with
  | nil => intro k x y h; cases h
  | stop => intro k x y h; cases h
  | more hm hk r ih =>
    intro k x y hx hy
    cases k with
    | zero =>
      simp at hx hy
      subst hx
      exact Least.fall hm hk r y (by simpa using hy)
    | succ k => exact ih k x y (by simpa using hx) (by simpa using hy)
/-- sum of the first n numbers -/
def sumN (row : List Int) : Nat → Int
  | 0 => 0
  | n + 1 => row.headD 0 + sumN row.tail n
theorem sumN_nil (n : Nat) : sumN [] n = 0 := by
  induction n with
  | zero => rfl
  | succ n ih => show (0 : Int) + sumN [] n = 0; rw [ih]; rfl
theorem Least.cover {t : Int} {ss row : List Int} (h : Least t ss row) : ∀ (n : Nat) (s : Int), ss[n]? = some s → s ≤ t + sumN row (n + 1) := by
  induction h with
  | nil => intro n s h; cases h
  | @stop t k ss h hk =>
    intro n s e
    rw [sumN_nil]
    have h1 := need_le (h.2 n s e)
    have h2 : k * ((n : Int) + 1) ≤ 0 := by
      have := Int.mul_le_mul_of_nonneg_right hk (show (0 : Int) ≤ (n : Int) + 1 by omega)
      rw [Int.zero_mul] at this
      exact this
    omega
  | @more t k s0 ss row h hk r ih =>
    intro n s e
    cases n with
    | zero =>
      simp at e
      subst e
      have h1 := need_le (h.2 0 s0 rfl)
      show s0 ≤ t + (k + 0)
      have h2 : k * (((0 : Nat) : Int) + 1) = k := by simp
      rw [h2] at h1
      omega
    | succ n =>
      have h1 := ih n s (by simpa using e)
      show s ≤ t + (k + sumN row (n + 1))
      omega
theorem Least.tight {t : Int} {ss row : List Int} (h : Least t ss row) : ∀ (k : Nat) (x : Int), row[k]? = some x → ∃ (i : Nat) (s : Int), ss[k + i]? = some s ∧ t + sumN row k + ((i : Int) + 1) * (x - 1) < s := by
  induction h with
  | nil => intro k x h; cases h
  | stop => intro k x h; cases h
  | @more t m s0 ss row h hk r ih =>
    intro k x e
    cases k with
    | zero =>
      simp at e
      subst e
      obtain ⟨⟨i, s, e1, e2⟩, _⟩ := h
      have h2 := @need_gt t s m i (by omega)
      rw [Int.mul_comm] at h2
      refine ⟨i, s, by simpa using e1, ?_⟩
      show t + 0 + _ < s
      omega
    | succ k =>
      obtain ⟨i, s, e1, h1⟩ := ih k x (by simpa using e)
      refine ⟨i, s, by rw [show k + 1 + i = (k + i) + 1 by omega]; simpa using e1, ?_⟩
      show t + (m + sumN row k) + _ < s
      omega
/-- the least row is one only -/
theorem IsMax.uniq {a b t : Int} {ss : List Int} (h : IsMax a t ss) (k : IsMax b t ss) : a = b := by
  obtain ⟨⟨i, s, e, rfl⟩, h2⟩ := h
  obtain ⟨⟨j, s', e', rfl⟩, k2⟩ := k
  have := h2 _ _ e'
  have := k2 _ _ e
  omega
theorem Least.uniq {t : Int} {ss row row' : List Int} (h : Least t ss row) (k : Least t ss row') : row = row' := by
  induction h generalizing row' with
  | nil =>
    cases k with
    | nil => rfl
    | stop => rfl
  | stop h hk =>
    cases k with
    | nil => rfl
    | stop => rfl
    | more h2 hk2 r => have := h.uniq h2; omega
  | more h hk r ih =>
    cases k with
    | stop h2 hk2 => have := h.uniq h2; omega
    | more h2 hk2 r2 =>
      have := h.uniq h2
      subst this
      rw [ih r2]
/-- a falling row of numbers above 0 is the least one above its own sums -/
def Falls (row : List Int) : Prop := (∀ x ∈ row, 0 < x) ∧ ∀ (k : Nat) (x y : Int), row[k]? = some x → row[k + 1]? = some y → y ≤ x
theorem Falls.tail {x : Int} {row : List Int} (h : Falls (x :: row)) : Falls row := ⟨fun y hy => h.1 y (List.mem_cons_of_mem _ hy), fun k a b e1 e2 => h.2 (k + 1) a b (by simpa using e1) (by simpa using e2)⟩
end P20

set_option Elab.async false
set_option linter.all false
set_option maxRecDepth 100000
set_option maxHeartbeats 4000000
namespace Sh
open PySem L2 Mi P20
@[simp] theorem isint_ok {n : Int} {u : PuS} {P : D → PuS → Prop} : Ok (mf_is_integer [.int n]) u P ↔ P (.bl true) u := ok_of rfl
@[simp] theorem isnat_ok {n : Int} {u : PuS} {P : D → PuS → Prop} : Ok (mf_is_natural [.int n]) u P ↔ P (.bl (decide (0 ≤ n))) u := by
  unfold mf_is_natural mb_is_natural
  simp
theorem getI {ns : List Int} {k : Nat} {x : Int} (h : ns[k]? = some x) : atI (ns.map D.int) (k : Int) = some (.int x) := at_nat (by rw [List.getElem?_map, h]; rfl)
/-- a row as forms have it -/
def Good (row : List Int) : Prop := Falls row ∧ row.length ≤ 24
theorem wrong_ok {row : List Int} (h : Good row) {u : PuS} {P : D → PuS → Prop} (hp : P .non u) : Ok (mf_wrong_number [.tup (row.map D.int)]) u P := by
  unfold mf_wrong_number mb_wrong_number
  simp
  refine ok_list (enumD (row.map D.int)) (fun k ρ u' => u' = u ∧ ∃ t w, ρ = [.sh (.tup (row.map D.int)), t, w]) ?_ ?_ _ _ ⟨rfl, _, _, rfl⟩
  · rintro k d ρ u' e ⟨rfl, t, w, rfl⟩
    obtain ⟨x, ex, rfl⟩ := enumD_ints e
    have hk : k < row.length := (List.getElem?_eq_some_iff.mp ex).1
    have hx : 0 < x := h.1.1 x (List.mem_of_getElem? ex)
    have h24 := h.2
    unfold lb_wrong_number_1
    have h1 : ¬ (k : Int) = 24 := by omega
    have h2 : ¬ x = 0 := by omega
    have h3 : 0 ≤ x := by omega
    by_cases h0 : 0 < k
    · obtain ⟨j, rfl⟩ : ∃ j, k = j + 1 := ⟨k - 1, by omega⟩
      have ej : row[j]? = some row[j] := List.getElem?_eq_getElem (by omega)
      have hle := h.1.2 j _ _ ej ex
      have e1 : atI (row.map D.int) (((j + 1 : Nat) : Int) - 1) = some (.int row[j]) := by
        rw [show (((j + 1 : Nat) : Int) - 1) = (j : Int) by omega]
        exact getI ej
      have h5 : ¬ row[j] < x := by omega
      simp at h1 e1
      simp [h1, h2, h3, h0, e1, h5]
    · have h0' : k = 0 := by omega
      subst h0'
      simp [h2, h3]
  · rintro ρ u' ⟨rfl, t, w, rfl⟩
    simpa using hp
theorem init_ok {row : List Int} (h : Good row) {u : PuS} {P : List Str × List D → PuS → Prop} (hp : P (["numbers"], [.tup (row.map D.int)]) u) : Ok (mf_Form___init__ [.tup (row.map D.int)]) u P := by
  unfold mf_Form___init__ mb_Form___init__
  have e : isiD [.tup (row.map D.int), .ty "tuple"] = some (.bl true) := rfl
  simp [startI, e]
  refine wrong_ok h ?_
  have e2 : isntD .non .non = some (.bl false) := rfl
  simp [e2]
  exact ⟨[], [], ⟨rfl, rfl⟩, by simp, by decide, hp⟩
/-- the needs of the days behind k -/
def nd (ns : List Int) (k : Nat) (t : Int) (i : Nat) : Int := need t i ((ns.drop k).getD i 0)
/-- a form as data -/
def formD (row : List Int) : D := .obj "Form" ["numbers"] [.tup (row.map D.int)]
@[simp] theorem eq_ok' {row row' : List Int} {u : PuS} {P : D → PuS → Prop} : Ok (mf_Form___eq__ [.obj "Form" ["numbers"] [.tup (row.map D.int)], .obj "Form" ["numbers"] [.tup (row'.map D.int)]]) u P ↔ P (.bl (decide (row = row'))) u := by
  unfold mf_Form___eq__ mb_Form___eq__
  have e : isiD [.obj "Form" ["numbers"] [.tup (row'.map D.int)], .cls "Form"] = some (.bl true) := rfl
  simp [e]
end Sh

set_option Elab.async false
set_option linter.all false
set_option maxRecDepth 100000
set_option maxHeartbeats 4000000
/-! W2m: what cards can pay, plain. -/
namespace P20
/-- what a card can pay in k days -/
def wor (b l : Int) (k : Nat) : Int := min b ((k : Int) * l)
/-- what cards can pay in k days -/
def FF (am : List (Int × Int)) (k : Nat) : Int := (am.map fun q => wor q.1 q.2 k).sum
/-- cards as they may be -/
def Am (am : List (Int × Int)) : Prop := ∀ q ∈ am, 1 ≤ q.2 ∧ 0 ≤ q.1 ∧ q.1 ≤ 24 * q.2
theorem Am.tail {q : Int × Int} {am : List (Int × Int)} (h : Am (q :: am)) : Am am := fun x hx => h x (List.mem_cons_of_mem _ hx)
theorem Am.nil : Am [] := fun q h => by cases h
theorem Am.cons {q : Int × Int} {am : List (Int × Int)} (h : 1 ≤ q.2 ∧ 0 ≤ q.1 ∧ q.1 ≤ 24 * q.2) (a : Am am) : Am (q :: am) := fun x hx => by
  rcases List.mem_cons.mp hx with rfl | hx
  · exact h
  · exact a x hx
theorem Am.append {am bm : List (Int × Int)} (a : Am am) (b : Am bm) : Am (am ++ bm) := fun x hx => by
  rcases List.mem_append.mp hx with h | h
  · exact a x h
  · exact b x h
theorem FF_cons (q : Int × Int) (am : List (Int × Int)) (k : Nat) : FF (q :: am) k = wor q.1 q.2 k + FF am k := by simp [FF]
theorem wor_zero {b l : Int} (h : 0 ≤ b) : wor b l 0 = 0 := by unfold wor; simp; omega
theorem succ_mul' (k : Nat) (l : Int) : ((k + 1 : Nat) : Int) * l = (k : Int) * l + l := by
  rw [show ((k + 1 : Nat) : Int) = (k : Int) + 1 by omega, Int.add_mul, Int.one_mul]
theorem wor_mono {b l : Int} (hl : 0 ≤ l) (k : Nat) : wor b l k ≤ wor b l (k + 1) := by
  unfold wor
  rw [succ_mul']
  omega
theorem wor_conc {b l : Int} (hl : 0 ≤ l) (k : Nat) : wor b l (k + 2) - wor b l (k + 1) ≤ wor b l (k + 1) - wor b l k := by
  unfold wor
  rw [show k + 2 = (k + 1) + 1 from rfl, succ_mul' (k + 1), succ_mul' k]
  omega
theorem wor_step {b l : Int} (hl : 1 ≤ l) (k : Nat) : wor b l k < wor b l (k + 1) ↔ (k : Int) * l < b := by
  unfold wor
  rw [succ_mul']
  omega
theorem FF_zero {am : List (Int × Int)} (h : Am am) : FF am 0 = 0 := by
  induction am with
  | nil => rfl
  | cons q am ih => rw [FF_cons, ih h.tail, wor_zero (h q List.mem_cons_self).2.1]; rfl
theorem FF_mono {am : List (Int × Int)} (h : Am am) (k : Nat) : FF am k ≤ FF am (k + 1) := by
  induction am with
  | nil => simp [FF]
  | cons q am ih =>
    have := ih h.tail
    have := wor_mono (b := q.1) (show 0 ≤ q.2 by have := (h q List.mem_cons_self).1; omega) k
    rw [FF_cons, FF_cons]
    omega
theorem FF_conc {am : List (Int × Int)} (h : Am am) (k : Nat) : FF am (k + 2) - FF am (k + 1) ≤ FF am (k + 1) - FF am k := by
  induction am with
  | nil => simp [FF]
  | cons q am ih =>
    have := ih h.tail
    have := wor_conc (b := q.1) (show 0 ≤ q.2 by have := (h q List.mem_cons_self).1; omega) k
    rw [FF_cons, FF_cons, FF_cons]
    omega
/-- on day k + 1 some card can still pay -/
def Mor (am : List (Int × Int)) (k : Nat) : Prop := ∃ q ∈ am, (k : Int) * q.2 < q.1
theorem Mor.less {am : List (Int × Int)} (h : Am am) {k : Nat} : Mor am (k + 1) → Mor am k := by
  rintro ⟨q, hq, h1⟩
  refine ⟨q, hq, ?_⟩
  have := (h q hq).1
  rw [succ_mul'] at h1
  omega
theorem FF_step {am : List (Int × Int)} (h : Am am) (k : Nat) : FF am k < FF am (k + 1) ↔ Mor am k := by
  induction am with
  | nil => simp [FF, Mor]
  | cons q am ih =>
    have ih := ih h.tail
    have h1 := FF_mono h.tail k
    have h0 := (h q List.mem_cons_self).1
    have h2 := wor_mono (b := q.1) (show 0 ≤ q.2 by omega) k
    have h3 := wor_step (b := q.1) h0 k
    rw [FF_cons, FF_cons]
    constructor
    · intro z
      by_cases hq : (k : Int) * q.2 < q.1
      · exact ⟨q, List.mem_cons_self, hq⟩
      · obtain ⟨x, hx, hm⟩ := ih.mp (by omega)
        exact ⟨x, List.mem_cons_of_mem _ hx, hm⟩
    · rintro ⟨x, hx, hm⟩
      rcases List.mem_cons.mp hx with rfl | hx
      · have := h3.mpr hm; omega
      · have := ih.mpr ⟨x, hx, hm⟩; omega
/-- the row of cards: the numbers by which the sums grow, as long as they do -/
def IsRow (am : List (Int × Int)) (row : List Int) : Prop := ∃ d : Nat, d ≤ 24 ∧ (∀ k, k < d → Mor am k) ∧ ¬ Mor am d ∧ row = (List.range d).map fun k => FF am (k + 1) - FF am k
theorem Am.stop {am : List (Int × Int)} (h : Am am) : ¬ Mor am 24 := by
  rintro ⟨q, hq, h1⟩
  have := (h q hq).2.2
  omega
theorem sumN_app : ∀ (n : Nat) (row : List Int), sumN row (n + 1) = sumN row n + row.getD n 0
  | 0, row => by cases row <;> simp [sumN]
  | n + 1, row => by
    show row.headD 0 + sumN row.tail (n + 1) = (row.headD 0 + sumN row.tail n) + row.getD (n + 1) 0
    rw [sumN_app n row.tail]
    have : row.getD (n + 1) 0 = row.tail.getD n 0 := by cases row <;> simp
    omega
theorem Mor.from {am : List (Int × Int)} (h : Am am) {d : Nat} (hd : ¬ Mor am d) : ∀ k, d ≤ k → ¬ Mor am k := by
  intro k hk
  induction k with
  | zero => have : d = 0 := by omega
            subst this; exact hd
  | succ k ih =>
    by_cases e : d = k + 1
    · subst e; exact hd
    · exact fun z => ih (by omega) (z.less h)
theorem FF_flat {am : List (Int × Int)} (h : Am am) {d : Nat} (hd : ¬ Mor am d) : ∀ k, d ≤ k → FF am k = FF am d := by
  intro k hk
  induction k with
  | zero => have : d = 0 := by omega
            subst this; rfl
  | succ k ih =>
    by_cases e : d = k + 1
    · subst e; rfl
    · have h1 := ih (by omega)
      have h2 := Mor.from h hd k (by omega)
      have h3 := FF_mono h k
      have h4 := mt (FF_step h k).mp h2
      omega
theorem IsRow.sum {am : List (Int × Int)} (h : Am am) {row : List Int} (r : IsRow am row) : ∀ n, sumN row n = FF am n := by
  obtain ⟨d, hd, h1, h2, rfl⟩ := r
  intro n
  induction n with
  | zero => rw [FF_zero h]; rfl
  | succ n ih =>
    rw [sumN_app, ih]
    by_cases hn : n < d
    · have : ((List.range d).map fun k => FF am (k + 1) - FF am k).getD n 0 = FF am (n + 1) - FF am n := by
        rw [List.getD_eq_getElem?_getD, List.getElem?_map, List.getElem?_range hn]; rfl
      omega
    · have : ((List.range d).map fun k => FF am (k + 1) - FF am k).getD n 0 = 0 := by
        rw [List.getD_eq_getElem?_getD, List.getElem?_eq_none (by simp; omega)]; rfl
      have := FF_flat h h2 n (by omega)
      have := FF_flat h h2 (n + 1) (by omega)
      omega
theorem IsRow.len {am : List (Int × Int)} {row : List Int} (r : IsRow am row) : row.length ≤ 24 := by
  obtain ⟨d, hd, h1, h2, rfl⟩ := r
  simpa using hd
theorem IsRow.falls {am : List (Int × Int)} (h : Am am) {row : List Int} (r : IsRow am row) : Falls row := by
  obtain ⟨d, hd, h1, h2, rfl⟩ := r
  refine ⟨fun x hx => ?_, fun k x y hx hy => ?_⟩
  · obtain ⟨k, hk, rfl⟩ := List.mem_map.mp hx
    have := (FF_step h k).mpr (h1 k (List.mem_range.mp hk))
    omega
  · rw [List.getElem?_map] at hx hy
    have hk : k + 1 < d := by
      by_cases z : k + 1 < d
      · exact z
      · rw [List.getElem?_eq_none (by simp; omega)] at hy; cases hy
    rw [List.getElem?_range (by omega)] at hx
    rw [List.getElem?_range hk] at hy
    cases hx
    cases hy
    exact FF_conc h k
/-- rows of numbers above 0 are told apart by their sums -/
theorem pos_uniq : ∀ {a b : List Int}, (∀ x ∈ a, 0 < x) → (∀ x ∈ b, 0 < x) → (∀ n, sumN a n = sumN b n) → a = b
  | [], [], _, _, _ => rfl
  | [], y :: b, _, hb, h => by
    have h1 := h 1
    have := hb y List.mem_cons_self
    simp [sumN] at h1
    omega
  | x :: a, [], ha, _, h => by
    have h1 := h 1
    have := ha x List.mem_cons_self
    simp [sumN] at h1
    omega
  | x :: a, y :: b, ha, hb, h => by
    have h1 := h 1
    simp [sumN] at h1
    subst h1
    rw [pos_uniq (a := a) (b := b) (fun z hz => ha z (List.mem_cons_of_mem _ hz)) (fun z hz => hb z (List.mem_cons_of_mem _ hz)) fun n => ?_]
    have h2 := h (n + 1)
    simp [sumN] at h2
    exact h2
theorem IsRow.uniq {am : List (Int × Int)} (h : Am am) {row row' : List Int} (r : IsRow am row) (r' : IsRow am row') : row = row' :=
  pos_uniq (r.falls h).1 (r'.falls h).1 fun n => by rw [r.sum h, r'.sum h]
theorem sumN_flat : ∀ (row : List Int) (n : Nat), row.length ≤ n → sumN row n = sumN row row.length
  | [], n, _ => by rw [sumN_nil, sumN_nil]
  | x :: row, 0, h => by simp at h
  | x :: row, n + 1, h => by
    show x + sumN row n = x + sumN row row.length
    rw [sumN_flat row n (by simpa using h)]
theorem sumN_mono {row : List Int} (h : ∀ x ∈ row, 0 ≤ x) : ∀ n, sumN row n ≤ sumN row (n + 1) := by
  intro n
  rw [sumN_app]
  by_cases hn : n < row.length
  · have : 0 ≤ row.getD n 0 := by
      rw [List.getD_eq_getElem?_getD, List.getElem?_eq_getElem hn]
      exact h _ (List.getElem_mem hn)
    omega
  · have : row.getD n 0 = 0 := by rw [List.getD_eq_getElem?_getD, List.getElem?_eq_none (by omega)]; rfl
    omega
theorem sumN_le {row : List Int} (h : ∀ x ∈ row, 0 ≤ x) {m n : Nat} (hmn : m ≤ n) : sumN row m ≤ sumN row n := by
  induction n with
  | zero => have : m = 0 := by omega
            subst this; exact Int.le_refl _
  | succ n ih =>
    by_cases e : m = n + 1
    · subst e; exact Int.le_refl _
    · have := ih (by omega); have := sumN_mono h n; omega
theorem FF_le {am : List (Int × Int)} (h : Am am) {m n : Nat} (hmn : m ≤ n) : FF am m ≤ FF am n := by
  induction n with
  | zero => have : m = 0 := by omega
            subst this; exact Int.le_refl _
  | succ n ih =>
    by_cases e : m = n + 1
    · subst e; exact Int.le_refl _
    · have := ih (by omega); have := FF_mono h n; omega
end P20

set_option Elab.async false
set_option linter.all false
set_option maxRecDepth 100000
set_option maxHeartbeats 4000000
namespace Mi
open PySem L2
/-- a comprehension over data made of plain things, that draws nothing -/
theorem ok_lcm {α : Type} {g : MG} {mt : MT} {me : ME} {ρ : Env} {u : PuS} {xs : List α} {f : α → D} (r : α → Env) (t : α → Bool) (e : α → D) {P : List D → PuS → Prop} (h1 : ∀ x ∈ xs, g (f x) ρ = some (r x)) (h2 : ∀ x ∈ xs, Ok (mt (r x)) u fun b u' => b = t x ∧ u' = u)
    (h3 : ∀ x ∈ xs, t x = true → Ok (me (r x)) u fun b u' => b = e x ∧ u' = u) (h : P ((xs.filter t).map e) u) : Ok (lcD g mt me ρ (xs.map f)) u P := by
  have : lcD g mt me ρ (xs.map f) u = some ((xs.filter t).map e, u) := by
    clear h
    induction xs with
    | nil => rfl
    | cons x xs ih =>
      have ih := ih (fun y hy => h1 y (List.mem_cons_of_mem _ hy)) (fun y hy => h2 y (List.mem_cons_of_mem _ hy)) (fun y hy => h3 y (List.mem_cons_of_mem _ hy))
      refine eq_of_ok ?_
      rw [List.map_cons]
      unfold lcD
      rw [ok_bind, ok_lft]
      refine ⟨_, h1 x List.mem_cons_self, ?_⟩
      rw [ok_bind, ok_of (eq_of_ok (h2 x List.mem_cons_self))]
      cases ht : t x with
      | false =>
        rw [if_neg (by decide), ok_of ih]
        simp [ht]
      | true =>
        rw [if_pos rfl, ok_bind, ok_of (eq_of_ok (h3 x List.mem_cons_self ht)), ok_bind, ok_of ih, ok_pure]
        simp [ht]
  exact (ok_of this).mpr h
/-- .. of all items -/
theorem ok_lca {α : Type} {g : MG} {me : ME} {ρ : Env} {u : PuS} {xs : List α} {f : α → D} (r : α → Env) (e : α → D) {P : List D → PuS → Prop} (h1 : ∀ x ∈ xs, g (f x) ρ = some (r x))
    (h3 : ∀ x ∈ xs, Ok (me (r x)) u fun b u' => b = e x ∧ u' = u) (h : P (xs.map e) u) : Ok (lcD g mYes me ρ (xs.map f)) u P :=
  ok_lcm r (fun _ => true) e h1 (fun x hx => by simp) (fun x hx _ => h3 x hx) (by rw [List.filter_eq_self.mpr fun _ _ => rfl]; exact h)
/-- .. of all items of a range -/
theorem ok_lcra {g : MG} {me : ME} {ρ : Env} {u : PuS} {lo : Int} {n : Nat} (r : Nat → Env) (e : Nat → D) {P : List D → PuS → Prop} (h1 : ∀ i, i < n → g (.int (lo + (i : Nat))) ρ = some (r i))
    (h3 : ∀ i, i < n → Ok (me (r i)) u fun b u' => b = e i ∧ u' = u) (h : P ((List.range n).map e) u) : Ok (lcD g mYes me ρ (rngD lo n)) u P :=
  ok_lcr r (fun _ => true) e h1 (fun i hi => by simp) (fun i hi _ => h3 i hi) (by rw [List.filter_eq_self.mpr fun _ _ => rfl]; exact h)
theorem flatDs_strs (ns : List Str) : flatDs (ns.map D.str) = some (ns.map V.str) := by
  induction ns with
  | nil => rfl
  | cons n ns ih =>
    show (match flatD (.str n), flatDs (ns.map D.str) with
      | some a, some as => some (a :: as)
      | _, _ => none) = _
    rw [ih]; rfl
theorem inV_strs (x : Str) (ns : List Str) : inV (.str x) (ns.map V.str) = decide (x ∈ ns) := by
  induction ns with
  | nil => rfl
  | cons n ns ih =>
    show (eqV (.str n) (.str x) || inV (.str x) (ns.map V.str)) = _
    rw [ih]
    have : eqV (.str n) (.str x) = decide (x = n) := by
      show (n == x) = _
      by_cases h : x = n
      · subst h; simp
      · have : ¬ n = x := fun z => h z.symm
        simp [h, this]
    rw [this]
    by_cases h : x = n <;> simp [h]
@[simp] theorem s_inStrs {x : Str} {ns : List Str} : inD (.str x) (.lst (ns.map D.str)) = some (.bl (decide (x ∈ ns))) := by
  show (inB (.str x) (.lst (ns.map D.str))).map D.bl = _
  have : inB (.str x) (.lst (ns.map D.str)) = (flatDs (ns.map D.str)).map fun ws => inV (.str x) ws := rfl
  rw [this, flatDs_strs]
  show some (D.bl (inV (.str x) (ns.map V.str))) = _
  rw [inV_strs]
@[simp] theorem s_inStrsT {x : Str} {ns : List Str} : inD (.str x) (.tup (ns.map D.str)) = some (.bl (decide (x ∈ ns))) := by
  show (inB (.str x) (.tup (ns.map D.str))).map D.bl = _
  have : inB (.str x) (.tup (ns.map D.str)) = (flatDs (ns.map D.str)).map fun ws => inV (.str x) ws := rfl
  rw [this, flatDs_strs]
  show some (D.bl (inV (.str x) (ns.map V.str))) = _
  rw [inV_strs]
theorem s_sumI {ns : List Int} : sumD [.lst (ns.map D.int)] = some (.int ns.sum) := by
  show (intsD (ns.map D.int)).map (fun ns => D.int ns.sum) = _
  rw [intsD_map]; rfl
theorem s_sumT {ns : List Int} : sumD [.tup (ns.map D.int)] = some (.int ns.sum) := by
  show (intsD (ns.map D.int)).map (fun ns => D.int ns.sum) = _
  rw [intsD_map]; rfl
end Mi
namespace Sh
open PySem L2 Mi P20
def prD (q : Int × Int) : D := .tup [.int q.1, .int q.2]
def cardD (q : Int × Int) : D := .obj "Card" ["held", "daily"] [.int q.1, .int q.2]
def pairD (x : Str × (Int × Int)) : D := .tup [.str x.1, cardD x.2]
def walD (ps : List (Str × (Int × Int))) : D := .obj "Wallet" ["pairs"] [.tup (ps.map pairD)]
theorem worth_ok {b l : Int} {k : Nat} (hk : k ≤ 1000) {u : PuS} {P : D → PuS → Prop} (h : P (.int (wor b l k)) u) : Ok (mf_worth [.int b, .int l, .int k]) u P := by
  unfold mf_worth mb_worth
  simp
  refine ⟨.inl (.inl (by omega)), ?_⟩
  have : (if (k : Int) * l < b then (k : Int) * l else b) = wor b l k := by unfold wor; split <;> omega
  rw [this]
  exact h
theorem part_ok {b l : Int} {k : Nat} (hk : k < 1000) {u : PuS} {P : D → PuS → Prop} (h : P (.int (wor b l (k + 1) - wor b l k)) u) : Ok (mf_part [.int b, .int l, .int k]) u P := by
  unfold mf_part mb_part
  simp
  refine worth_ok (k := k + 1) (by omega) ?_
  refine worth_ok (by omega) ?_
  simpa using h
theorem card_init {b l : Int} (hl : 1 ≤ l) (hb : 0 ≤ b) (h24 : b ≤ 24 * l) {u : PuS} {P : List Str × List D → PuS → Prop} (h : P (["held", "daily"], [.int b, .int l]) u) : Ok (mf_Card___init__ [.int b, .int l]) u P := by
  unfold mf_Card___init__ mb_Card___init__
  have h1 : 0 ≤ l := by omega
  have h2 : ¬ l = 0 := by omega
  have h3 : ¬ 24 * l < b := by omega
  simp [startI, hb, h1, h2, h3]
  exact ⟨[], [], ⟨rfl, rfl⟩, by simp, by decide, ⟨by simp, by decide⟩, by decide, h⟩
def IsNm (x : Str) : Prop := ∀ u, mf_is_name [.str x] u = some (.bl true, u)
structure Nms (ps : List (Str × (Int × Int))) : Prop where
  len : ps.length ≤ 12
  nd : (ps.map Prod.fst).Nodup
  nm : ∀ p ∈ ps, IsNm p.1
theorem wrong_pair_ok {ps : List (Str × (Int × Int))} (hn : Nms ps) {u : PuS} {P : D → PuS → Prop} (h : P .non u) : Ok (mf_wrong_pair [.tup (ps.map pairD)]) u P := by
  unfold mf_wrong_pair mb_wrong_pair
  simp
  refine ok_list (enumD (ps.map pairD)) (fun k ρ u' => u' = u ∧ ∃ a b c d, ρ = [.sh (.tup (ps.map pairD)), .ow (((ps.take k).map Prod.fst).map D.str), a, b, c, d]) ?_ ?_ _ _ ⟨rfl, _, _, _, _, rfl⟩
  · rintro k d ρ u' e ⟨rfl, a, b, c, d, rfl⟩
    obtain ⟨x, ex, rfl⟩ := enumD_at e
    rw [List.getElem?_map] at ex
    cases e2 : ps[k]? with
    | none => rw [e2] at ex; cases ex
    | some p =>
      rw [e2] at ex
      cases ex
      have hk : k < ps.length := (List.getElem?_eq_some_iff.mp e2).1
      have hl := hn.len
      unfold lb_wrong_pair_1
      have h1 : ¬ (k : Int) = 12 := by omega
      have e3 : isiD [pairD p, .ty "tuple"] = some (.bl true) := rfl
      have e4 : isiD [cardD p.2, .cls "Card"] = some (.bl true) := rfl
      have e5 : ¬ p.1 ∈ (ps.take k).map Prod.fst := by
        intro hm
        have hnd := hn.nd
        have e6 : ps.map Prod.fst = (ps.take k).map Prod.fst ++ p.1 :: (ps.drop (k + 1)).map Prod.fst := by
          have : p = ps[k] := (List.getElem?_eq_some_iff.mp e2).2.symm
          rw [this, ← List.map_cons (f := Prod.fst), ← List.drop_eq_getElem_cons hk, ← List.map_append, List.take_append_drop]
        rw [e6] at hnd
        exact (List.nodup_append.mp hnd).2.2 _ hm _ List.mem_cons_self rfl
      have e7 : (ps.take (k + 1)).map Prod.fst = (ps.take k).map Prod.fst ++ [p.1] := by
        rw [List.take_succ, e2]; simp
      have hlen : ((ps.take k).map Prod.fst).length ≤ 12 := by simp; omega
      rw [e7]
      generalize (ps.take k).map Prod.fst = nk at e5 hlen ⊢
      simp [e3, h1, -List.map_map]
      have e8 : lenD [pairD p] = some (.int 2) := rfl
      simp [e8, -List.map_map]
      refine ⟨_, rfl, ?_⟩
      simp [-List.map_map]
      rw [ok_of (hn.nm p (List.mem_of_getElem? e2) u')]
      simp [e4, e5]
      omega
  · rintro ρ u' ⟨rfl, a, b, c, d, rfl⟩
    simpa using h
theorem wal_init {ps : List (Str × (Int × Int))} (hn : Nms ps) {u : PuS} {P : List Str × List D → PuS → Prop} (h : P (["pairs"], [.tup (ps.map pairD)]) u) : Ok (mf_Wallet___init__ [.tup (ps.map pairD)]) u P := by
  unfold mf_Wallet___init__ mb_Wallet___init__
  have e : isiD [.tup (ps.map pairD), .ty "tuple"] = some (.bl true) := rfl
  simp [startI, e]
  refine wrong_pair_ok hn ?_
  have e2 : isntD .non .non = some (.bl false) := rfl
  simp [e2]
  exact ⟨[], [], ⟨rfl, rfl⟩, by simp, by decide, h⟩
@[simp] theorem check_wallet_ok {ps : List (Str × (Int × Int))} {u : PuS} {P : D → PuS → Prop} : Ok (mf_check_wallet [walD ps]) u P ↔ P .non u := by
  unfold mf_check_wallet mb_check_wallet
  have e : isiD [walD ps, .cls "Wallet"] = some (.bl true) := rfl
  simp [e]
theorem row_of_ok {am : List (Int × Int)} (ha : Am am) (hl : am.length ≤ 1000) {d : D} (hd : itD d = some (am.map prD)) {u : PuS} {P : D → PuS → Prop} (h : ∀ row, IsRow am row → P (.tup (row.map D.int)) u) : Ok (mf_row_of [d]) u P := by
  unfold mf_row_of mb_row_of
  simp
  refine ok_while (fun n ρ u' => u' = u ∧ ∃ k : Nat, n = 24 - k ∧ k ≤ 24 ∧ (∀ j, j < k → Mor am j) ∧ ∃ a b, ρ = [.sh d, .ow (((List.range k).map fun j => FF am (j + 1) - FF am j).map D.int), .sh (.int k), a, b]) ?_ 24 100000 _ _ (by decide) ⟨rfl, 0, rfl, by omega, fun j hj => by omega, _, _, rfl⟩
  rintro n ρ u' ⟨rfl, k, rfl, hk, hm, a, b, rfl⟩
  simp [hd, -List.map_map]
  refine ⟨by omega, ?_⟩
  refine ok_lcm (fun q => [.sh d, .ow (((List.range k).map fun j => FF am (j + 1) - FF am j).map D.int), .sh (.int k), .sh (.int q.1), .sh (.int q.2)]) (fun q => decide ((k : Int) * q.2 < q.1)) (fun q => .int q.1) ?_ ?_ ?_ ?_
  · intro q hq; rfl
  · intro q hq
    unfold ct_row_of_1
    simp
    exact .inl (.inl (by omega))
  · intro q hq _; simp
  have e1 : (am.filter fun q => decide ((k : Int) * q.2 < q.1)).map (fun q => D.int q.1) = ((am.filter fun q => decide ((k : Int) * q.2 < q.1)).map Prod.fst).map D.int := by rw [List.map_map]; rfl
  rw [e1]
  simp only [s_neL0]
  by_cases hmo : Mor am k
  · have hne : ¬ (am.filter fun q => decide ((k : Int) * q.2 < q.1)).map Prod.fst = [] := by
      intro z
      obtain ⟨q, hq, hm⟩ := hmo
      have : q ∈ am.filter fun q => decide ((k : Int) * q.2 < q.1) := List.mem_filter.mpr ⟨hq, decide_eq_true hm⟩
      rw [List.map_eq_nil_iff.mp z] at this
      cases this
    simp only [hne, decide_false, Bool.not_false, Option.some.injEq, exists_eq_left', onB_bl, br_t]
    have hk24 : k < 24 := by
      rcases Nat.lt_or_ge k 24 with z | z
      · exact z
      · have : k = 24 := by omega
        subst this
        exact absurd hmo ha.stop
    refine ⟨24 - (k + 1), by omega, ?_⟩
    simp [hd, -List.map_map]
    refine ⟨by omega, ?_⟩
    refine ok_lca (fun q => [.sh d, .ow (((List.range k).map fun j => FF am (j + 1) - FF am j).map D.int), .sh (.int k), .sh (.int q.1), .sh (.int q.2)]) (fun q => .int (wor q.1 q.2 (k + 1) - wor q.1 q.2 k)) ?_ ?_ ?_
    · intro q hq; rfl
    · intro q hq
      unfold ce_row_of_2
      simp
      exact part_ok (by omega) ⟨rfl, rfl⟩
    have e2 : (am.map fun q => D.int (wor q.1 q.2 (k + 1) - wor q.1 q.2 k)) = (am.map fun q => wor q.1 q.2 (k + 1) - wor q.1 q.2 k).map D.int := by rw [List.map_map]; rfl
    rw [e2]
    refine ⟨_, s_sumI, ?_⟩
    have e3 : (am.map fun q => wor q.1 q.2 (k + 1) - wor q.1 q.2 k).sum = FF am (k + 1) - FF am k := by
      clear e1 e2 hne hmo hm hd h ha hl
      induction am with
      | nil => rfl
      | cons q am ih => rw [FF_cons, FF_cons, List.map_cons, List.sum_cons, ih]; omega
    rw [e3]
    simp [-List.map_map]
    refine ⟨by omega, k + 1, by omega, by omega, fun j hj => ?_, ?_⟩
    · by_cases e : j = k
      · subst e; exact hmo
      · exact hm j (by omega)
    · rw [List.range_succ, List.map_append, List.map_append]
      simp
  · have hne : (am.filter fun q => decide ((k : Int) * q.2 < q.1)).map Prod.fst = [] := by
      rw [List.map_eq_nil_iff, List.filter_eq_nil_iff]
      intro q hq z
      exact hmo ⟨q, hq, of_decide_eq_true z⟩
    simp only [hne]
    simp [-List.map_map]
    exact h _ ⟨k, hk, hm, hmo, rfl⟩
theorem wform_ok {ps : List (Str × (Int × Int))} (ha : Am (ps.map Prod.snd)) (hl : ps.length ≤ 1000) {u : PuS} {P : D → PuS → Prop} (h : ∀ row, IsRow (ps.map Prod.snd) row → P (formD row) u) : Ok (mf_Wallet_form [walD ps]) u P := by
  unfold mf_Wallet_form mb_Wallet_form walD
  simp
  refine ⟨by omega, ?_⟩
  refine ok_lca (fun p => [.sh (walD ps), .sh (.str p.1), .sh (cardD p.2)]) (fun p => prD p.2) ?_ ?_ ?_
  · intro p hp; rfl
  · intro p hp
    unfold ce_Wallet_form_1 cardD prD
    simp
  refine row_of_ok (am := ps.map Prod.snd) ha (by simpa using hl) (by rw [List.map_map]; rfl) fun row hr => ?_
  exact init_ok ⟨hr.falls ha, hr.len⟩ (h row hr)
theorem dmC_log {a b : Int} (h : 0 < b) (h2 : b.natAbs.log2 < 8000) : dmC a b = true := by
  unfold dmC
  have e : Builtin.divisionGoesByPylong a b = false := by
    unfold Builtin.divisionGoesByPylong
    simp only []
    have hb : ¬ ((if (b == 0) = true then 0 else b.natAbs.log2 / 30 + 1) > 300) := by
      split
      · omega
      · omega
    simp only [hb, decide_false, Bool.false_and]
  rw [e, decide_eq_true h]; rfl
theorem alike_ok {ps qs : List (Str × (Int × Int))} (ha : Am (ps.map Prod.snd)) (hb : Am (qs.map Prod.snd)) (hl : ps.length ≤ 1000) (hm : qs.length ≤ 1000) {u : PuS} {P : D → PuS → Prop}
    (h : ∀ ra rb, IsRow (ps.map Prod.snd) ra → IsRow (qs.map Prod.snd) rb → P (.bl (decide (ra = rb))) u) : Ok (mf_alike [walD ps, walD qs]) u P := by
  unfold mf_alike mb_alike
  simp
  refine ⟨_, _, rfl, ?_⟩
  refine wform_ok ha hl fun ra hra => ?_
  refine ⟨_, _, rfl, ?_⟩
  refine wform_ok hb hm fun rb hrb => ?_
  refine ⟨⟨_, _, rfl⟩, ⟨_, _, rfl⟩, ?_⟩
  unfold formD
  simp
  exact h ra rb hra hrb
end Sh

set_option Elab.async false
set_option linter.all false
set_option maxRecDepth 100000
set_option maxHeartbeats 4000000
namespace S2
open PySem PySem.Spec PyProof.Rows L2 Mi He Sh
@[reducible] def mb__law_draw : MS := mSeq (mIfS (mB (mBin gtD (mIxP 0 (mC (.int 1))) (mC (.int 0)))) (mSeq (mDmP 0 (mC (.int 1)) 2 (mCB dmD (mCons (mIxP 0 (mC (.int 1))) (mCons (mVar 1) (mNil))))) (mRet (mVar 2))) (mNext)) (mSeq (mSet 3 (mCB int1D (mCons (mIxP 0 (mC (.int 0))) (mNil)))) (mSeq (mPutP 0 (mBin modD (mCB int1D (mCons (mBin addD (mBin mulD (mVar 3) (mBin addD (mBin modD (mCB int1D (mCons (mVar 3) (mNil))) (mC (.int 997))) (mC (.int 69621)))) (mC (.int 7919))) (mNil))) (mC (.int 2147483629))) (mC (.int 0))) (mRet (mBin modD (mCB int1D (mCons (mBin fdivD (mIxP 0 (mC (.int 0))) (mC (.int 512))) (mNil))) (mVar 1)))))
def mf__law_draw : List D → M D := mFn 4 mb__law_draw
@[reducible] def lb__law_wide_1 : MS := mSet 2 (mBin addD (mBin mulD (mVar 2) (mC (.int 1000003))) (mCall 2 mf__law_draw (mCons (mVar 0) (mCons (mC (.int 1000003)) (mNil)))))
@[reducible] def mb__law_wide : MS := mSeq (mIfS (mOr (mB (mBin ltD (mVar 1) (mC (.int 1000000)))) (mB (mBin gtD (mIxP 0 (mC (.int 1))) (mC (.int 0))))) (mRet (mCall 2 mf__law_draw (mCons (mVar 0) (mCons (mVar 1) (mNil))))) (mNext)) (mSeq (mSet 2 (mC (.int 0))) (mSeq (mFor (mIof rng1 (mCons (mC (.int 6)) (mNil))) (mGn 3) (lb__law_wide_1)) (mRet (mBin modD (mCB int1D (mCons (mVar 2) (mNil))) (mVar 1)))))
def mf__law_wide : List D → M D := mFn 4 mb__law_wide
@[reducible] def mb__law_amount : MS := mRet (mCall 2 mf__law_wide (mCons (mVar 0) (mCons (mBin ixD (mFz (mLstO (mCons (mC (.int 4)) (mCons (mC (.int 10)) (mCons (mC (.int 100)) (mCons (mBin powD (mC (.int 10)) (mC (.int 6))) (mCons (mBin powD (mC (.int 10)) (mC (.int 12))) (mCons (mBin powD (mC (.int 10)) (mC (.int 30))) (mNil))))))))) (mCall 2 mf__law_draw (mCons (mVar 0) (mCons (mC (.int 6)) (mNil))))) (mNil))))
def mf__law_amount : List D → M D := mFn 1 mb__law_amount
@[reducible] def lb__law_great_1 : MS := mSeq (mPar [4, 5] (mMsh (mCall 2 mf__law_draw (mCons (mVar 0) (mCons (mC (.int 3)) (mNil)))) (mMsh (mBin ixD (mFz (mLstO (mCons (mC (.int 1)) (mCons (mC (.int 2)) (mCons (mC (.int 3)) (mCons (mC (.int 5)) (mCons (mC (.int 24)) (mNil)))))))) (mCall 2 mf__law_draw (mCons (mVar 0) (mCons (mC (.int 5)) (mNil))))) (mMnil)))) (mSeq (mSet 6 (mBin addD (mC (.int 1)) (mCall 1 mf__law_amount (mCons (mVar 0) (mNil))))) (mSeq (mSet 7 (mBin mulD (mVar 5) (mVar 6))) (mSeq (mIfS (mB (mBin gtD (mVar 4) (mC (.int 0)))) (mSet 7 (mIf (mB (mBin eqMD (mVar 4) (mC (.int 1)))) (mCall 2 mf__law_wide (mCons (mVar 0) (mCons (mBin addD (mBin mulD (mVar 5) (mVar 6)) (mC (.int 1))) (mNil)))) (mCall 2 mf__law_draw (mCons (mVar 0) (mCons (mC (.int 3)) (mNil)))))) (mNext)) (mApp 2 (mTup (mCons (mVar 7) (mCons (mVar 6) (mNil))))))))
@[reducible] def mb__law_great : MS := mSeq (mSetO 2 (mLstO (mNil))) (mSeq (mFor (mIof rng1 (mCons (mCall 2 mf__law_draw (mCons (mVar 0) (mCons (mBin addD (mVar 1) (mC (.int 1))) (mNil)))) (mNil))) (mGn 3) (lb__law_great_1)) (mFrz 2 (mRet (mVar 2))))
def mf__law_great : List D → M D := mFn 8 mb__law_great
@[reducible] def ce__law_room_1 : ME := mCB minD (mCons (mVar 2) (mCons (mBin mulD (mVar 1) (mVar 3)) (mNil)))
@[reducible] def mb__law_room : MS := mRet (mCB sumD (mCons (mFz (mLcO [2, 3] (mIany (mVar 0)) (mGt 2 (mGcons (mGn 2) (mGcons (mGn 3) (mGnil)))) (mYes) (ce__law_room_1))) (mNil)))
def mf__law_room : List D → M D := mFn 4 mb__law_room
@[reducible] def lbL__law_purse_1 : MS := mSet 2 (mBin modD (mCB int1D (mCons (mBin mulD (mBin addD (mBin addD (mBin mulD (mVar 2) (mC (.int 69621))) (mVar 3)) (mC (.int 13))) (mC (.int 48271))) (mNil))) (mC (.int 2147483629)))
@[reducible] def mbL__law_purse : MS := mSeq (mSet 2 (mBin addD (mBin mulD (mC (.int 104659)) (mBin addD (mVar 1) (mC (.int 1)))) (mC (.int 17)))) (mSeq (mFor (mIany (mBin addD (mSl (mVar 0) (mOn) (mOs (mC (.int 4)))) (mSl (mVar 0) (mOs (mVar 1)) (mOs (mBin addD (mVar 1) (mC (.int 1))))))) (mGn 3) (lbL__law_purse_1)) (mSeq (mSet 4 (mIf (mB (mBin ltD (mVar 1) (mCB lenD (mCons (mVar 0) (mNil))))) (mBin ixD (mVar 0) (mVar 1)) (mC (.int 0)))) (mRetL (mLstO (mCons (mVar 2) (mCons (mIf (mB (mBin geD (mCB absD (mCons (mVar 4) (mNil))) (mBin powD (mC (.int 10)) (mC (.int 18))))) (mCB absD (mCons (mVar 4) (mNil))) (mC (.int 0))) (mNil)))))))
def mfL__law_purse : List D → M (List D) := mFnL 5 mbL__law_purse
end S2

set_option Elab.async false
set_option linter.all false
set_option maxRecDepth 100000
set_option maxHeartbeats 4000000
namespace S2
open PySem L2 Mi P20 Sh
def Pu (u : PuS) : Prop := ∃ s x : Int, u = .real [s, x] ∧ 0 ≤ s ∧ s < 2147483648
theorem log_big {n : Int} (h : 0 < n ∧ n < 1000000000000000000000000000000000000000000000000000000000000) : n.natAbs.log2 < 200 := by
  refine (Nat.log2_lt (by omega)).mpr ?_
  have : (2 : Nat) ^ 200 = 1606938044258990275541962092341162602522202993782792835301376 := by decide +kernel
  rw [this]
  omega
theorem draw_ok {n : Int} (hn : 0 < n ∧ n < 1000000000000000000000000000000000000000000000000000000000000) {u : PuS} (hu : Pu u) {P : D → PuS → Prop} (h : ∀ r u', 0 ≤ r → r < n → Pu u' → P (.int r) u') : Ok (mf__law_draw [.pur, .int n]) u P := by
  obtain ⟨s, x, rfl, h1, h2⟩ := hu
  unfold mf__law_draw mb__law_draw
  have hd : dmC x n = true := dmC_log hn.1 (by have := log_big hn; omega)
  simp [atI, ixN, hn.1, hd]
  have hh : ∀ k : Int, 0 ≤ k % n ∧ k % n < n := fun k => ⟨Int.emod_nonneg _ (by omega), Int.emod_lt_of_pos _ hn.1⟩
  refine brd (fun hx => ?_) (fun hx => ?_)
  · exact h _ _ (hh _).1 (hh _).2 ⟨_, _, rfl, h1, h2⟩
  · refine ⟨.inl (.inl (by omega)), h _ _ (hh _).1 (hh _).2 ⟨_, _, rfl, ?_, ?_⟩⟩
    all_goals omega
theorem wide_ok {n : Int} (hn : 0 < n ∧ n < 1000000000000000000000000000000000000000000000000000000000000) {u : PuS} (hu : Pu u) {P : D → PuS → Prop} (h : ∀ r u', 0 ≤ r → r < n → Pu u' → P (.int r) u') : Ok (mf__law_wide [.pur, .int n]) u P := by
  unfold mf__law_wide mb__law_wide
  have slow : Ok (loopD (mGn 3) lb__law_wide_1 (rngD 0 6) [.sh .pur, .sh (.int n), .sh (.int 0), .un]) u fun f u1 => match f with
      | .nx ρ1 => ∃ d, vSh ρ1 2 = some d ∧ ∃ z, int1D [d] = some z ∧ ∃ d', vSh ρ1 1 = some d' ∧ ∃ w, modD z d' = some w ∧ P w u1
      | _ => False := by
    refine ok_range 0 6 (fun k ρ u => Pu u ∧ ∃ m t, ρ = [.sh .pur, .sh (.int n), .sh (.int m), t]) ?_ ?_ _ _ ⟨hu, 0, _, rfl⟩
    · rintro k ρ u hk ⟨hu, m, t, rfl⟩
      unfold lb__law_wide_1
      simp
      refine draw_ok (by decide) hu fun r u1 h0 h6 hu1 => ?_
      simp
      exact hu1
    · rintro ρ u ⟨hu, m, t, rfl⟩
      simp [hn.1]
      exact h _ _ (Int.emod_nonneg _ (by omega)) (Int.emod_lt_of_pos _ hn.1) hu
  simp
  refine brd (fun h1 => ?_) (fun h1 => ?_)
  · exact draw_ok hn hu h
  · obtain ⟨s, x, rfl, h3, h4⟩ := id hu
    simp [atI, ixN]
    refine brd (fun h2 => ?_) (fun h2 => ?_)
    · exact draw_ok hn hu h
    · refine slow.mono fun f u1 z => ?_
      cases f with
      | nx ρ1 => simpa using z
      | _ => exact False.elim z
theorem amount_ok {u : PuS} (hu : Pu u) {P : D → PuS → Prop} (h : ∀ r u', 0 ≤ r → r < 1000000000000000000000000000000 → Pu u' → P (.int r) u') : Ok (mf__law_amount [.pur]) u P := by
  unfold mf__law_amount mb__law_amount
  simp
  refine draw_ok (by decide) hu fun r u1 h0 h6 hu1 => ?_
  obtain ⟨n, e, hn⟩ : ∃ n : Int, atI [D.int 4, D.int 10, D.int 100, D.int 1000000, D.int 1000000000000, D.int 1000000000000000000000000000000] r = some (.int n) ∧ 0 < n ∧ n ≤ 1000000000000000000000000000000 := by
    obtain ⟨k, rfl⟩ : ∃ k : Nat, r = (k : Int) := ⟨r.toNat, by omega⟩
    have hk : k < 6 := by omega
    match k, hk with
    | 0, _ => exact ⟨4, rfl, by decide⟩
    | 1, _ => exact ⟨10, rfl, by decide⟩
    | 2, _ => exact ⟨100, rfl, by decide⟩
    | 3, _ => exact ⟨1000000, rfl, by decide⟩
    | 4, _ => exact ⟨1000000000000, rfl, by decide⟩
    | 5, _ => exact ⟨1000000000000000000000000000000, rfl, by decide⟩
  simp [e]
  exact wide_ok (by omega) hu1 fun r u' h1 h2 hu' => h r u' h1 (by omega) hu'
/-- drawn pairs: not too great -/
def Sm (am : List (Int × Int)) : Prop := ∀ q ∈ am, q.2 ≤ 1000000000000000000000000000000
theorem great_ok {u : PuS} (hu : Pu u) {m : Nat} (hm : m ≤ 100) {P : D → PuS → Prop} (h : ∀ am u', Am am → Sm am → am.length ≤ m → Pu u' → P (.lst (am.map prD)) u') : Ok (mf__law_great [.pur, .int m]) u P := by
  unfold mf__law_great mb__law_great
  simp
  refine draw_ok (by omega) hu fun r u1 h0 h6 hu1 => ?_
  simp
  refine ⟨by omega, ?_⟩
  obtain ⟨r, rfl⟩ : ∃ k : Nat, r = (k : Int) := ⟨r.toNat, by omega⟩
  simp only [Int.toNat_natCast]
  refine ok_range 0 r (fun k ρ u => Pu u ∧ ∃ (am : List (Int × Int)) (a b c d e : Sd), Am am ∧ Sm am ∧ am.length = k ∧ ρ = [.sh .pur, .sh (.int m), .ow (am.map prD), a, b, c, d, e]) ?_ ?_ _ _ ⟨hu1, [], _, _, _, _, _, Am.nil, (fun q hq => by cases hq), rfl, rfl⟩
  · rintro k ρ u hk ⟨hu, am, a, b, c, d, e, ha, hs, hl, rfl⟩
    unfold lb__law_great_1
    simp
    refine draw_ok (by decide) hu fun w u2 w0 w3 hu2 => ?_
    refine draw_ok (by decide) hu2 fun y u3 y0 y5 hu3 => ?_
    obtain ⟨n, e1, hn⟩ : ∃ n : Int, atI [D.int 1, D.int 2, D.int 3, D.int 5, D.int 24] y = some (.int n) ∧ 0 < n ∧ n ≤ 24 := by
      obtain ⟨k, rfl⟩ : ∃ k : Nat, y = (k : Int) := ⟨y.toNat, by omega⟩
      have hk : k < 5 := by omega
      match k, hk with
      | 0, _ => exact ⟨1, rfl, by decide⟩
      | 1, _ => exact ⟨2, rfl, by decide⟩
      | 2, _ => exact ⟨3, rfl, by decide⟩
      | 3, _ => exact ⟨5, rfl, by decide⟩
      | 4, _ => exact ⟨24, rfl, by decide⟩
    simp [e1]
    refine amount_ok hu3 fun l u4 l0 l1 hu4 => ?_
    simp
    have hml : ∃ t, n * (1 + l) = t ∧ 0 ≤ t ∧ t ≤ 24 * (1 + l) := ⟨_, rfl, Int.mul_nonneg (by omega) (by omega), Int.mul_le_mul_of_nonneg_right hn.2 (by omega)⟩
    obtain ⟨t, et, t0, t1⟩ := hml
    rw [et]
    refine ⟨.inl (.inl (by omega)), ?_⟩
    have nxt : ∀ (v : Int) (u' : PuS), 0 ≤ v → v ≤ 24 * (1 + l) → Pu u' → (am.length < 100000 ∧ Pu u' ∧ ∃ am', Am am' ∧ Sm am' ∧ am'.length = k + 1 ∧ am.map prD ++ [D.tup [D.int v, D.int (1 + l)]] = am'.map prD) := fun v u' h0 h1 hu' =>
      ⟨by omega, hu', am ++ [(v, 1 + l)], ha.append (Am.cons ⟨by show 1 ≤ 1 + l; omega, h0, h1⟩ Am.nil), fun q hq => by
        rcases List.mem_append.mp hq with hq | hq
        · exact hs q hq
        · have := List.mem_singleton.mp hq; subst this; show 1 + l ≤ _; omega, by simp [hl], by simp [prD]⟩
    refine brd (fun hw => ?_) (fun hw => ?_)
    · refine brd (fun hw1 => ?_) (fun hw1 => ?_)
      · refine ⟨.inl (.inl (by omega)), ?_⟩
        try rw [et]
        refine wide_ok (by omega) hu4 fun v u5 v0 v1 hu5 => ?_
        simpa using nxt v u5 v0 (by omega) hu5
      · refine draw_ok (by decide) hu4 fun v u5 v0 v1 hu5 => ?_
        simpa using nxt v u5 v0 (by omega) hu5
    · simpa using nxt t u4 t0 t1 hu4
  · rintro ρ u ⟨hu, am, a, b, c, d, e, ha, hs, hl, rfl⟩
    simp
    exact h am u ha hs (by omega) hu
theorem room_ok {am : List (Int × Int)} (hl : am.length ≤ 1000) {k : Nat} (hk : k ≤ 1000) {u : PuS} {P : D → PuS → Prop} (h : P (.int (FF am k)) u) : Ok (mf__law_room [.lst (am.map prD), .int k]) u P := by
  unfold mf__law_room mb__law_room
  simp
  refine ⟨by omega, ?_⟩
  refine ok_lca (fun q => [.sh (.lst (am.map prD)), .sh (.int k), .sh (.int q.1), .sh (.int q.2)]) (fun q => .int (wor q.1 q.2 k)) ?_ ?_ ?_
  · intro q hq; rfl
  · intro q hq
    unfold ce__law_room_1
    simp
    refine ⟨.inl (.inl (by omega)), ?_⟩
    unfold wor; split <;> omega
  have e : (am.map fun q => D.int (wor q.1 q.2 k)) = (am.map fun q => wor q.1 q.2 k).map D.int := by rw [List.map_map]; rfl
  rw [e]
  exact ⟨_, s_sumI, h⟩
theorem purse_ok {ns : List Int} {k : Nat} (hk : k < 100) {u : PuS} {P : List D → PuS → Prop} (h : ∀ s x : Int, 0 ≤ s → s < 2147483648 → P ([s, x].map D.int) u) : Ok (mfL__law_purse [.scr ns, .int k]) u P := by
  unfold mfL__law_purse mbL__law_purse
  have e1 : cutD (ns.map D.int) none (some 4) = (ns.take 4).map D.int := by rw [show (4 : Int) = ((4 : Nat) : Int) from rfl, cut_to, List.map_take]
  obtain ⟨zs, e2, hz⟩ : ∃ zs : List Int, cutD (ns.map D.int) (some (k : Int)) (some ((k : Int) + 1)) = zs.map D.int ∧ zs.length ≤ 1 := by
    refine ⟨(ns.drop k).take 1, ?_, by simp; omega⟩
    unfold cutD
    rw [show ((k : Int) + 1) = ((k + 1 : Nat) : Int) by omega, HT.sIx_nat, HT.sIx_nat, List.length_map]
    rcases Nat.lt_or_ge k ns.length with h | h
    · rw [Nat.min_eq_left (by omega), Nat.min_eq_left (by omega), show k + 1 - k = 1 by omega, List.map_take, List.map_drop]
    · rw [Nat.min_eq_right (by omega), Nat.min_eq_right (by omega), List.drop_eq_nil_of_le (by simp), List.drop_eq_nil_of_le h]
      simp
  have e3 : addD (.lst ((ns.take 4).map D.int)) (.lst (zs.map D.int)) = some (.lst ((ns.take 4 ++ zs).map D.int)) := by
    rw [s_addL (by simp; omega), List.map_append]
  simp only [ok_fnL, s_start, List.map_cons, List.map_nil, List.length_cons, List.length_nil, ok_seq, ok_set, ok_bin, ok_C, ok_var, s_vSh, ok_for, ok_Iany, ok_sl, ok_On, ok_Os]
  simp
  rw [e1, e2]
  refine ⟨_, e3, _, rfl, ?_⟩
  refine ok_list ((ns.take 4 ++ zs).map D.int) (fun _ ρ u' => u' = u ∧ ∃ (s : Int) (t w : Sd), ρ = [.sh (.scr ns), .sh (.int k), .sh (.int s), t, w] ∧ 0 ≤ s ∧ s < 2147483648) ?_ ?_ _ _ ⟨rfl, _, _, _, rfl, by omega, by omega⟩
  · rintro j d ρ u' e ⟨rfl, s, t, w, rfl, h1, h2⟩
    rw [List.getElem?_map] at e
    cases e2 : (ns.take 4 ++ zs)[j]? with
    | none => rw [e2] at e; cases e
    | some x =>
      rw [e2] at e
      cases e
      simp
      omega
  · rintro ρ u' ⟨rfl, s, t, w, rfl, h1, h2⟩
    have e4 : ∀ n : Int, absD [.int n] = some (.int (if n < 0 then -n else n)) := fun n => rfl
    have fin : ∀ n : Int, Ok (mRetL (mLstO (mCons (mVar 2) (mCons (mIf (mB (mBin geD (mCB absD (mCons (mVar 4) (mNil))) (mBin powD (mC (.int 10)) (mC (.int 18))))) (mCB absD (mCons (mVar 4) (mNil))) (mC (.int 0))) (mNil)))) [.sh (.scr ns), .sh (.int k), .sh (.int s), t, .sh (.int n)]) u' fun f u1 => match f with
      | .rl d => P d u1
      | _ => False := fun n => by
      simp [e4]
      refine brd (fun _ => ?_) (fun _ => ?_)
      · exact h s _ h1 h2
      · exact h s 0 h1 h2
    simp
    refine brd (fun hl => ?_) (fun hl => ?_)
    · have e5 : atI ns (k : Int) = some ns[k] := at_nat (List.getElem?_eq_getElem hl)
      simp [e5]
      simpa using fin ns[k]
    · simpa using fin 0
/-- the law's end: all draws of all purses are right -/
theorem law_all {mfr : List D → M D} {N : Int} (hN : 2 ≤ N ∧ N ≤ 60) (h : ∀ u, Pu u → Ok (mfr [.pur]) u fun d _ => d = .bl true) (ns : List Int) (u : PuS) :
    Ok (mFn 2 (mRet (mCB allD (mCons (mFz (mLcO [1] (mIof rng1 (mCons (mCB maxD (mCons (mC (.int 2)) (mCons (mCB minD (mCons (mCB lenD (mCons (mVar 0) (mNil))) (mCons (mC (.int N)) (mNil)))) (mNil)))) (mNil))) (mGn 1) (mYes) (mWith mfr (mCallL 2 mfL__law_purse (mCons (mVar 0) (mCons (mVar 1) (mNil))))))) (mNil)))) [.scr ns]) u fun d _ => d = .bl true := by
  simp
  obtain ⟨m, hm, hm2⟩ : ∃ m : Nat, (if 2 < (if N < (ns.length : Int) then N else (ns.length : Int)) then (if N < (ns.length : Int) then N else (ns.length : Int)) else 2) = (m : Int) ∧ m ≤ 60 := by
    refine ⟨(if 2 < (if N < (ns.length : Int) then N else (ns.length : Int)) then (if N < (ns.length : Int) then N else (ns.length : Int)) else 2).toNat, ?_, ?_⟩ <;> split <;> split <;> omega
  rw [hm]
  refine ⟨by omega, by rw [rngD_len]; omega, ?_⟩
  refine (ok_lc (fun _ => True) (fun d => d = .bl true) _ _ trivial ?_).mono ?_
  · intro d hd u _
    obtain ⟨i, hi, rfl⟩ : ∃ i : Nat, i < m ∧ d = .int i := by
      obtain ⟨i, hi, e⟩ := List.mem_iff_getElem.mp hd
      rw [rngD_len] at hi
      exact ⟨i, by omega, by rw [← e]; simp [rngD]⟩
    refine ⟨_, rfl, ?_⟩
    simp
    refine ok_with true ?_
    simp
    refine purse_ok (by omega) fun s x h1 h2 => ?_
    exact ⟨[s, x], rfl, h _ ⟨s, x, rfl, h1, h2⟩⟩
  · rintro ys u' ⟨⟨hl, he⟩, -⟩
    have e1 : ys = (List.replicate ys.length true).map D.bl := by
      clear hl
      induction ys with
      | nil => rfl
      | cons a ys ih =>
        have := he a List.mem_cons_self
        subst this
        rw [List.length_cons, List.replicate_succ, List.map_cons, ← ih fun y hy => he y (List.mem_cons_of_mem _ hy)]
    rw [e1]
    show (blsD ((List.replicate ys.length true).map D.bl)).map (fun bs => D.bl (bs.all id)) = _
    rw [blsD_map]
    simp
theorem law_fin {mf : List D → M D} (h : ∀ ns u, Ok (mf [.scr ns]) u fun d _ => d = .bl true) (ns : List Int) (o : HO) (_ : ns.length ≤ 63) : ∃ u', mf [.scr ns] (.idle o) = some (.bl true, u') := by
  obtain ⟨d, u', e, rfl⟩ := h ns (.idle o)
  exact ⟨u', e⟩
end S2

set_option Elab.async false
set_option linter.all false
set_option maxRecDepth 100000
set_option maxHeartbeats 4000000
namespace S1
open PySem PySem.Spec PyProof.Rows L2 Mi He Sh
@[reducible] def mb__law_draw : MS := mSeq (mPutP 0 (mBin addD (mIxP 0 (mC (.int 2))) (mC (.int 1))) (mC (.int 2))) (mSeq (mIfS (mB (mBin gtD (mIxP 0 (mC (.int 0))) (mC (.int 0)))) (mSeq (mDmP 0 (mC (.int 0)) 2 (mCB dmD (mCons (mIxP 0 (mC (.int 0))) (mCons (mVar 1) (mNil))))) (mRet (mVar 2))) (mNext)) (mSeq (mSet 3 (mBin modD (mCB int1D (mCons (mBin addD (mBin mulD (mIxP 0 (mC (.int 1))) (mC (.int 44017))) (mBin mulD (mC (.int 60013)) (mIxP 0 (mC (.int 2))))) (mNil))) (mC (.int 2147483587)))) (mSeq (mPutP 0 (mBin modD (mCB int1D (mCons (mBin addD (mBin mulD (mVar 3) (mBin addD (mBin modD (mCB int1D (mCons (mVar 3) (mNil))) (mC (.int 20021))) (mC (.int 10007)))) (mBin mulD (mC (.int 977)) (mIxP 0 (mC (.int 2))))) (mNil))) (mC (.int 2147483549))) (mC (.int 1))) (mRet (mBin modD (mCB int1D (mCons (mBin fdivD (mIxP 0 (mC (.int 1))) (mC (.int 64))) (mNil))) (mVar 1))))))
def mf__law_draw : List D → M D := mFn 4 mb__law_draw
@[reducible] def lb__law_large_1 : MS := mSet 1 (mBin addD (mBin mulD (mVar 1) (mBin powD (mC (.int 10)) (mC (.int 6)))) (mCall 2 mf__law_draw (mCons (mVar 0) (mCons (mBin powD (mC (.int 10)) (mC (.int 6))) (mNil)))))
@[reducible] def mb__law_large : MS := mSeq (mSet 1 (mC (.int 0))) (mSeq (mFor (mIof rng1 (mCons (mCall 2 mf__law_draw (mCons (mVar 0) (mCons (mC (.int 6)) (mNil)))) (mNil))) (mGn 2) (lb__law_large_1)) (mRet (mVar 1)))
def mf__law_large : List D → M D := mFn 3 mb__law_large
@[reducible] def mbL__law_purse : MS := mRetL (mLstO (mCons (mIf (mB (mBin geD (mVar 0) (mBin powD (mC (.int 10)) (mC (.int 18))))) (mVar 0) (mC (.int 0))) (mCons (mBin modD (mCB int1D (mCons (mVar 0) (mNil))) (mC (.int 2147483629))) (mCons (mC (.int 0)) (mNil)))))
def mfL__law_purse : List D → M (List D) := mFnL 1 mbL__law_purse
@[reducible] def lb__law_cell_1 : MS := mSet 2 (mBin modD (mCB int1D (mCons (mBin addD (mBin mulD (mVar 2) (mC (.int 30323))) (mVar 3)) (mNil))) (mC (.int 2147483029)))
@[reducible] def mb__law_cell : MS := mSeq (mIfS (mB (mBin ltD (mVar 1) (mCB lenD (mCons (mVar 0) (mNil))))) (mRet (mBin ixD (mVar 0) (mVar 1))) (mNext)) (mSeq (mSet 2 (mBin modD (mCB int1D (mCons (mBin mulD (mBin mulD (mC (.int 41203)) (mBin addD (mVar 1) (mC (.int 3)))) (mBin addD (mVar 1) (mC (.int 11)))) (mNil))) (mC (.int 2147483029)))) (mSeq (mFor (mIany (mSl (mVar 0) (mOn) (mOs (mC (.int 3))))) (mGn 3) (lb__law_cell_1)) (mRet (mVar 2))))
def mf__law_cell : List D → M D := mFn 4 mb__law_cell
end S1

set_option Elab.async false
set_option linter.all false
set_option maxRecDepth 100000
set_option maxHeartbeats 4000000
namespace S1
open PySem PySem.Spec PyProof.Rows L2 Mi He Sh
@[reducible] def lb__law_name_1 : MS := mSet 4 (mBin addD (mVar 4) (mBin ixD (mVar 2) (mCall 2 mf__law_draw (mCons (mVar 0) (mCons (mC (.int 36)) (mNil))))))
@[reducible] def ce__law_name_2 : ME := mBin addD (mC (.str "zz")) (mCB strID (mCons (mVar 8) (mNil)))
@[reducible] def mb__law_name : MS := mSeq (mSet 2 (mC (.str "abcdefghijklmnopqrstuvwxyz0123456789"))) (mSeq (mPar [3, 4] (mMsh (mCall 2 mf__law_draw (mCons (mVar 0) (mCons (mC (.int 3)) (mNil)))) (mMsh (mBin ixD (mVar 2) (mCall 2 mf__law_draw (mCons (mVar 0) (mCons (mC (.int 26)) (mNil))))) (mMnil)))) (mSeq (mIfS (mAnd (mB (mBin gtD (mVar 3) (mC (.int 0)))) (mB (mBin neMD (mVar 1) (mFz (mLstO (mNil)))))) (mSeq (mSet 5 (mBin ixD (mVar 1) (mCall 2 mf__law_draw (mCons (mVar 0) (mCons (mCB lenD (mCons (mVar 1) (mNil))) (mNil)))))) (mSet 4 (mSl (mVar 5) (mOn) (mOs (mBin addD (mC (.int 1)) (mCall 2 mf__law_draw (mCons (mVar 0) (mCons (mCB lenD (mCons (mVar 5) (mNil))) (mNil))))))))) (mNext)) (mSeq (mFor (mIof rng1 (mCons (mCall 2 mf__law_draw (mCons (mVar 0) (mCons (mBin subD (mC (.int 9)) (mCB lenD (mCons (mVar 4) (mNil)))) (mNil)))) (mNil))) (mGn 6) (lb__law_name_1)) (mRet (mBin ixD (mFz (mLcO [7] (mIany (mBin addD (mFz (mLstO (mCons (mVar 4) (mNil)))) (mFz (mLcO [8] (mIof rng1 (mCons (mC (.int 20)) (mNil))) (mGn 8) (mYes) (ce__law_name_2))))) (mGn 7) (mB (mBin ninD (mVar 7) (mVar 1))) (mVar 7))) (mC (.int 0)))))))
def mf__law_name : List D → M D := mFn 9 mb__law_name
end S1

set_option Elab.async false
set_option linter.all false
set_option maxRecDepth 100000
set_option maxHeartbeats 4000000
/-! K2m: what courses ask, plain. -/
namespace P20
/-- an event: a bill, or a card that comes -/
abbrev Ev := Sum Int (Int × Int)
def isB : Ev → Bool
  | .inl _ => true
  | .inr _ => false
def nB (evs : List Ev) : Nat := (evs.filter isB).length
def nC (evs : List Ev) : Nat := (evs.filter fun e => !isB e).length
theorem nB_inl (x : Int) (r : List Ev) : nB (.inl x :: r) = nB r + 1 := rfl
theorem nB_inr (q : Int × Int) (r : List Ev) : nB (.inr q :: r) = nB r := rfl
/-- sets of days with their worth -/
inductive Sel : Int → List Ev → List Int → Int → Prop
  | nil (i : Int) : Sel i [] [] 0
  | card {i b l v : Int} {rest : List Ev} {s : List Int} (h : Sel (i + 1) rest s v) : Sel i (.inr (b, l) :: rest) s (v - wor b l s.length)
  | skip {i x v : Int} {rest : List Ev} {s : List Int} (h : Sel (i + 1) rest s v) : Sel i (.inl x :: rest) s v
  | take {i x v : Int} {rest : List Ev} {s : List Int} (h : Sel (i + 1) rest s v) : Sel i (.inl x :: rest) (i :: s) (x + v)
/-- one step of the table, at an event with this index -/
def askStep (i : Int) (e : Ev) (best : List (Int × List Int)) : List (Int × List Int) := match e with
  | .inr (b, l) => best.map fun q => (q.1 - wor b l q.2.length, q.2)
  | .inl x =>
    let longer := best.map fun q => (q.1 + x, i :: q.2)
    [best.headD (0, [])] ++ ((List.range (best.length - 1)).map fun k => if (longer.getD k (0, [])).1 ≤ (best.getD (k + 1) (0, [])).1 then best.getD (k + 1) (0, []) else longer.getD k (0, [])) ++ [longer.getLastD (0, [])]
def asked (i : Int) : List Ev → List (Int × List Int)
  | [] => [(0, [])]
  | e :: rest => askStep i e (asked (i + 1) rest)
/-- a table as it should be -/
structure Tab (i : Int) (evs : List Ev) (t : List (Int × List Int)) : Prop where
  len : t.length = nB evs + 1
  at_ : ∀ (k : Nat) (a : Int) (ds : List Int), t[k]? = some (a, ds) → ds.length = k ∧ Sel i evs ds a ∧ ∀ s v, Sel i evs s v → s.length = k → v ≤ a
theorem Sel.len {i : Int} {evs : List Ev} {s : List Int} {v : Int} (h : Sel i evs s v) : s.length ≤ nB evs := by
  induction h with
  | nil => exact Nat.le_refl _
  | card h ih => rw [nB_inr]; exact ih
  | skip h ih => rw [nB_inl]; omega
  | take h ih => rw [nB_inl, List.length_cons]; omega
theorem asked_tab : ∀ (evs : List Ev) (i : Int), Tab i evs (asked i evs)
  | [], i => ⟨rfl, fun k a ds e => by
      cases k with
      | zero =>
        simp [asked] at e
        obtain ⟨rfl, rfl⟩ := e
        exact ⟨rfl, .nil i, fun s v h _ => by cases h; exact Int.le_refl _⟩
      | succ k => simp [asked] at e⟩
  | .inr (b, l) :: rest, i => by
    have ih := asked_tab rest (i + 1)
    refine ⟨?_, fun k a ds e => ?_⟩
    · show ((asked (i + 1) rest).map _).length = _
      rw [List.length_map, ih.len, nB_inr]
    · have e' : ((asked (i + 1) rest).map fun q => (q.1 - wor b l q.2.length, q.2))[k]? = some (a, ds) := e
      rw [List.getElem?_map] at e'
      cases e1 : (asked (i + 1) rest)[k]? with
      | none => rw [e1] at e'; cases e'
      | some q =>
        obtain ⟨a', ds'⟩ := q
        rw [e1] at e'
        cases e'
        obtain ⟨h1, h2, h3⟩ := ih.at_ k a' _ e1
        refine ⟨h1, .card h2, fun s v h hs => ?_⟩
        cases h with
        | card h =>
          have := h3 _ _ h hs
          rw [hs, h1]
          omega
  | .inl x :: rest, i => by
    have ih := asked_tab rest (i + 1)
    have hn : nB (.inl x :: rest) = nB rest + 1 := rfl
    have hlen : (asked (i + 1) rest).length = nB rest + 1 := ih.len
    generalize hb : asked (i + 1) rest = best at ih hlen
    have hres : asked i (.inl x :: rest) = askStep i (.inl x) best := by rw [← hb]; rfl
    rw [hres]
    obtain ⟨q0, br, rfl⟩ : ∃ q br, best = q :: br := by
      cases best with
      | nil => simp at hlen
      | cons q br => exact ⟨q, br, rfl⟩
    have hget : ∀ k, k < nB rest + 1 → (q0 :: br)[k]? = some ((q0 :: br).getD k (0, [])) := fun k hk => by
      rw [List.getD_eq_getElem?_getD, List.getElem?_eq_getElem (by omega)]; rfl
    have hgl : ∀ k, k < nB rest + 1 → ((q0 :: br).map fun q => (q.1 + x, i :: q.2)).getD k (0, []) = (((q0 :: br).getD k (0, [])).1 + x, i :: ((q0 :: br).getD k (0, [])).2) := fun k hk => by
      rw [List.getD_eq_getElem?_getD, List.getElem?_map, hget k hk]; rfl
    have hst : ∀ k, k ≤ nB rest + 1 → (askStep i (.inl x) (q0 :: br))[k]? = some (if k = 0 then q0 else if h : k < nB rest + 1 then (if ((q0 :: br).getD (k - 1) (0, [])).1 + x ≤ ((q0 :: br).getD k (0, [])).1 then (q0 :: br).getD k (0, []) else (((q0 :: br).getD (k - 1) (0, [])).1 + x, i :: ((q0 :: br).getD (k - 1) (0, [])).2)) else (((q0 :: br).getD (nB rest) (0, [])).1 + x, i :: ((q0 :: br).getD (nB rest) (0, [])).2)) := fun k hk => by
      unfold askStep
      simp only []
      cases k with
      | zero => simp
      | succ k =>
        rw [if_neg (by omega)]
        show ((([(q0 :: br).headD (0, [])] ++ _) ++ [_])[k + 1]?) = _
        by_cases hk2 : k + 1 < nB rest + 1
        · have hlen' : br.length = nB rest := by rw [List.length_cons] at hlen; omega
          rw [dif_pos hk2, List.getElem?_append_left (by simp; omega)]
          show ((List.range ((q0 :: br).length - 1)).map _)[k]? = _
          rw [List.getElem?_map, List.getElem?_range (by rw [hlen]; omega)]
          simp only [Option.map_some, hgl k (by omega)]
          rfl
        · rw [dif_neg hk2]
          have hke : k = nB rest := by omega
          have hlen' : br.length = nB rest := by rw [List.length_cons] at hlen; omega
          rw [List.getElem?_append_right (by simp; omega)]
          have e0 : k + 1 - ([(q0 :: br).headD (0, [])] ++ ((List.range ((q0 :: br).length - 1)).map fun k => if (((q0 :: br).map fun q => (q.1 + x, i :: q.2)).getD k (0, [])).1 ≤ ((q0 :: br).getD (k + 1) (0, [])).1 then (q0 :: br).getD (k + 1) (0, []) else ((q0 :: br).map fun q => (q.1 + x, i :: q.2)).getD k (0, []))).length = 0 := by simp; omega
          rw [e0]
          simp only [List.getElem?_cons_zero]
          congr 1
          rw [List.getLastD_eq_getLast?, List.getLast?_eq_getElem?]
          have e1 : ((q0 :: br).map fun q => (q.1 + x, i :: q.2)).length - 1 = nB rest := by rw [List.length_map, hlen]; omega
          rw [e1, List.getElem?_map, hget (nB rest) (by omega)]
          rfl
    refine ⟨?_, fun k a ds e => ?_⟩
    · rw [hn]
      unfold askStep
      simp
      simp at hlen
      omega
    · have hk : k ≤ nB rest + 1 := by
        have := (List.getElem?_eq_some_iff.mp e).1
        have h2 : (askStep i (.inl x) (q0 :: br)).length = nB rest + 2 := by
          unfold askStep
          simp
          simp at hlen
          omega
        omega
      rw [hst k hk] at e
      have e := Option.some.inj e
      have tk : ∀ j, j < nB rest + 1 → ∀ q, q = (q0 :: br).getD j (0, []) → q.2.length = j ∧ Sel (i + 1) rest q.2 q.1 ∧ ∀ s v, Sel (i + 1) rest s v → s.length = j → v ≤ q.1 := fun j hj q hq => ih.at_ j q.1 q.2 (by rw [hget j hj, hq])
      have cmp : ∀ (s : List Int) (v : Int), Sel i (.inl x :: rest) s v → (Sel (i + 1) rest s v) ∨ ∃ s' v', s = i :: s' ∧ v = x + v' ∧ Sel (i + 1) rest s' v' := fun s v h => by
        cases h with
        | skip h => exact .inl h
        | take h => exact .inr ⟨_, _, rfl, rfl, h⟩
      by_cases k0 : k = 0
      · subst k0
        rw [if_pos rfl] at e
        obtain ⟨h1, h2, h3⟩ := tk 0 (by omega) q0 rfl
        subst e
        refine ⟨h1, .skip h2, fun s v h hs => ?_⟩
        rcases cmp s v h with h | ⟨s', v', es, ev, h'⟩
        · exact h3 s v h hs
        · rw [es] at hs; simp at hs
      · rw [if_neg k0] at e
        obtain ⟨p1, p2, p3⟩ := tk (k - 1) (by omega) _ rfl
        by_cases hk2 : k < nB rest + 1
        · rw [dif_pos hk2] at e
          obtain ⟨h1, h2, h3⟩ := tk k hk2 _ rfl
          split at e
          · rename_i hc
            rw [e] at h1 h2 h3 hc
            refine ⟨h1, .skip h2, fun s v h hs => ?_⟩
            rcases cmp s v h with h | ⟨s', v', es, ev, h'⟩
            · exact h3 s v h hs
            · have := p3 s' v' h' (by rw [es, List.length_cons] at hs; omega)
              simp only [] at hc
              omega
          · rename_i hc
            obtain ⟨ea, ed⟩ := Prod.mk.inj e
            subst ea ed
            refine ⟨by rw [List.length_cons, p1]; omega, ?_, fun s v h hs => ?_⟩
            · rw [Int.add_comm]; exact .take p2
            · rcases cmp s v h with h | ⟨s', v', es, ev, h'⟩
              · have := h3 s v h hs; omega
              · have := p3 s' v' h' (by rw [es, List.length_cons] at hs; omega); omega
        · rw [dif_neg hk2] at e
          have hke : k - 1 = nB rest := by omega
          rw [← hke] at e
          obtain ⟨ea, ed⟩ := Prod.mk.inj e
          subst ea ed
          refine ⟨by rw [List.length_cons, p1]; omega, ?_, fun s v h hs => ?_⟩
          · rw [Int.add_comm]; exact .take p2
          · rcases cmp s v h with h | ⟨s', v', es, ev, h'⟩
            · have := h.len; omega
            · have := p3 s' v' h' (by rw [es, List.length_cons] at hs; omega); omega
/-- what a course asks of 1, 2, .. days -/
def asks (evs : List Ev) : List Int := ((asked 0 evs).map Prod.fst).drop 1
theorem asked_len (evs : List Ev) (i : Int) : (asked i evs).length = nB evs + 1 := (asked_tab evs i).len
/-! ### sets of days, one by one -/
def spotsI : Int → List Ev → List Int
  | _, [] => []
  | i, .inl _ :: r => i :: spotsI (i + 1) r
  | i, .inr _ :: r => spotsI (i + 1) r
theorem spotsI_ge : ∀ (evs : List Ev) (i d : Int), d ∈ spotsI i evs → i ≤ d
  | [], i, d, h => by cases h
  | .inl x :: r, i, d, h => by
    rcases List.mem_cons.mp h with rfl | h
    · exact Int.le_refl _
    · have := spotsI_ge r (i + 1) d h; omega
  | .inr q :: r, i, d, h => by have := spotsI_ge r (i + 1) d h; omega
def bAt (evs : List Ev) (d : Int) : Int := match evs[d.toNat]? with
  | some (.inl x) => x
  | _ => 0
def cutSum : Int → List Ev → List Int → Int
  | _, [], _ => 0
  | i, .inr q :: r, s => wor q.1 q.2 (s.filter fun d => decide (i < d)).length + cutSum (i + 1) r s
  | i, .inl _ :: r, s => cutSum (i + 1) r s
def lv (i : Int) (evs : List Ev) (s : List Int) : Int := (s.map fun d => bAt evs (d - i)).sum - cutSum i evs s
theorem bAt_cons {e : Ev} {r : List Ev} {i d : Int} (h : i + 1 ≤ d) : bAt (e :: r) (d - i) = bAt r (d - (i + 1)) := by
  unfold bAt
  have : (d - i).toNat = (d - (i + 1)).toNat + 1 := by omega
  rw [this]
  rfl
theorem cutSum_drop : ∀ (evs : List Ev) (i j : Int) (s : List Int), j < i → cutSum i evs (j :: s) = cutSum i evs s
  | [], i, j, s, h => rfl
  | .inr q :: r, i, j, s, h => by
    show wor q.1 q.2 ((j :: s).filter fun d => decide (i < d)).length + cutSum (i + 1) r (j :: s) = _
    rw [cutSum_drop r (i + 1) j s (by omega), List.filter_cons_of_neg (by simp; omega)]
    rfl
  | .inl x :: r, i, j, s, h => cutSum_drop r (i + 1) j s (by omega)
theorem sel_of_sub : ∀ (evs : List Ev) (i : Int) (s : List Int), s.Sublist (spotsI i evs) → Sel i evs s (lv i evs s)
  | [], i, s, h => by
    have : s = [] := List.eq_nil_of_sublist_nil h
    subst this
    exact .nil i
  | .inr (b, l) :: r, i, s, h => by
    have hs : s.Sublist (spotsI (i + 1) r) := h
    have ge : ∀ d ∈ s, i + 1 ≤ d := fun d hd => spotsI_ge r (i + 1) d (hs.subset hd)
    have ih := sel_of_sub r (i + 1) s hs
    have e : lv i (.inr (b, l) :: r) s = lv (i + 1) r s - wor b l s.length := by
      unfold lv
      have e1 : (s.map fun d => bAt (.inr (b, l) :: r) (d - i)) = s.map fun d => bAt r (d - (i + 1)) := List.map_congr_left fun d hd => bAt_cons (ge d hd)
      have e2 : s.filter (fun d => decide (i < d)) = s := List.filter_eq_self.mpr fun d hd => decide_eq_true (by have := ge d hd; omega)
      show _ - (wor b l (s.filter fun d => decide (i < d)).length + cutSum (i + 1) r s) = _
      rw [e1, e2]
      omega
    rw [e]
    exact .card ih
  | .inl x :: r, i, s, h => by
    have hs : s.Sublist (i :: spotsI (i + 1) r) := h
    have key : ∀ s' : List Int, s'.Sublist (spotsI (i + 1) r) → lv i (.inl x :: r) s' = lv (i + 1) r s' := fun s' hs' => by
      have ge : ∀ d ∈ s', i + 1 ≤ d := fun d hd => spotsI_ge r (i + 1) d (hs'.subset hd)
      unfold lv
      have e1 : (s'.map fun d => bAt (.inl x :: r) (d - i)) = s'.map fun d => bAt r (d - (i + 1)) := List.map_congr_left fun d hd => bAt_cons (ge d hd)
      rw [e1]
      rfl
    rcases List.sublist_cons_iff.mp hs with hs' | ⟨s', rfl, hs'⟩
    · rw [key s hs']
      exact .skip (sel_of_sub r (i + 1) s hs')
    · have ge : ∀ d ∈ s', i + 1 ≤ d := fun d hd => spotsI_ge r (i + 1) d (hs'.subset hd)
      have e : lv i (.inl x :: r) (i :: s') = x + lv (i + 1) r s' := by
        rw [← key s' hs']
        unfold lv
        rw [List.map_cons, List.sum_cons]
        have e2 : bAt (.inl x :: r) (i - i) = x := by rw [Int.sub_self]; rfl
        have e3 : cutSum i (.inl x :: r) (i :: s') = cutSum i (.inl x :: r) s' := cutSum_drop r (i + 1) i s' (by omega)
        rw [e2, e3]
        omega
      rw [e]
      exact .take (sel_of_sub r (i + 1) s' hs')
theorem Sel.sub {i : Int} {evs : List Ev} {s : List Int} {v : Int} (h : Sel i evs s v) : s.Sublist (spotsI i evs) := by
  induction h with
  | nil => exact List.Sublist.refl _
  | card h ih => exact ih
  | skip h ih => exact ih.cons _
  | take h ih => exact ih.cons_cons _
theorem Sel.uniq {i : Int} {evs : List Ev} {s : List Int} {v v' : Int} (h : Sel i evs s v) (h' : Sel i evs s v') : v = v' := by
  induction h generalizing v' with
  | nil => cases h'; rfl
  | card h ih =>
    cases h' with
    | card h2 => rw [ih h2]
  | @skip i x v rest s h ih =>
    cases h' with
    | skip h2 => exact ih h2
    | take h2 =>
      have := spotsI_ge _ _ _ (h.sub.subset List.mem_cons_self)
      omega
  | @take i x v rest s h ih =>
    cases h' with
    | take h2 => rw [ih h2]
    | skip h2 =>
      have := spotsI_ge _ _ _ (h2.sub.subset List.mem_cons_self)
      omega
theorem Sel.val {i : Int} {evs : List Ev} {s : List Int} {v : Int} (h : Sel i evs s v) : v = lv i evs s := h.uniq (sel_of_sub evs i s h.sub)
end P20

set_option Elab.async false
set_option linter.all false
set_option maxRecDepth 100000
set_option maxHeartbeats 4000000
namespace Sh
open PySem L2 Mi P20
def evOk : Ev → Prop
  | .inl x => 0 ≤ x
  | .inr q => 1 ≤ q.2 ∧ 0 ≤ q.1 ∧ q.1 ≤ 24 * q.2
structure EvsOk (evs : List Ev) : Prop where
  each : ∀ e ∈ evs, evOk e
  bills : nB evs ≤ 12
  cards : nC evs ≤ 6
theorem nBC : ∀ evs : List Ev, nB evs + nC evs = evs.length
  | [] => rfl
  | .inl x :: r => by have := nBC r; rw [nB_inl]; show nB r + 1 + nC r = r.length + 1; omega
  | .inr q :: r => by have := nBC r; rw [nB_inr]; show nB r + (nC r + 1) = r.length + 1; omega
theorem EvsOk.len {evs : List Ev} (h : EvsOk evs) : evs.length ≤ 18 := by have := nBC evs; have := h.bills; have := h.cards; omega
@[simp] theorem bal_ok {q : Int × Int} {u : PuS} {P : D → PuS → Prop} : Ok (mf_Card_balance [.obj "Card" ["held", "daily"] [.int q.1, .int q.2]]) u P ↔ P (.int q.1) u := by
  unfold mf_Card_balance mb_Card_balance
  simp
@[simp] theorem lim_ok {q : Int × Int} {u : PuS} {P : D → PuS → Prop} : Ok (mf_Card_limit [.obj "Card" ["held", "daily"] [.int q.1, .int q.2]]) u P ↔ P (.int q.2) u := by
  unfold mf_Card_limit mb_Card_limit
  simp
@[simp] theorem cards_ok {ps : List (Str × (Int × Int))} (hl : ps.length ≤ 1000) {u : PuS} {P : D → PuS → Prop} (hp : P (.tup (ps.map fun p => cardD p.2)) u) : Ok (mf_Wallet_cards [.obj "Wallet" ["pairs"] [.tup (ps.map pairD)]]) u P := by
  unfold mf_Wallet_cards mb_Wallet_cards
  simp
  refine ⟨by omega, ?_⟩
  refine ok_lca (fun p => [.sh (walD ps), .sh (.str p.1), .sh (cardD p.2)]) (fun p => cardD p.2) ?_ ?_ ?_
  · intro p hp; rfl
  · intro p hp; simp
  exact hp
theorem amounts_ok {ps : List (Str × (Int × Int))} (hl : ps.length ≤ 1000) {u : PuS} {P : D → PuS → Prop} (hp : P (.tup ((ps.map Prod.snd).map prD)) u) : Ok (mf_amounts_of [walD ps]) u P := by
  unfold mf_amounts_of mb_amounts_of
  simp
  refine ⟨_, _, rfl, ?_⟩
  refine cards_ok hl ?_
  simp
  refine ⟨by omega, ?_⟩
  refine ok_lca (xs := ps) (f := fun p => cardD p.2) (fun p => [.sh (walD ps), .sh (cardD p.2)]) (fun p => prD p.2) ?_ ?_ ?_
  · intro p hp; rfl
  · intro p hp
    unfold ce_amounts_of_1
    simp
    refine ⟨_, _, rfl, ?_⟩
    rw [bal_ok]
    refine ⟨_, _, rfl, ?_⟩
    rw [lim_ok]
    exact ⟨rfl, rfl⟩
  rw [List.map_map] at hp
  exact hp
end Sh

set_option Elab.async false
set_option linter.all false
set_option maxRecDepth 100000
set_option maxHeartbeats 4000000
namespace S1
open PySem L2 Mi P20 Sh
def Pu (u : PuS) : Prop := ∃ x s c : Int, u = .real [x, s, c] ∧ 0 ≤ s ∧ s < 2147483648
theorem draw_ok {n : Int} (hn : 0 < n ∧ n < 1000000000) {u : PuS} (hu : Pu u) {P : D → PuS → Prop} (h : ∀ r u', 0 ≤ r → r < n → Pu u' → P (.int r) u') : Ok (mf__law_draw [.pur, .int n]) u P := by
  obtain ⟨x, s, c, rfl, h1, h2⟩ := hu
  unfold mf__law_draw mb__law_draw
  simp [atI, ixN, hn]
  have hh : ∀ k : Int, 0 ≤ k % n ∧ k % n < n := fun k => ⟨Int.emod_nonneg _ (by omega), Int.emod_lt_of_pos _ hn.1⟩
  refine brd (fun hx => ?_) (fun hx => ?_)
  · exact h _ _ (hh _).1 (hh _).2 ⟨_, _, _, rfl, h1, h2⟩
  · refine ⟨.inl (.inl (by omega)), h _ _ (hh _).1 (hh _).2 ⟨_, _, _, rfl, ?_, ?_⟩⟩
    all_goals omega
theorem large_ok {u : PuS} (hu : Pu u) {P : D → PuS → Prop} (h : ∀ r u', 0 ≤ r → Pu u' → P (.int r) u') : Ok (mf__law_large [.pur]) u P := by
  unfold mf__law_large mb__law_large
  simp
  refine draw_ok (by decide) hu fun r u1 h0 h6 hu1 => ?_
  simp
  refine ⟨by omega, ?_⟩
  refine ok_range 0 r.toNat (fun k ρ u => Pu u ∧ ∃ n t, 0 ≤ n ∧ ρ = [.sh .pur, .sh (.int n), t]) ?_ ?_ _ _ ⟨hu1, 0, _, by decide, rfl⟩
  · rintro k ρ u hk ⟨hu, n, t, hn, rfl⟩
    simp
    refine draw_ok (by decide) hu fun r u1 h0 h6 hu1 => ?_
    simp
    exact ⟨hu1, by omega⟩
  · rintro ρ u ⟨hu, n, t, hn, rfl⟩
    simp
    exact h _ _ hn hu
theorem cell_ok {ns : List Int} {k : Nat} (hk : k < 100) {u : PuS} {P : D → PuS → Prop} (h : ∀ n : Int, P (.int n) u) : Ok (mf__law_cell [.scr ns, .int k]) u P := by
  unfold mf__law_cell mb__law_cell
  simp
  by_cases hl : k < ns.length
  · have e1 : atI ns (k : Int) = some ns[k] := at_nat (List.getElem?_eq_getElem hl)
    simp [hl, e1]
    exact h _
  · simp [hl]
    refine ⟨.inl (.inr (by omega)), ?_⟩
    rw [show (3 : Int) = ((3 : Nat) : Int) from rfl, cut_to, ← List.map_take]
    refine ok_list ((ns.take 3).map D.int) (fun _ ρ u' => u' = u ∧ ∃ n t, ρ = [.sh (.scr ns), .sh (.int k), .sh (.int n), t]) ?_ ?_ _ _ ⟨rfl, _, _, rfl⟩
    · rintro j d ρ u' e ⟨rfl, n, t, rfl⟩
      rw [List.getElem?_map] at e
      cases e2 : (ns.take 3)[j]? with
      | none => rw [e2] at e; cases e
      | some x =>
        rw [e2] at e
        cases e
        unfold lb__law_cell_1
        simp
    · rintro ρ u' ⟨rfl, n, t, rfl⟩
      simp
      exact h _
theorem purse_ok {n : Int} {u : PuS} {P : List D → PuS → Prop} (h : ∀ x s c : Int, 0 ≤ s → s < 2147483648 → P ([x, s, c].map D.int) u) : Ok (mfL__law_purse [.int n]) u P := by
  unfold mfL__law_purse mbL__law_purse
  simp
  have h1 : 0 ≤ n % 2147483629 ∧ n % 2147483629 < 2147483648 := by omega
  by_cases hn : 1000000000000000000 ≤ n
  · simp [hn]
    exact h n _ 0 h1.1 h1.2
  · simp [hn]
    exact h 0 _ 0 h1.1 h1.2
/-- the law's end: all draws of all purses are right -/
theorem law_all {mfr : List D → M D} {N : Int} (hN : 2 ≤ N ∧ N ≤ 60) (h : ∀ u, Pu u → Ok (mfr [.pur]) u fun d _ => d = .bl true) (ns : List Int) (u : PuS) :
    Ok (mFn 2 (mRet (mCB allD (mCons (mFz (mLcO [1] (mIof rng1 (mCons (mCB maxD (mCons (mC (.int 2)) (mCons (mCB minD (mCons (mCB lenD (mCons (mVar 0) (mNil))) (mCons (mC (.int N)) (mNil)))) (mNil)))) (mNil))) (mGn 1) (mYes) (mWith mfr (mCallL 1 mfL__law_purse (mCons (mCall 2 mf__law_cell (mCons (mVar 0) (mCons (mVar 1) (mNil)))) (mNil)))))) (mNil)))) [.scr ns]) u fun d _ => d = .bl true := by
  simp
  obtain ⟨m, hm, hm2⟩ : ∃ m : Nat, (if 2 < (if N < (ns.length : Int) then N else (ns.length : Int)) then (if N < (ns.length : Int) then N else (ns.length : Int)) else 2) = (m : Int) ∧ m ≤ 60 := by
    refine ⟨(if 2 < (if N < (ns.length : Int) then N else (ns.length : Int)) then (if N < (ns.length : Int) then N else (ns.length : Int)) else 2).toNat, ?_, ?_⟩ <;> split <;> split <;> omega
  rw [hm]
  refine ⟨by omega, by rw [rngD_len]; omega, ?_⟩
  refine (ok_lc (fun _ => True) (fun d => d = .bl true) _ _ trivial ?_).mono ?_
  · intro d hd u _
    obtain ⟨i, hi, rfl⟩ : ∃ i : Nat, i < m ∧ d = .int i := by
      obtain ⟨i, hi, e⟩ := List.mem_iff_getElem.mp hd
      rw [rngD_len] at hi
      exact ⟨i, by omega, by rw [← e]; simp [rngD]⟩
    refine ⟨_, rfl, ?_⟩
    simp
    refine ok_with true ?_
    simp
    refine cell_ok (by omega) fun n => ?_
    refine purse_ok fun x s c h1 h2 => ?_
    exact ⟨[x, s, c], rfl, h _ ⟨x, s, c, rfl, h1, h2⟩⟩
  · rintro ys u' ⟨⟨hl, he⟩, -⟩
    have e1 : ys = (List.replicate ys.length true).map D.bl := by
      clear hl
      induction ys with
      | nil => rfl
      | cons a ys ih =>
        have := he a List.mem_cons_self
        subst this
        rw [List.length_cons, List.replicate_succ, List.map_cons, ← ih fun y hy => he y (List.mem_cons_of_mem _ hy)]
    rw [e1]
    show (blsD ((List.replicate ys.length true).map D.bl)).map (fun bs => D.bl (bs.all id)) = _
    rw [blsD_map]
    simp
theorem law_fin {mf : List D → M D} (h : ∀ ns u, Ok (mf [.scr ns]) u fun d _ => d = .bl true) (ns : List Int) (o : HO) (_ : ns.length ≤ 63) : ∃ u', mf [.scr ns] (.idle o) = some (.bl true, u') := by
  obtain ⟨d, u', e, rfl⟩ := h ns (.idle o)
  exact ⟨u', e⟩
end S1


set_option Elab.async false
set_option linter.all false
set_option maxRecDepth 100000
set_option maxHeartbeats 4000000
/-! K4m: the least row among falling rows, plain. -/
namespace P20
open Mi L2
theorem sumN_one {row : List Int} {x : Int} (h : Falls (x :: row)) : sumN row 1 ≤ x := by
  cases row with
  | nil => rw [sumN_nil]; have := h.1 x List.mem_cons_self; omega
  | cons y r =>
    have := h.2 0 x y rfl rfl
    show y + sumN r 0 ≤ x
    have : sumN r 0 = 0 := by cases r <;> rfl
    omega
theorem sumN_ccv : ∀ {row : List Int}, Falls row → ∀ n, sumN row (n + 2) - sumN row (n + 1) ≤ sumN row (n + 1) - sumN row n
  | [], _, n => by simp [sumN_nil]
  | x :: row, h, 0 => by
    have h1 := sumN_one h
    have h2 : sumN (x :: row) 2 = x + sumN row 1 := rfl
    have h3 : sumN (x :: row) 1 = x + sumN row 0 := rfl
    have h4 : sumN row 0 = 0 := by cases row <;> rfl
    have h5 : sumN (x :: row) 0 = 0 := rfl
    show sumN (x :: row) 2 - sumN (x :: row) 1 ≤ sumN (x :: row) 1 - sumN (x :: row) 0
    omega
  | x :: row, h, n + 1 => by
    have ih := sumN_ccv h.tail n
    have h1 : sumN (x :: row) (n + 1 + 2) = x + sumN row (n + 2) := rfl
    have h2 : sumN (x :: row) (n + 1 + 1) = x + sumN row (n + 1) := rfl
    have h3 : sumN (x :: row) (n + 1) = x + sumN row n := rfl
    omega
theorem ccv_many {row : List Int} (h : Falls row) (k : Nat) : ∀ i : Nat, sumN row (k + 1 + i) ≤ sumN row (k + 1) + (i : Int) * (sumN row (k + 1) - sumN row k) ∧ sumN row (k + 1 + i + 1) - sumN row (k + 1 + i) ≤ sumN row (k + 1) - sumN row k
  | 0 => ⟨by simp, sumN_ccv h k⟩
  | i + 1 => by
    obtain ⟨h1, h2⟩ := ccv_many h k i
    have h3 := sumN_ccv h (k + 1 + i)
    refine ⟨?_, by
      show sumN row (k + 1 + i + 2) - sumN row (k + 1 + i + 1) ≤ _
      omega⟩
    rw [show ((i + 1 : Nat) : Int) = (i : Int) + 1 by omega, Int.add_mul, Int.one_mul]
    show sumN row (k + 1 + i + 1) ≤ _
    omega
/-- the least row has the least sums -/
theorem Least.least {t : Int} {ss row other : List Int} (h : Least t ss row) (ho : Falls other) (hc : ∀ (n : Nat) (s : Int), ss[n]? = some s → s ≤ t + sumN other (n + 1)) : ∀ n, sumN row n ≤ sumN other n
  | 0 => by
    have h1 : sumN row 0 = 0 := by cases row <;> rfl
    have h2 : sumN other 0 = 0 := by cases other <;> rfl
    omega
  | k + 1 => by
    have ih := h.least ho hc k
    have hm := sumN_mono (row := other) (fun x hx => by have := ho.1 x hx; omega) k
    by_cases hk : k < row.length
    · have ek : row[k]? = some row[k] := List.getElem?_eq_getElem hk
      obtain ⟨i, s, e1, h1⟩ := h.tight k _ ek
      have h2 := hc _ _ e1
      have h3 := (ccv_many ho k i).1
      have es : sumN row (k + 1) = sumN row k + row[k] := by rw [sumN_app, List.getD_eq_getElem?_getD, ek]; rfl
      rcases Int.lt_or_le (sumN other (k + 1)) (sumN row (k + 1)) with z | z
      · have hd : sumN other (k + 1) - sumN other k ≤ row[k] - 1 := by omega
        have h4 : (i : Int) * (sumN other (k + 1) - sumN other k) ≤ (i : Int) * (row[k] - 1) := Int.mul_le_mul_of_nonneg_left hd (by omega)
        rw [Int.add_mul, Int.one_mul] at h1
        rw [show k + i + 1 = k + 1 + i by omega] at h2
        omega
      · exact z
    · have h1 := sumN_flat row (k + 1) (by omega)
      have h2 := sumN_flat row k (by omega)
      omega
/-! the rows still to be gone through -/
end P20

set_option Elab.async false
set_option linter.all false
set_option maxRecDepth 100000
set_option maxHeartbeats 4000000
/-! W3m: sparing payments, plain. -/
namespace P20
open Mi L2
/-- the parts of the cards at a level -/
def pts (am : List (Int × Int)) (k : Nat) : List Int := am.map fun q => wor q.1 q.2 (k + 1) - wor q.1 q.2 k
theorem pts_sum (am : List (Int × Int)) (k : Nat) : (pts am k).sum = FF am (k + 1) - FF am k := by
  induction am with
  | nil => rfl
  | cons q am ih =>
    rw [FF_cons, FF_cons]
    show (wor q.1 q.2 (k + 1) - wor q.1 q.2 k) + (pts am k).sum = _
    omega
/-- the greatest level with parts for this bill -/
def IsLev (am : List (Int × Int)) (x : Int) (L : Nat) : Prop := (pts am (L + 1)).sum < x ∧ ∀ j, j < L → x ≤ (pts am (j + 1)).sum
theorem IsLev.uniq {am : List (Int × Int)} {x : Int} {L L' : Nat} (h : IsLev am x L) (h' : IsLev am x L') : L = L' := by
  rcases Nat.lt_trichotomy L L' with z | z | z
  · have := h'.2 L z; have := h.1; omega
  · exact z
  · have := h.2 L' z; have := h'.1; omega
/-- the level -/
noncomputable def lev (am : List (Int × Int)) (x : Int) : Nat := by classical exact if h : ∃ L, IsLev am x L then Classical.choose h else 0
theorem IsLev.top {am : List (Int × Int)} {x : Int} {L : Nat} (h : IsLev am x L) (hx : x ≤ FF am 1) (ha : Am am) : x ≤ (pts am L).sum := by
  cases L with
  | zero => rw [pts_sum, FF_zero ha]; show x ≤ FF am (0 + 1) - 0; simpa using hx
  | succ L => exact h.2 L (Nat.lt_succ_self _)
noncomputable def lows (am : List (Int × Int)) (x : Int) : List Int := if x = 0 then am.map (fun _ => 0) else pts am (lev am x + 1)
noncomputable def highs (am : List (Int × Int)) (x : Int) : List Int := if x = 0 then am.map (fun _ => 0) else pts am (lev am x)
/-- a sum is spread between bounds -/
def sprd : Int → List (Int × Int) → List Int
  | _, [] => []
  | r, q :: l => (q.1 + min r (q.2 - q.1)) :: sprd (r - min r (q.2 - q.1)) l
noncomputable def pay (am : List (Int × Int)) (x : Int) : List Int := sprd (x - (lows am x).sum) ((lows am x).zip (highs am x))
/-- a row between bounds -/
def Betw : List Int → List Int → List Int → Prop
  | [], [], [] => True
  | a :: as, y :: ys, b :: bs => a ≤ y ∧ y ≤ b ∧ Betw as ys bs
  | _, _, _ => False
theorem Betw.len : ∀ {as ys bs : List Int}, Betw as ys bs → ys.length = as.length ∧ bs.length = as.length
  | [], [], [], _ => ⟨rfl, rfl⟩
  | _ :: _, _ :: _, _ :: _, h => by
    have := Betw.len h.2.2
    simp [this]
  | [], _ :: _, _, h => by simp [Betw] at h
  | [], [], _ :: _, h => by simp [Betw] at h
  | _ :: _, [], _, h => by simp [Betw] at h
  | _ :: _, _ :: _, [], h => by simp [Betw] at h
def Evs0 (evs : List Ev) : Prop := (∀ q, Sum.inr q ∈ evs → 1 ≤ q.2 ∧ 0 ≤ q.1 ∧ q.1 ≤ 24 * q.2) ∧ ∀ x, Sum.inl x ∈ evs → (0 : Int) ≤ x
theorem Evs0.tail {e : Ev} {evs : List Ev} (h : Evs0 (e :: evs)) : Evs0 evs := ⟨fun q hq => h.1 q (List.mem_cons_of_mem _ hq), fun x hx => h.2 x (List.mem_cons_of_mem _ hx)⟩
end P20

set_option Elab.async false
set_option linter.all false
set_option maxRecDepth 100000
set_option maxHeartbeats 4000000
/-! K5m: what is left behind a payment, and the best that can be left, plain. -/
namespace P20
open Mi L2
/-- the most that can be left -/
def best (am : List (Int × Int)) (x : Int) (k : Nat) : Int := min (FF am k) (FF am (k + 1) - x)
end P20


set_option Elab.async false
set_option linter.all false
set_option maxRecDepth 100000
set_option maxHeartbeats 4000000
/-! K7m: few cards with a given row, plain. -/
namespace P20
open Mi L2
/-- what falls are worth: the first at day d -/
def WW (d : Nat) : List Int → Nat → Int
  | [], _ => 0
  | a :: r, k => a * ((min k d : Nat) : Int) + WW (d + 1) r k
/-- few cards -/
def few : Nat → List Int → List (Int × Int)
  | d, a :: b :: r =>
    if a = 0 then few (d + 1) (b :: r)
    else if b = 0 then ((d : Int) * (a + b) + b, a + b) :: few (d + 1) (b :: r)
    else ((d : Int) * (a + b) + b, a + b) :: few (d + 2) r
  | _, _ => []
termination_by _ l => l.length
end P20

set_option Elab.async false
set_option linter.all false
set_option maxRecDepth 100000
set_option maxHeartbeats 4000000
/-! D8m: one course is no harder than another. -/
namespace P20
/-- so many bills of a course, with this value -/
inductive Pk : List Ev → Nat → Int → Prop
  | nil : Pk [] 0 0
  | card {b l v : Int} {rest : List Ev} {k : Nat} (h : Pk rest k v) : Pk (.inr (b, l) :: rest) k (v - wor b l k)
  | skip {x v : Int} {rest : List Ev} {k : Nat} (h : Pk rest k v) : Pk (.inl x :: rest) k v
  | take {x v : Int} {rest : List Ev} {k : Nat} (h : Pk rest k v) : Pk (.inl x :: rest) (k + 1) (x + v)
theorem Pk.of {i : Int} {evs : List Ev} {s : List Int} {v : Int} (h : Sel i evs s v) : Pk evs s.length v := by
  induction h with
  | nil => exact .nil
  | card h ih => exact .card ih
  | skip h ih => exact .skip ih
  | take h ih => exact .take ih
theorem Pk.sel {evs : List Ev} {k : Nat} {v : Int} (h : Pk evs k v) : ∀ i : Int, ∃ s, Sel i evs s v ∧ s.length = k := by
  induction h with
  | nil => intro i; exact ⟨[], .nil i, rfl⟩
  | card h ih =>
    intro i
    obtain ⟨s, h1, h2⟩ := ih (i + 1)
    subst h2
    exact ⟨s, .card h1, rfl⟩
  | skip h ih => intro i; obtain ⟨s, h1, h2⟩ := ih (i + 1); exact ⟨s, .skip h1, h2⟩
  | take h ih => intro i; obtain ⟨s, h1, h2⟩ := ih (i + 1); exact ⟨i :: s, .take h1, by simp [h2]⟩
def Dom (e e' : List Ev) : Prop := ∀ k v, Pk e k v → ∃ k' v', Pk e' k' v' ∧ k' ≤ k ∧ v ≤ v'
theorem Pk.zero {evs : List Ev} (hc : ∀ q, Sum.inr q ∈ evs → (0 : Int) ≤ q.1) {k : Nat} {v : Int} (h : Pk evs k v) : k = 0 → v = 0 := by
  induction h with
  | nil => intro _; rfl
  | @card b l v rest k h ih =>
    intro e
    have h0 : (0 : Int) ≤ b := hc (b, l) List.mem_cons_self
    have := ih (fun q hq => hc q (List.mem_cons_of_mem _ hq)) e
    subst e
    rw [wor_zero h0]
    omega
  | skip h ih => intro e; exact ih (fun q hq => hc q (List.mem_cons_of_mem _ hq)) e
  | take h ih => intro e; cases e
theorem Falls.of_least {t : Int} {ss row : List Int} (h : Least t ss row) : Falls row := ⟨h.pos, h.falls⟩
theorem asks_at {evs : List Ev} {n : Nat} {s : Int} (h : (asks evs)[n]? = some s) : Pk evs (n + 1) s := by
  unfold asks at h
  rw [List.getElem?_drop, List.getElem?_map] at h
  cases e : (asked 0 evs)[1 + n]? with
  | none => rw [e] at h; cases h
  | some q =>
    rw [e] at h
    cases h
    obtain ⟨h1, h2, _⟩ := (asked_tab evs 0).at_ _ _ _ e
    have := Pk.of h2
    rw [h1, Nat.add_comm] at this
    exact this
theorem asks_le {evs : List Ev} {k : Nat} {v : Int} (h : Pk evs (k + 1) v) : ∃ s, (asks evs)[k]? = some s ∧ v ≤ s := by
  obtain ⟨s', h1, h2⟩ := h.sel 0
  have hl := h1.len
  have hk : k + 1 < (asked 0 evs).length := by rw [asked_len]; omega
  have e : (asked 0 evs)[k + 1]? = some (asked 0 evs)[k + 1] := List.getElem?_eq_getElem hk
  obtain ⟨_, _, h3⟩ := (asked_tab evs 0).at_ _ _ _ e
  refine ⟨_, ?_, h3 s' v h1 h2⟩
  unfold asks
  rw [List.getElem?_drop, List.getElem?_map, Nat.add_comm, e]
  rfl
theorem Dom.form {e e' : List Ev} {row row' : List Int} (hc : ∀ q, Sum.inr q ∈ e' → (0 : Int) ≤ q.1) (h : Dom e e') (r : Least 0 (asks e) row) (r' : Least 0 (asks e') row') : ∀ n, sumN row n ≤ sumN row' n := by
  have hn : ∀ x ∈ row', (0 : Int) ≤ x := fun x hx => Int.le_of_lt (r'.pos x hx)
  refine r.least (Falls.of_least r') fun n s hs => ?_
  obtain ⟨k', v', h1, h2, h3⟩ := h _ _ (asks_at hs)
  have h4 : v' ≤ sumN row' k' := by
    cases k' with
    | zero => rw [h1.zero hc rfl]; simp [sumN]
    | succ k =>
      obtain ⟨s', e1, e2⟩ := asks_le h1
      have := r'.cover k s' e1
      omega
  have h5 := sumN_le hn h2
  omega
theorem Dom.refl (e : List Ev) : Dom e e := fun k v h => ⟨k, v, h, Nat.le_refl _, Int.le_refl _⟩
theorem Dom.trans {a b c : List Ev} (h : Dom a b) (h2 : Dom b c) : Dom a c := fun k v hk => by
  obtain ⟨k', v', h1, h3, h4⟩ := h _ _ hk
  obtain ⟨k2, v2, h5, h6, h7⟩ := h2 _ _ h1
  exact ⟨k2, v2, h5, by omega, by omega⟩
/-! ### bills alone -/
def bl_ (bs : List Int) : List Ev := bs.map Sum.inl
def DomB (a b : List Int) : Prop := ∀ t : List Int, t.Sublist a → ∃ t' : List Int, t'.Sublist b ∧ t'.length ≤ t.length ∧ t.sum ≤ t'.sum
theorem DomB.trans {a b c : List Int} (h : DomB a b) (h2 : DomB b c) : DomB a c := fun t ht => by
  obtain ⟨t', h1, h3, h4⟩ := h _ ht
  obtain ⟨t2, h5, h6, h7⟩ := h2 _ h1
  exact ⟨t2, h5, by omega, by omega⟩
theorem DomB.sub {a b : List Int} (h : a.Sublist b) : DomB a b := fun t ht => ⟨t, ht.trans h, Nat.le_refl _, Int.le_refl _⟩
theorem DomB.perm {a b : List Int} (h : a.Perm b) : DomB a b := by
  induction h with
  | nil => exact fun t ht => ⟨t, ht, Nat.le_refl _, Int.le_refl _⟩
  | cons x h ih =>
    intro t ht
    rcases List.sublist_cons_iff.mp ht with h' | ⟨t', rfl, h'⟩
    · obtain ⟨t2, h1, h2, h3⟩ := ih t h'
      exact ⟨t2, .cons _ h1, h2, h3⟩
    · obtain ⟨t2, h1, h2, h3⟩ := ih t' h'
      exact ⟨x :: t2, .cons₂ _ h1, by simp; omega, by simp; omega⟩
  | swap x y l =>
    intro t ht
    rcases List.sublist_cons_iff.mp ht with h' | ⟨t', rfl, h'⟩
    · rcases List.sublist_cons_iff.mp h' with h2 | ⟨t2, rfl, h2⟩
      · exact ⟨t, .cons _ (.cons _ h2), Nat.le_refl _, Int.le_refl _⟩
      · exact ⟨x :: t2, .cons₂ _ (.cons _ h2), Nat.le_refl _, Int.le_refl _⟩
    · rcases List.sublist_cons_iff.mp h' with h2 | ⟨t2, rfl, h2⟩
      · exact ⟨y :: t', .cons _ (.cons₂ _ h2), Nat.le_refl _, Int.le_refl _⟩
      · exact ⟨x :: y :: t2, .cons₂ _ (.cons₂ _ h2), by simp, by simp; omega⟩
  | trans h1 h2 i1 i2 => exact i1.trans i2
/-- a bill 0 put in -/
theorem DomB.zero (a b : List Int) : DomB (a ++ 0 :: b) (a ++ b) := by
  refine (DomB.perm List.perm_middle).trans fun t ht => ?_
  rcases List.sublist_cons_iff.mp ht with h' | ⟨t', rfl, h'⟩
  · exact ⟨t, h', Nat.le_refl _, Int.le_refl _⟩
  · exact ⟨t', h', by simp, by simp⟩
/-- a bill parted in two -/
theorem DomB.part (a b : List Int) {x p : Int} (h0 : 0 ≤ p) (h1 : p ≤ x) : DomB (a ++ p :: b ++ [x - p]) (a ++ x :: b) := by
  have e : (a ++ p :: b ++ [x - p]).Perm (p :: (x - p) :: (a ++ b)) := by
    refine List.perm_append_comm.trans ?_
    refine (List.Perm.cons _ List.perm_middle).trans ?_
    exact .swap _ _ _
  refine (DomB.perm e).trans (DomB.trans ?_ (DomB.perm (List.perm_middle (l₁ := a) (l₂ := b) (a := x)).symm))
  intro t ht
  rcases List.sublist_cons_iff.mp ht with h' | ⟨t', rfl, h'⟩
  · rcases List.sublist_cons_iff.mp h' with h2 | ⟨t2, rfl, h2⟩
    · exact ⟨t, .cons _ h2, Nat.le_refl _, Int.le_refl _⟩
    · exact ⟨x :: t2, .cons₂ _ h2, by simp, by simp; omega⟩
  · rcases List.sublist_cons_iff.mp h' with h2 | ⟨t2, rfl, h2⟩
    · exact ⟨x :: t', .cons₂ _ h2, by simp, by simp; omega⟩
    · exact ⟨x :: t2, .cons₂ _ h2, by simp, by simp; omega⟩
theorem sub_sum {t a : List Int} (h : t.Sublist a) (h0 : ∀ x ∈ a, (0 : Int) ≤ x) : t.sum ≤ a.sum := by
  induction h with
  | slnil => exact Int.le_refl _
  | cons x h ih =>
    have := ih fun y hy => h0 y (List.mem_cons_of_mem _ hy)
    have := h0 x List.mem_cons_self
    simp; omega
  | cons_cons x h ih =>
    have := ih fun y hy => h0 y (List.mem_cons_of_mem _ hy)
    simp; omega
/-- the first ones made one -/
theorem DomB.join (a b : List Int) (h0 : ∀ x ∈ a, (0 : Int) ≤ x) : DomB (a ++ b) ([a.sum] ++ b) := fun t ht => by
  obtain ⟨t1, t2, rfl, h1, h2⟩ := List.sublist_append_iff.mp ht
  cases t1 with
  | nil => exact ⟨t2, .cons _ h2, by simp, by simp⟩
  | cons y t1 =>
    have := sub_sum h1 h0
    refine ⟨a.sum :: t2, .cons₂ _ h2, by simp, ?_⟩
    rw [List.sum_append, List.sum_cons (a := a.sum)]
    omega
/-! ### one card amid the bills -/
end P20





set_option Elab.async false
set_option linter.all false
set_option maxRecDepth 100000
set_option maxHeartbeats 4000000
/-! F1l: drawn rows with their bounds, repr of plain data, the operators of forms. -/
namespace S1
open PySem L2 Mi P20 Sh
def big : Int := 1000000000000000000000000000000
end S1
namespace Sh
open PySem L2 Mi P20
/-! ### repr of plain data -/
def Rp (k n : Nat) (d : D) : Prop := ∃ a, toPD d = some a ∧ a.showable = true ∧ a.hasDict = false ∧ a.depth ≤ k ∧ a.shown.length ≤ n
theorem Rp.mono {k n k' n' : Nat} {d : D} (h : Rp k n d) (hk : k ≤ k') (hn : n ≤ n') : Rp k' n' d := by
  obtain ⟨a, h1, h2, h3, h4, h5⟩ := h
  exact ⟨a, h1, h2, h3, by omega, by omega⟩
theorem Rp.bl (b : Bool) : Rp 0 5 (.bl b) := ⟨.bool b, rfl, rfl, rfl, Nat.le_refl _, by cases b <;> decide⟩
theorem log_of {i : Int} {m : Nat} (h : i.natAbs < 2 ^ m) : i.natAbs.log2 < m + 1 := by
  by_cases z : i.natAbs = 0
  · rw [z]; simp
  · have := (Nat.log2_lt z).mpr h
    omega
theorem Rp.int {i : Int} (h : i.natAbs < 10 ^ 60) : Rp 0 61 (.int i) := by
  refine ⟨.int i, rfl, decide_eq_true ?_, rfl, Nat.le_refl _, ?_⟩
  · have h2 : i.natAbs < 2 ^ 200 := Nat.lt_trans h (by decide)
    have := log_of h2
    omega
  · have e := PySem.int_text_length_le10 (k := 60) (by decide) h
    show (Str.ofString (toString i)).length ≤ 61
    rw [ofString_length]
    exact e
theorem rp_all {k n : Nat} : ∀ {ds : List D}, (∀ d ∈ ds, Rp k n d) → ∃ as, toPDs ds = some as ∧ PyData.showableAll as = true ∧ PyData.hasDictAll as = false ∧ PyData.depthAll as ≤ k ∧ ((PyData.shownAll as).map (·.length)).sum ≤ ds.length * n ∧ (PyData.shownAll as).length = ds.length
  | [], _ => ⟨[], rfl, rfl, rfl, Nat.zero_le _, by simp [PyData.shownAll], rfl⟩
  | d :: ds, h => by
    obtain ⟨a, h1, h2, h3, h4, h5⟩ := h d List.mem_cons_self
    obtain ⟨as, g1, g2, g3, g4, g5, g6⟩ := rp_all fun x hx => h x (List.mem_cons_of_mem _ hx)
    refine ⟨a :: as, ?_, ?_, ?_, ?_, ?_, ?_⟩
    · unfold toPDs; rw [h1, g1]
    · unfold PyData.showableAll; rw [h2, g2]; rfl
    · unfold PyData.hasDictAll; rw [h3, g3]; rfl
    · unfold PyData.depthAll; omega
    · unfold PyData.shownAll
      rw [List.map_cons, List.sum_cons, List.length_cons, Nat.add_mul]
      omega
    · unfold PyData.shownAll; simp [g6]
theorem Rp.lst {k n : Nat} {ds : List D} (h : ∀ d ∈ ds, Rp k n d) : Rp (k + 1) (ds.length * n + 2 * ds.length + 3) (.lst ds) := by
  obtain ⟨as, g1, g2, g3, g4, g5, g6⟩ := rp_all h
  refine ⟨.list as, ?_, ?_, ?_, ?_, ?_⟩
  · unfold toPD; rw [g1]; rfl
  · unfold PyData.showable; exact g2
  · unfold PyData.hasDict; exact g3
  · unfold PyData.depth; omega
  · unfold PyData.shown
    have := listText_len_le (PyData.shownAll as)
    omega
theorem Rp.tup {k n : Nat} {ds : List D} (h : ∀ d ∈ ds, Rp k n d) : Rp (k + 1) (ds.length * n + 2 * ds.length + 3) (.tup ds) := by
  obtain ⟨as, g1, g2, g3, g4, g5, g6⟩ := rp_all h
  refine ⟨.tuple as, ?_, ?_, ?_, ?_, ?_⟩
  · unfold toPD; rw [g1]; rfl
  · unfold PyData.showable; exact g2
  · unfold PyData.hasDict; exact g3
  · unfold PyData.depth; omega
  · unfold PyData.shown
    have := tupleText_len_le (PyData.shownAll as)
    omega
theorem Rp.row {row : List Int} (hl : row.length ≤ 26) (h : ∀ x ∈ row, x.natAbs < 10 ^ 60) : Rp 1 1700 (.tup (row.map D.int)) := by
  refine (Rp.tup (k := 0) (n := 61) fun d hd => ?_).mono (Nat.le_refl _) (by rw [List.length_map]; omega)
  obtain ⟨x, hx, rfl⟩ := List.mem_map.mp hd
  exact Rp.int (h x hx)
end Sh

set_option Elab.async false
set_option linter.all false
set_option maxRecDepth 100000
set_option maxHeartbeats 4000000
/-! Txl: the texts of numbers, cards and courses read back. -/
namespace Sh
open PySem L2 Mi P20 TL
def nT (n : Nat) : Str := Str.ofString (toString ((n : Nat) : Int))
theorem tl_nT (n : Nat) : (nT n).cps.toList = numL n := tl_num n
theorem nT_len (n : Nat) : (nT n).length = (numL n).length := by
  rw [← tl_nT]
  exact Array.length_toList.symm
/-- plain signs -/
def As (x : Str) : Prop := ∀ c ∈ x.cps.toList, c < 128
theorem As.ok {x : Str} (h : As x) : PyData.strOk x = true := by
  unfold PyData.strOk
  rw [← Array.all_toList, List.all_eq_true]
  exact fun c hc => decide_eq_true (by have := h c hc; omega)
theorem str_eqD {a b : Str} (ha : As a) (hb : As b) : eqMD (.str a) (.str b) = some (.bl (decide (a = b))) := by
  unfold eqMD eqD
  have e : ∀ z, toPD (.str z) = some (.str z) := fun z => rfl
  rw [e, e]
  have h : ∀ z, As z → SeqAt.shaped (.str z) = true := fun z hz => by
    show (PyData.strOk z && decide (0 ≤ 64)) = true
    rw [hz.ok]
    rfl
  show Option.map _ (if _ then some (PyData.eqv (.str a) (.str b)) else none) = _
  rw [if_pos ⟨h a ha, h b hb⟩]
  have e2 : PyData.eqv (.str a) (.str b) = decide (a = b) := by
    unfold PyData.eqv
    rw [Bool.eq_iff_iff]
    simp
  rw [e2]
  rfl
theorem nT_as (n : Nat) : As (nT n) := fun c hc => by
  rw [tl_nT] at hc
  have := numL_digits n c hc
  omega
theorem len_tl (x : Str) : x.length = x.cps.toList.length := Array.length_toList.symm
/-- the text of a card -/
def cT (b l : Nat) : Str := Txt.join "/" [nT b, nT l]
theorem tl_cT (b l : Nat) : (cT b l).cps.toList = numL b ++ (47 :: numL l) := by
  show tl (Txt.join "/" [nT b, nT l]) = _
  rw [TL.join_eq, tl_join]
  show tl (nT b) ++ ([47] ++ tl (nT l)) = _
  rw [show tl (nT b) = numL b from tl_nT b, show tl (nT l) = numL l from tl_nT l]
  rfl
theorem isi_str (x : Str) : isiD [.str x, .ty "str"] = some (.bl true) := rfl
theorem pow60 {x : Int} (h0 : 0 ≤ x) (h : x < 10 ^ 60) : x.toNat < 10 ^ 60 := by
  have e1 : (10 : Int) ^ 60 = 1000000000000000000000000000000000000000000000000000000000000 := by decide
  have e2 : (10 : Nat) ^ 60 = 1000000000000000000000000000000000000000000000000000000000000 := by decide
  rw [e1] at h
  rw [e2]
  omega
end Sh

set_option Elab.async false
set_option linter.all false
set_option maxRecDepth 100000
set_option maxHeartbeats 4000000
/-! Nml: names; the texts of wallets read back. -/
namespace Sh
open PySem L2 Mi P20 TL
def Lt (c : Nat) : Prop := 97 ≤ c ∧ c ≤ 122
instance (c : Nat) : Decidable (Lt c) := inferInstanceAs (Decidable (97 ≤ c ∧ c ≤ 122))
def Al (c : Nat) : Prop := Lt c ∨ (48 ≤ c ∧ c ≤ 57)
/-- the signs of a name -/
structure NmL (l : List Nat) : Prop where
  hd : ∃ c r, l = c :: r ∧ Lt c
  len : l.length ≤ 8
  al : ∀ c ∈ l, Al c
def Nm (x : Str) : Prop := NmL x.cps.toList
theorem in_abc (c : Nat) : inD (.str ⟨#[c]⟩) (.str "abcdefghijklmnopqrstuvwxyz") = some (.bl (decide (Lt c))) := by
  show some (D.bl (decide (c ∈ (Str.ofString "abcdefghijklmnopqrstuvwxyz").cps.toList))) = _
  have e : (Str.ofString "abcdefghijklmnopqrstuvwxyz").cps.toList = [97, 98, 99, 100, 101, 102, 103, 104, 105, 106, 107, 108, 109, 110, 111, 112, 113, 114, 115, 116, 117, 118, 119, 120, 121, 122] := by decide
  congr 3
  rw [e]
  unfold Lt
  simp only [List.mem_cons, List.not_mem_nil, or_false]
  exact propext (by omega)
theorem in_dig (c : Nat) : inD (.str ⟨#[c]⟩) (.str "0123456789") = some (.bl (decide (48 ≤ c ∧ c ≤ 57))) := by
  show some (D.bl (decide (c ∈ (Str.ofString "0123456789").cps.toList))) = _
  have e : (Str.ofString "0123456789").cps.toList = [48, 49, 50, 51, 52, 53, 54, 55, 56, 57] := by decide
  congr 3
  rw [e]
  simp only [List.mem_cons, List.not_mem_nil, or_false]
  exact propext (by omega)
theorem nm_is {x : Str} (h : Nm x) : IsNm x := by
  intro u
  refine eq_of_ok ?_
  obtain ⟨⟨c, r, e, hc⟩, hl, ha⟩ := h
  have hlen : x.length = x.cps.toList.length := len_tl x
  unfold mf_is_name mb_is_name
  rw [ok_fn]
  refine seq_go fun K R hK hR => ?_
  have hix : ixD (.str x) (.int 0) = some (.str ⟨#[c]⟩) := by
    show (if x.length ≤ 10000000 then (atI x.cps.toList 0).map (fun c => D.str ⟨#[c]⟩) else none) = _
    rw [if_pos (by omega), e]
    have : atI (c :: r) 0 = some c := at_nat (k := 0) rfl
    rw [this]
    rfl
  have hnl : lenD [.str x] = some (.int x.length) := by
    unfold lenD
    simp
    omega
  have hni : ninD (.str ⟨#[c]⟩) (.str "abcdefghijklmnopqrstuvwxyz") = some (.bl false) := by
    have := in_abc c
    unfold inD at this
    unfold ninD
    cases h : inA (.str ⟨#[c]⟩) (.str "abcdefghijklmnopqrstuvwxyz") with
    | none => rw [h] at this; cases this
    | some b =>
      rw [h, decide_eq_true hc] at this
      have : b = true := by simpa using this
      subst this
      rfl
  have hx1 : 1 ≤ (x.length : Int) := by rw [hlen, e]; simp; omega
  have hx8 : (x.length : Int) ≤ 8 := by omega
  simp [isi_str, hnl, hix, hni, hx1, hx8]
  refine hK _ _ ?_
  clear hK hR K R
  have hit : itD (.str x) = some (x.cps.toList.map fun c => D.str ⟨#[c]⟩) := rfl
  simp [hit]
  have hsz : x.cps.size ≤ 8 := by rw [← Array.length_toList]; exact hl
  refine ⟨by omega, ?_⟩
  refine ok_lca (fun c : Nat => [.sh (.str x), .sh (.str ⟨#[c]⟩)]) (fun c => .bl true) (fun c hc => rfl) (fun d hd => ?_) ?_
  · unfold ce_is_name_1
    have h1 := in_abc d
    have h2 := in_dig d
    simp [h1, h2]
    rcases ha d (by simpa using hd) with h | h
    · rw [decide_eq_true h]; trivial
    · exact br_of (fun _ => trivial) (fun _ => h)
  have ea : ∀ l : List Nat, allD [.lst (l.map fun _ => D.bl true)] = some (.bl true) := fun l => by
    have e2 : l.map (fun _ => D.bl true) = (l.map fun _ => true).map D.bl := by rw [List.map_map]; rfl
    rw [e2]
    show (blsD _).map (fun bs => D.bl (bs.all id)) = _
    rw [blsD_map]
    simp
  rw [ea]
  simp
abbrev Prs := List (Str × (Int × Int))
/-- the text of a named card -/
def pcT (p : Str × (Int × Int)) : Str := p.1 ++ " " ++ cT p.2.1.toNat p.2.2.toNat
def PsB (ps : Prs) : Prop := ∀ p ∈ ps, Nm p.1 ∧ 1 ≤ p.2.2 ∧ 0 ≤ p.2.1 ∧ p.2.1 ≤ 24 * p.2.2 ∧ p.2.1 < 10 ^ 60 ∧ p.2.2 < 10 ^ 60
def waT (ps : Prs) : Str := Txt.join ", " (ps.map pcT)
theorem tl_pcT (p : Str × (Int × Int)) : (pcT p).cps.toList = p.1.cps.toList ++ (32 :: (numL p.2.1.toNat ++ (47 :: numL p.2.2.toNat))) := by
  show tl (p.1 ++ " " ++ cT p.2.1.toNat p.2.2.toNat) = _
  rw [tl_append, tl_append, show tl (cT p.2.1.toNat p.2.2.toNat) = _ from tl_cT _ _]
  have : tl (Str.ofString " ") = [32] := by decide
  rw [this]
  simp
theorem Nm.free {x : Str} (h : Nm x) {s : Nat} (hs : s < 48) : s ∉ x.cps.toList := fun hm => by
  rcases h.al s hm with h | h
  · have := h.1; omega
  · omega
theorem pcT_len {p : Str × (Int × Int)} (h : Nm p.1 ∧ 1 ≤ p.2.2 ∧ 0 ≤ p.2.1 ∧ p.2.1 ≤ 24 * p.2.2 ∧ p.2.1 < 10 ^ 60 ∧ p.2.2 < 10 ^ 60) : (pcT p).length ≤ 200 := by
  obtain ⟨h1, h2, h3, h4, h5, h6⟩ := h
  have lb : (numL p.2.1.toNat).length ≤ 60 := numL_len (by decide) (pow60 h3 h5)
  have ll : (numL p.2.2.toNat).length ≤ 60 := numL_len (by decide) (pow60 (by omega) h6)
  have hn := h1.len
  rw [len_tl, tl_pcT]
  simp
  simp at hn
  omega
end Sh





set_option Elab.async false
set_option linter.all false
set_option maxRecDepth 100000
set_option maxHeartbeats 4000000
/-! N1l: drawn names, pairs, rows of family 1. -/
namespace S1
open PySem L2 Mi P20 Sh TL
theorem nodup_le {α : Type} [DecidableEq α] : ∀ {l m : List α}, l.Nodup → (∀ x ∈ l, x ∈ m) → l.length ≤ m.length
  | [], m, _, _ => Nat.zero_le _
  | a :: l, m, hn, h => by
    obtain ⟨h1, h2⟩ := List.nodup_cons.mp hn
    have ha := h a List.mem_cons_self
    have := nodup_le (m := m.erase a) h2 fun x hx => (List.mem_erase_of_ne (fun (z : x = a) => h1 (by rw [← z]; exact hx))).mpr (h x (List.mem_cons_of_mem _ hx))
    rw [List.length_erase_of_mem ha] at this
    have hp := List.length_pos_of_mem ha
    rw [List.length_cons]
    omega
def zzN (k : Nat) : Str := "zz" ++ nT k
theorem zz_nm : ∀ k, k < 20 → Nm (zzN k) := by
  intro k hk
  have e : (zzN k).cps.toList = 122 :: 122 :: numL k := by
    show tl ("zz" ++ nT k) = _
    rw [tl_append, show tl (nT k) = _ from tl_nT k]
    have : tl (Str.ofString "zz") = [122, 122] := by decide
    rw [this]
    rfl
  have hl : (numL k).length ≤ 2 := numL_len (by decide) (by omega)
  refine ⟨⟨122, 122 :: numL k, e, by unfold Lt; omega⟩, by rw [e]; simp; omega, fun c hc => ?_⟩
  rw [e] at hc
  rcases List.mem_cons.mp hc with rfl | hc
  · exact .inl (by unfold Lt; omega)
  · rcases List.mem_cons.mp hc with rfl | hc
    · exact .inl (by unfold Lt; omega)
    · have := numL_digits k c hc
      exact .inr ⟨this.1, this.2⟩
theorem zz_inj {i j : Nat} (h : zzN i = zzN j) : i = j := by
  have h1 : tl ("zz" ++ nT i) = tl ("zz" ++ nT j) := congrArg tl h
  rw [tl_append, tl_append] at h1
  have h2 := List.append_cancel_left h1
  rw [show tl (nT i) = _ from tl_nT i, show tl (nT j) = _ from tl_nT j] at h2
  exact numL_inj h2
theorem zz_free {held : List Str} (h : held.length ≤ 19) : ∃ k, k < 20 ∧ zzN k ∉ held := by
  refine Classical.byContradiction fun hn => ?_
  have hall : ∀ x ∈ (List.range 20).map zzN, x ∈ held := fun x hx => by
    obtain ⟨k, hk, rfl⟩ := List.mem_map.mp hx
    exact Classical.byContradiction fun z => hn ⟨k, List.mem_range.mp hk, z⟩
  have hnd : ((List.range 20).map zzN).Nodup := by
    rw [List.nodup_iff_pairwise_ne, List.pairwise_map]
    exact (List.nodup_iff_pairwise_ne.mp List.nodup_range).imp fun {a b} hab z => hab (zz_inj z)
  have := nodup_le hnd hall
  simp at this
  omega
abbrev sgn : Str := "abcdefghijklmnopqrstuvwxyz0123456789"
theorem sgn_tl : sgn.cps.toList = [97, 98, 99, 100, 101, 102, 103, 104, 105, 106, 107, 108, 109, 110, 111, 112, 113, 114, 115, 116, 117, 118, 119, 120, 121, 122, 48, 49, 50, 51, 52, 53, 54, 55, 56, 57] := by decide
theorem sgn_at {r : Int} (h0 : 0 ≤ r) (h : r < 36) : ∃ c, ixD (.str sgn) (.int r) = some (.str ⟨#[c]⟩) ∧ Al c ∧ (r < 26 → Lt c) := by
  obtain ⟨r, rfl⟩ : ∃ z : Nat, r = (z : Int) := ⟨r.toNat, by omega⟩
  have hr : r < 36 := by omega
  have hl : r < sgn.cps.toList.length := by rw [sgn_tl]; exact hr
  refine ⟨sgn.cps.toList[r], ?_, ?_⟩
  · show (if sgn.length ≤ 10000000 then (atI sgn.cps.toList (r : Int)).map (fun c => D.str ⟨#[c]⟩) else none) = _
    rw [if_pos (by decide), at_nat (List.getElem?_eq_getElem hl)]
    rfl
  · have key : ∀ k : Nat, k < 36 → ∀ c, sgn.cps.toList[k]? = some c → Al c ∧ (k < 26 → Lt c) := by
      rw [sgn_tl]
      unfold Al Lt
      decide
    have := key r hr _ (List.getElem?_eq_getElem hl)
    exact ⟨this.1, fun z => this.2 (by omega)⟩
theorem nm_take {x : Str} (h : Nm x) {k : Nat} (hk : 0 < k) : NmL (x.cps.toList.take k) := by
  obtain ⟨⟨c, r, e, hc⟩, hl, ha⟩ := h
  obtain ⟨k, rfl⟩ : ∃ j, k = j + 1 := ⟨k - 1, by omega⟩
  refine ⟨⟨c, r.take k, by rw [e]; rfl, hc⟩, by rw [List.length_take]; omega, fun d hd => ha d (List.mem_of_mem_take hd)⟩
theorem nm_snoc {x : Str} (h : Nm x) {c : Nat} (hc : Al c) (hl : x.cps.toList.length ≤ 7) : Nm (x ++ ⟨#[c]⟩) := by
  obtain ⟨⟨d, r, e, hd⟩, _, ha⟩ := h
  have et : (x ++ (⟨#[c]⟩ : Str)).cps.toList = x.cps.toList ++ [c] := by
    show tl (x ++ (⟨#[c]⟩ : Str)) = _
    rw [tl_append]
  refine ⟨⟨d, r ++ [c], by rw [et, e]; rfl, hd⟩, by rw [et]; simp; simp at hl; omega, fun z hz => ?_⟩
  rw [et] at hz
  rcases List.mem_append.mp hz with hz | hz
  · exact ha z hz
  · rw [List.mem_singleton.mp hz]; exact hc
theorem nm_as {x : Str} (h : Nm x) : As x := fun c hc => by
  rcases h.al c hc with h | h
  · have := h.2; omega
  · omega
theorem toPDs_strs (ns : List Str) : toPDs (ns.map D.str) = some (ns.map PyData.str) := by
  induction ns with
  | nil => rfl
  | cons n ns ih => rw [List.map_cons]; unfold toPDs; rw [ih]; rfl
theorem lay_strs {ns : List Str} (h : ∀ x ∈ ns, As x) : PyData.canLayAll0 (ns.map PyData.str) = true := by
  induction ns with
  | nil => rfl
  | cons n ns ih =>
    rw [List.map_cons]
    unfold PyData.canLayAll0
    rw [ih fun x hx => h x (List.mem_cons_of_mem _ hx)]
    have : PyData.canLay0 (.str n) = true := (h n List.mem_cons_self).ok
    rw [this]
    rfl
theorem depth_strs (ns : List Str) : PyData.depthAll (ns.map PyData.str) = 0 := by
  induction ns with
  | nil => rfl
  | cons n ns ih => rw [List.map_cons]; unfold PyData.depthAll; rw [ih]; rfl
theorem ne_strs0 {held : List Str} (h : ∀ x ∈ held, As x) : neMD (.lst (held.map D.str)) (.lst []) = some (.bl (!decide (held = []))) := by
  unfold neMD eqD
  have e : toPD (.lst (held.map D.str)) = some (.list (held.map PyData.str)) := by
    show (toPDs (held.map D.str)).map PyData.list = _
    rw [toPDs_strs]; rfl
  have e0 : toPD (.lst []) = some (.list []) := rfl
  have sh : SeqAt.shaped (.list (held.map PyData.str)) = true := by
    show (PyData.canLayAll0 (held.map PyData.str) && decide (PyData.depthAll (held.map PyData.str) + 1 ≤ 64)) = true
    rw [lay_strs h, depth_strs]; rfl
  rw [e, e0]
  show Option.map _ (if _ then some (PyData.eqvAll (held.map PyData.str) []) else none) = _
  rw [if_pos ⟨sh, rfl⟩]
  cases held with
  | nil => rfl
  | cons a l => simp [PyData.eqvAll]
theorem name_ok {held : List Str} (hh : ∀ x ∈ held, Nm x) (hl : held.length ≤ 19) {u : PuS} (hu : Pu u) {P : D → PuS → Prop} (h : ∀ x u', Nm x → x ∉ held → Pu u' → P (.str x) u') : Ok (mf__law_name [.pur, .lst (held.map D.str)]) u P := by
  unfold mf__law_name mb__law_name
  rw [ok_fn]
  refine seq_go fun K R hK hR => ?_
  simp
  refine hK _ _ ?_
  clear hK hR K R
  refine seq_cut (fun ρ u' => Pu u' ∧ ∃ (w : Int) (x : Str), Nm x ∧ ρ = [.sh .pur, .sh (.lst (held.map D.str)), .sh (.str sgn), .sh (.int w), .sh (.str x), .un, .un, .un, .un]) ?_ ?_
  · simp
    refine draw_ok (by decide) hu fun w u1 w0 w3 hu1 => ?_
    refine draw_ok (by decide) hu1 fun r u2 r0 r26 hu2 => ?_
    obtain ⟨c, e1, hc, hc2⟩ := sgn_at r0 (show r < 36 by omega)
    refine ⟨_, e1, hu2, ?_⟩
    refine ⟨w, ⟨#[c]⟩, ⟨⟨c, [], rfl, hc2 r26⟩, by simp, fun d hd => ?_⟩, rfl, rfl⟩
    have : d = c := by simpa using hd
    rw [this]
    exact hc
  rintro ρ u1 ⟨hu1, w, x, hx, rfl⟩
  refine seq_cut (fun ρ u' => Pu u' ∧ ∃ (x : Str) (a : Sd), Nm x ∧ ρ = [.sh .pur, .sh (.lst (held.map D.str)), .sh (.str sgn), .sh (.int w), .sh (.str x), a, .un, .un, .un]) ?_ ?_
  · simp
    have hne := ne_strs0 fun x hx => nm_as (hh x hx)
    refine brd (fun _ => ?_) (fun _ => ⟨hu1, hx⟩)
    refine ⟨_, hne, _, rfl, ?_⟩
    refine br_of (fun z => ?_) (fun _ => ⟨hu1, hx⟩)
    have hn0 : held ≠ [] := by simpa using z
    have hlp : 0 < held.length := List.length_pos_iff.mpr hn0
    refine draw_ok (by omega) hu1 fun t u2 t0 t1 hu2 => ?_
    obtain ⟨t, rfl⟩ : ∃ z : Nat, t = (z : Int) := ⟨t.toNat, by omega⟩
    have ht : t < held.length := by omega
    have e1 : ixD (.lst (held.map D.str)) (.int (t : Int)) = some (.str held[t]) := at_nat (by rw [List.getElem?_map, List.getElem?_eq_getElem ht]; rfl)
    have hm := hh held[t] (List.getElem_mem ht)
    generalize held[t] = y at e1 hm
    have hyl := hm.len
    have hyp : 0 < y.cps.toList.length := by obtain ⟨c, r, e, _⟩ := hm.hd; rw [e]; simp
    have e2 : lenD [.str y] = some (.int y.length) := if_pos (by rw [Sh.len_tl]; omega)
    rw [Sh.len_tl] at e2
    refine ⟨_, e1, _, e2, ?_⟩
    refine draw_ok (by omega) hu2 fun r u3 r0 r1 hu3 => ?_
    obtain ⟨r, rfl⟩ : ∃ z : Nat, r = (z : Int) := ⟨r.toNat, by omega⟩
    have e3 : slD (.str y) none (some (1 + (r : Int))) = some (.str (cutS y none (some ((1 + r : Nat) : Int)))) := if_pos (by rw [Sh.len_tl]; omega)
    refine ⟨_, rfl, _, rfl, _, e3, hu3, _, ?_, rfl⟩
    have ec : (cutS y none (some ((1 + r : Nat) : Int))).cps.toList = y.cps.toList.take (1 + r) := by
      unfold cutS
      rw [HT.sIx_nat, HT.sIx_none, Sh.len_tl]
      simp only [List.drop_zero, Nat.sub_zero]
      rw [Nat.min_eq_left (by omega)]
    show NmL _
    rw [ec]
    exact nm_take hm (by omega)
  rintro ρ u2 ⟨hu2, x, a, hx, rfl⟩
  have hxl := hx.len
  have e2 : lenD [.str x] = some (.int x.length) := if_pos (by rw [Sh.len_tl]; omega)
  rw [Sh.len_tl] at e2
  refine seq_cut (fun ρ u' => Pu u' ∧ ∃ (x : Str) (b : Sd), Nm x ∧ ρ = [.sh .pur, .sh (.lst (held.map D.str)), .sh (.str sgn), .sh (.int w), .sh (.str x), a, b, .un, .un]) ?_ ?_
  · simp [e2]
    simp at hxl
    refine draw_ok (by omega) hu2 fun r u3 r0 r1 hu3 => ?_
    obtain ⟨r, rfl⟩ : ∃ z : Nat, r = (z : Int) := ⟨r.toNat, by omega⟩
    simp
    refine ⟨by omega, ?_⟩
    generalize hn : x.cps.size = n at hxl r1
    refine ok_range 0 r (fun k ρ u' => Pu u' ∧ ∃ (x : Str) (b : Sd), Nm x ∧ x.cps.toList.length = n + k ∧ ρ = [.sh .pur, .sh (.lst (held.map D.str)), .sh (.str sgn), .sh (.int w), .sh (.str x), a, b, .un, .un]) ?_ ?_ _ _ ⟨hu3, x, .un, hx, by simp [hn], rfl⟩
    · rintro k ρ v hk ⟨hv, x, b, hx, hxk, rfl⟩
      refine ⟨_, rfl, ?_⟩
      refine st_go fun R0 hR0 => ?_
      unfold lb__law_name_1
      simp
      refine draw_ok (by decide) hv fun q u4 q0 q1 hu4 => ?_
      obtain ⟨c, e1, hc, _⟩ := sgn_at q0 q1
      have e3 : addD (.str x) (.str ⟨#[c]⟩) = some (.str (x ++ ⟨#[c]⟩)) := if_pos (by rw [Sh.len_tl, Sh.len_tl]; simp at hxk ⊢; omega)
      refine ⟨_, e1, _, e3, hR0 _ _ ⟨hu4, x ++ ⟨#[c]⟩, _, nm_snoc hx hc (by omega), ?_, rfl⟩⟩
      have et : (x ++ (⟨#[c]⟩ : Str)).cps.toList = x.cps.toList ++ [c] := by
        show tl (x ++ (⟨#[c]⟩ : Str)) = _
        rw [tl_append]
      rw [et, List.length_append, hxk]
      rfl
    · rintro ρ v ⟨hv, x, b, hx, _, rfl⟩
      exact ⟨hv, x, hx, b, rfl⟩
  rintro ρ u3 ⟨hu3, x, b, hx, rfl⟩
  simp
  refine ⟨by rw [rngD_len]; omega, ?_⟩
  refine ok_lcra (n := 20) (fun i => [.sh .pur, .sh (.lst (held.map D.str)), .sh (.str sgn), .sh (.int w), .sh (.str x), a, b, .un, .sh (.int (0 + (i : Nat)))]) (fun i => .str (zzN i)) ?_ ?_ ?_
  · intro i hi; rfl
  · intro i hi
    unfold ce__law_name_2
    have e1 : strID [.int (i : Nat)] = some (.str (nT i)) := by
      show (if ((i : Nat) : Int).natAbs.log2 < 1920 then some (D.str (Str.ofString (toString ((i : Nat) : Int)))) else none) = _
      have h2 : ((i : Nat) : Int).natAbs < 2 ^ 200 := by
        rw [Int.natAbs_natCast]
        exact Nat.lt_trans hi (by decide)
      have := log_of h2
      rw [if_pos (by omega)]
      rfl
    have hl2 : (numL i).length ≤ 2 := numL_len (by decide) (by omega)
    have e3 : addD (.str "zz") (.str (nT i)) = some (.str (zzN i)) := if_pos (by
      have : (Str.ofString "zz").length = 2 := by decide
      rw [this, nT_len]
      omega)
    simp [e1, e3]
  have ea : addD (D.lst [D.str x]) (D.lst ((List.range 20).map fun i => D.str (zzN i))) = some (.lst ((x :: (List.range 20).map zzN).map D.str)) := by
    rw [s_addL (by simp)]
    simp
  refine ⟨_, ea, _, rfl, by simp, ?_⟩
  have hni : ∀ y : Str, ninD (.str y) (.lst (held.map D.str)) = some (.bl (decide (y ∉ held))) := fun y => by
    show Option.map _ ((flatDs (held.map D.str)).map fun ws => inV (.str y) ws) = _
    rw [flatDs_strs]
    simp only [Option.map_some, inV_strs]
    simp
  have hall : ∀ y ∈ x :: (List.range 20).map zzN, Nm y := fun y hy => by
    rcases List.mem_cons.mp hy with rfl | hy
    · exact hx
    · obtain ⟨k, hk, rfl⟩ := List.mem_map.mp hy
      exact zz_nm k (List.mem_range.mp hk)
  have hex : ∃ y ∈ x :: (List.range 20).map zzN, y ∉ held := by
    obtain ⟨k, hk, hz⟩ := zz_free hl
    exact ⟨zzN k, List.mem_cons_of_mem _ (List.mem_map.mpr ⟨k, List.mem_range.mpr hk, rfl⟩), hz⟩
  generalize x :: (List.range 20).map zzN = cand at hall hex
  refine ok_lcm (f := D.str) (fun y : Str => [.sh .pur, .sh (.lst (held.map D.str)), .sh (.str sgn), .sh (.int w), .sh (.str x), a, b, .sh (.str y), .un]) (fun y => decide (y ∉ held)) (fun y => .str y) (fun y hy => rfl) (fun y hy => ?_) (fun y hy _ => by simp) ?_
  · have := hni y
    simp [this]
  cases hf : cand.filter (fun y => decide (y ∉ held)) with
  | nil =>
    exfalso
    obtain ⟨y, hy, hz⟩ := hex
    have := List.filter_eq_nil_iff.mp hf y hy
    simp at this
    exact hz this
  | cons y r =>
    have hm : y ∈ cand.filter (fun y => decide (y ∉ held)) := by rw [hf]; exact List.mem_cons_self
    obtain ⟨h1, h2⟩ := List.mem_filter.mp hm
    exact ⟨.str y, at_nat (k := 0) rfl, h y _ (hall y h1) (by simpa using h2) hu3⟩
end S1

set_option Elab.async false
set_option linter.all false
set_option maxRecDepth 100000
set_option maxHeartbeats 4000000
/-! S4l: the drawn things of the papers' laws. -/
namespace S4
open PySem L2 Mi P20 Sh
def Pu (u : PuS) : Prop := ∃ a b c d : Int, u = .real [a, b, c, d] ∧ 0 ≤ a ∧ a < 2147483648 ∧ 0 ≤ b ∧ b < 2147483648
theorem draw_ok {n : Int} (hn : 0 < n ∧ n < 1000000000000000000000000000000000000000000000000000000000000) {u : PuS} (hu : Pu u) {P : D → PuS → Prop} (h : ∀ r u', 0 ≤ r → r < n → Pu u' → P (.int r) u') : Ok (mf__law_draw [.pur, .int n]) u P := by
  obtain ⟨a, b, c, d, rfl, h1, h2, h3, h4⟩ := hu
  unfold mf__law_draw mb__law_draw
  have hd : dmC c n = true := dmC_log hn.1 (by have := S2.log_big hn; omega)
  have hh : ∀ k : Int, 0 ≤ k % n ∧ k % n < n := fun k => ⟨Int.emod_nonneg _ (by omega), Int.emod_lt_of_pos _ hn.1⟩
  simp [atI, ixN, hn.1, hd]
  have pu : ∀ x y z w : Int, Pu (.real [x % 2147483629, y % 2147483587, z, w]) := fun x y z w => ⟨_, _, _, _, rfl, by omega, by omega, by omega, by omega⟩
  refine brd (fun _ => ?_) (fun _ => ?_)
  · exact h _ _ (hh _).1 (hh _).2 (pu _ _ _ _)
  · exact h _ _ (hh _).1 (hh _).2 (pu _ _ _ _)
theorem pick_ok {xs : List D} (hn : 0 < xs.length ∧ xs.length < 100000) {u : PuS} (hu : Pu u) {P : D → PuS → Prop} (h : ∀ x u', x ∈ xs → Pu u' → P x u') : Ok (mf__law_pick [.pur, .lst xs]) u P := by
  unfold mf__law_pick mb__law_pick
  have hl : lenD [.lst xs] = some (.int xs.length) := rfl
  simp [hl]
  refine draw_ok (by omega) hu fun r u1 h0 h1 hu1 => ?_
  obtain ⟨r, rfl⟩ : ∃ k : Nat, r = (k : Int) := ⟨r.toNat, by omega⟩
  have e : xs[r]? = some xs[r] := List.getElem?_eq_getElem (by omega)
  have e2 : ixD (.lst xs) (.int (r : Int)) = some xs[r] := at_nat e
  simp [e2]
  exact h _ _ (List.getElem_mem _) hu1
theorem large_ok {u : PuS} (hu : Pu u) {P : D → PuS → Prop} (h : ∀ r u', 0 ≤ r → r < 1000000000000000000000000000 → Pu u' → P (.int r) u') : Ok (mf__law_drawn_large [.pur]) u P := by
  unfold mf__law_drawn_large mb__law_drawn_large
  simp
  refine draw_ok (by decide) hu fun r u1 h0 h6 hu1 => ?_
  obtain ⟨n, e, hn⟩ : ∃ n : Nat, atI [D.int 1, D.int 1, D.int 2, D.int 3] r = some (.int (n : Int)) ∧ n ≤ 3 := by
    obtain ⟨k, rfl⟩ : ∃ k : Nat, r = (k : Int) := ⟨r.toNat, by omega⟩
    have hk : k < 4 := by omega
    match k, hk with
    | 0, _ => exact ⟨1, rfl, by decide⟩
    | 1, _ => exact ⟨1, rfl, by decide⟩
    | 2, _ => exact ⟨2, rfl, by decide⟩
    | 3, _ => exact ⟨3, rfl, by decide⟩
  simp [e]
  refine ⟨by omega, ?_⟩
  have hk : ∀ k : Nat, k ≤ 3 → (1000000000 : Int) ^ k ≤ 1000000000000000000000000000 := fun k hk => by
    match k, hk with
    | 0, _ => decide
    | 1, _ => decide
    | 2, _ => decide
    | 3, _ => decide
  refine ok_range 0 n (fun k ρ u => Pu u ∧ ∃ (x : Int) (t : Sd), ρ = [.sh .pur, .sh (.int x), t] ∧ 0 ≤ x ∧ x < 1000000000 ^ k) ?_ ?_ _ _ ⟨hu1, 0, _, rfl, by decide, by decide⟩
  · rintro k ρ u hk ⟨hu, x, t, rfl, hx, hx2⟩
    unfold lb__law_drawn_large_1
    simp
    refine draw_ok (by decide) hu fun d u1 d0 d1 hu1 => ?_
    simp
    exact ⟨hu1, by omega, by rw [Int.pow_succ]; omega⟩
  · rintro ρ u ⟨hu, x, t, rfl, h1, h2⟩
    simp
    exact h x u h1 (by have := hk n hn; omega) hu
/-- drawn cards: not too great -/
def Sm (am : List (Int × Int)) : Prop := ∀ q ∈ am, q.2 ≤ 1000000000000000000000000000
theorem great_tl {am : List (Int × Int)} {k : Nat} (ha : Am am) (hs : Sm am) (hl : am.length = k) (hk : k < 1000) {l : Int} {u1 : PuS} (l0 : 0 ≤ l) (l1 : l < 1000000000000000000000000000) (hu1 : Pu u1) : ∃ z, addD (D.int 1) (.int l) = some z ∧ ∃ z_1, subD z (D.int 1) = some z_1 ∧ ∃ z_2, fdivD z (D.int 2) = some z_2 ∧ Ok (mf__law_drawn_large [D.pur]) u1 fun x u1 => Ok (mf__law_draw [D.pur, D.int 5]) u1 fun y u2 => ∃ z_3, ixD (D.lst [D.int 0, D.int 1, z_1, z_2, x]) y = some z_3 ∧ Ok (mf__law_draw [D.pur, D.int 24]) u2 fun x u1 => ∃ z_4, mulD x z = some z_4 ∧ ∃ z_5, minD [z_3, z] = some z_5 ∧ ∃ z_6, addD z_4 z_5 = some z_6 ∧ am.length < 100000 ∧ Pu u1 ∧ ∃ am_1, Am am_1 ∧ Sm am_1 ∧ am_1.length = k + 1 ∧ List.map prD am ++ [D.tup [z_6, z]] = List.map prD am_1 := by
  simp
  refine large_ok hu1 fun x u2 x0 x1 hu2 => ?_
  refine draw_ok (by decide) hu2 fun i u3 i0 i1 hu3 => ?_
  obtain ⟨n, e1, hn⟩ : ∃ n : Int, ixD (.lst [D.int 0, D.int 1, D.int (1 + l - 1), D.int ((1 + l) / 2), D.int x]) (.int i) = some (.int n) ∧ 0 ≤ n := by
    obtain ⟨k, rfl⟩ : ∃ k : Nat, i = (k : Int) := ⟨i.toNat, by omega⟩
    have hk : k < 5 := by omega
    match k, hk with
    | 0, _ => exact ⟨0, rfl, by decide⟩
    | 1, _ => exact ⟨1, rfl, by decide⟩
    | 2, _ => exact ⟨_, rfl, by omega⟩
    | 3, _ => exact ⟨_, rfl, by omega⟩
    | 4, _ => exact ⟨_, rfl, by omega⟩
  have e1 : ∀ Q : D → Prop, Q (.int n) → ∃ z, ixD (.lst [D.int 0, D.int 1, D.int (1 + l - 1), D.int ((1 + l) / 2), D.int x]) (.int i) = some z ∧ Q z := fun Q h => ⟨_, e1, h⟩
  refine e1 _ ?_
  refine draw_ok (by decide) hu3 fun d u4 d0 d1 hu4 => ?_
  simp
  obtain ⟨t, et, t0, t1⟩ : ∃ t, d * (1 + l) = t ∧ 0 ≤ t ∧ t ≤ 23 * (1 + l) := ⟨_, rfl, Int.mul_nonneg (by omega) (by omega), Int.mul_le_mul_of_nonneg_right (by omega) (by omega)⟩
  rw [et]
  refine ⟨.inl (.inl (by omega)), by omega, hu4, am ++ [(t + (if 1 + l < n then 1 + l else n), 1 + l)], ha.append (Am.cons ⟨by show 1 ≤ 1 + l; omega, ?_, ?_⟩ Am.nil), fun q hq => by
        rcases List.mem_append.mp hq with hq | hq
        · exact hs q hq
        · have := List.mem_singleton.mp hq; subst this; show 1 + l ≤ _; omega, by simp [hl], by simp [prD]⟩
  · show 0 ≤ t + _
    split <;> omega
  · show t + _ ≤ 24 * (1 + l)
    split <;> omega
theorem great_ok {u : PuS} (hu : Pu u) {m : Nat} (hm : m ≤ 100) {P : D → PuS → Prop} (h : ∀ am u', Am am → Sm am → am.length ≤ m → Pu u' → P (.lst (am.map prD)) u') : Ok (mf__law_drawn_great [.pur, .int m]) u P := by
  unfold mf__law_drawn_great mb__law_drawn_great
  simp
  refine draw_ok (by omega) hu fun r u1 h0 h6 hu1 => ?_
  simp
  refine ⟨by omega, ?_⟩
  obtain ⟨r, rfl⟩ : ∃ k : Nat, r = (k : Int) := ⟨r.toNat, by omega⟩
  simp only [Int.toNat_natCast]
  refine ok_range 0 r (fun k ρ u => Pu u ∧ ∃ (am : List (Int × Int)) (a b c : Sd), Am am ∧ Sm am ∧ am.length = k ∧ ρ = [.sh .pur, .sh (.int m), .ow (am.map prD), a, b, c]) ?_ ?_ _ _ ⟨hu1, [], _, _, _, Am.nil, (fun q hq => by cases hq), rfl, rfl⟩
  · rintro k ρ u hk ⟨hu, am, a, b, c, ha, hs, hl, rfl⟩
    unfold lb__law_drawn_great_1
    simp
    refine draw_ok (by decide) hu fun d u1 d0 d1 hu1 => ?_
    simp
    refine brd (fun _ => ?_) (fun _ => ?_)
    · refine large_ok hu1 fun l u2 l0 l1 hu2 => ?_
      exact great_tl ha hs hl (by omega) l0 l1 hu2
    · refine draw_ok (by decide) hu1 fun l u2 l0 l1 hu2 => ?_
      exact great_tl ha hs hl (by omega) l0 (by omega) hu2
  · rintro ρ u ⟨hu, am, a, b, c, ha, hs, hl, rfl⟩
    simp
    exact h am u ha hs (by omega) hu
theorem small_ok {u : PuS} (hu : Pu u) {m t : Nat} (hm : m ≤ 100) (ht : t ≤ 1000) {P : D → PuS → Prop} (h : ∀ am u', Am am → Sm am → am.length ≤ m → Pu u' → P (.lst (am.map prD)) u') : Ok (mf__law_drawn_small [.pur, .int m, .int t]) u P := by
  unfold mf__law_drawn_small mb__law_drawn_small
  simp
  refine draw_ok (by omega) hu fun r u1 h0 h6 hu1 => ?_
  simp
  refine ⟨by omega, ?_⟩
  obtain ⟨r, rfl⟩ : ∃ k : Nat, r = (k : Int) := ⟨r.toNat, by omega⟩
  simp only [Int.toNat_natCast]
  refine ok_range 0 r (fun k ρ u => Pu u ∧ ∃ (am : List (Int × Int)) (x : Int) (a b : Sd), Am am ∧ Sm am ∧ am.length = k ∧ 0 ≤ x ∧ x ≤ 1000 ∧ ρ = [.sh .pur, .sh (.int m), .sh (.int t), .ow (am.map prD), .sh (.int x), a, b]) ?_ ?_ _ _ ⟨hu1, [], _, _, _, Am.nil, (fun q hq => by cases hq), rfl, by omega, by omega, rfl⟩
  · rintro k ρ u hk ⟨hu, am, x, a, b, ha, hs, hl, hx, hx2, rfl⟩
    unfold lb__law_drawn_small_1
    simp
    refine draw_ok (by split <;> omega) hu fun v u1 v0 v1 hu1 => ?_
    simp
    refine draw_ok (by decide) hu1 fun l u2 l0 l1 hu2 => ?_
    simp
    have hv : v ≤ 6 ∧ v ≤ x := by split at v1 <;> omega
    refine ⟨by omega, hu2, am ++ [(v, 1 + l)], ha.append (Am.cons ⟨by show 1 ≤ 1 + l; omega, v0, by show v ≤ 24 * (1 + l); omega⟩ Am.nil), fun q hq => by
        rcases List.mem_append.mp hq with hq | hq
        · exact hs q hq
        · have := List.mem_singleton.mp hq; subst this; show 1 + l ≤ _; omega, by simp [hl], _, ?_, ?_, by simp [prD], rfl⟩
    · omega
    · omega
  · rintro ρ u ⟨hu, am, x, a, b, ha, hs, hl, _, _, rfl⟩
    simp
    exact h am u ha hs (by omega) hu
theorem worth_ok {q : Int × Int} {k : Nat} (hk : k ≤ 1000) {u : PuS} {P : D → PuS → Prop} (h : P (.int (wor q.1 q.2 k)) u) : Ok (mf__law_worth_of [prD q, .int k]) u P := by
  unfold mf__law_worth_of mb__law_worth_of prD
  have e1 : ∀ a b : Int, ixD (.tup [.int a, .int b]) (.int 0) = some (.int a) := fun a b => rfl
  have e2 : ∀ a b : Int, ixD (.tup [.int a, .int b]) (.int 1) = some (.int b) := fun a b => rfl
  simp [e1, e2]
  refine ⟨.inl (.inr (by omega)), ?_⟩
  have : (if q.2 * (k : Int) < q.1 then q.2 * (k : Int) else q.1) = wor q.1 q.2 k := by unfold wor; rw [Int.mul_comm q.2]; split <;> omega
  rw [this]
  exact h
theorem room_ok {am : List (Int × Int)} (hl : am.length ≤ 1000) {k : Nat} (hk : k ≤ 1000) {u : PuS} {P : D → PuS → Prop} (h : P (.int (FF am k)) u) : Ok (mf__law_room_of [.lst (am.map prD), .int k]) u P := by
  unfold mf__law_room_of mb__law_room_of
  simp
  refine ⟨by omega, ?_⟩
  refine ok_lca (fun q => [.sh (.lst (am.map prD)), .sh (.int k), .sh (prD q)]) (fun q => .int (wor q.1 q.2 k)) ?_ ?_ ?_
  · intro q hq; rfl
  · intro q hq
    unfold ce__law_room_of_1
    simp
    exact worth_ok hk ⟨rfl, rfl⟩
  have e : (am.map fun q => D.int (wor q.1 q.2 k)) = (am.map fun q => wor q.1 q.2 k).map D.int := by rw [List.map_map]; rfl
  rw [e]
  exact ⟨_, s_sumI, h⟩
theorem FF_le {am : List (Int × Int)} (ha : Am am) (hs : Sm am) (k : Nat) : FF am k ≤ am.length * 24000000000000000000000000000 ∧ 0 ≤ FF am k := by
  unfold FF
  induction am with
  | nil => simp
  | cons q am ih =>
    obtain ⟨i1, i2⟩ := ih ha.tail fun x hx => hs x (List.mem_cons_of_mem _ hx)
    obtain ⟨h1, h2, h3⟩ := ha q List.mem_cons_self
    have h4 := hs q List.mem_cons_self
    have h5 : wor q.1 q.2 k ≤ q.1 := by unfold wor; omega
    have h6 : 0 ≤ wor q.1 q.2 k := by
      have := Int.mul_nonneg (show (0 : Int) ≤ (k : Int) by omega) (show 0 ≤ q.2 by omega)
      unfold wor; omega
    simp only [List.map_cons, List.sum_cons, List.length_cons]
    omega
theorem alike_tl {am : List (Int × Int)} (ha : Am am) (hs : Sm am) (hl : am.length ≤ 100) {q : Int × Int} (hq : 1 ≤ q.2 ∧ 0 ≤ q.1) (hq2 : q.2 ≤ 1000000000000000000000000000) {j : Nat} (hj : j < am.length) {u : PuS} (hu : Pu u) {a b c : Sd} {P : Fl → PuS → Prop} (h : ∀ am' u', Am am' → Sm am' → am'.length = am.length → Pu u' → P (.rt (.lst (am'.map prD))) u') :
    Ok ((mSeq (mIfS (mB (mBin gtD (mBin ixD (mVar 5) (mC (.int 0))) (mBin mulD (mC (.int 24)) (mBin ixD (mVar 5) (mC (.int 1)))))) (mRet (mVar 1)) (mNext)) (mRet (mBin addD (mBin addD (mSl (mVar 1) (mOn) (mOs (mVar 3))) (mFz (mLstO (mCons (mVar 5) (mNil))))) (mSl (mVar 1) (mOs (mBin addD (mVar 3) (mC (.int 1)))) (mOn))))) [a, .sh (.lst (am.map prD)), b, .sh (.int (j : Nat)), c, .sh (prD q)]) u P := by
  have e1 : ixD (prD q) (.int 0) = some (.int q.1) := rfl
  have e2 : ixD (prD q) (.int 1) = some (.int q.2) := rfl
  have e3 : cutD (am.map prD) none (some (j : Int)) = (am.map prD).take j := cut_to
  have e4 : cutD (am.map prD) (some ((j : Int) + 1)) none = (am.map prD).drop (j + 1) := by rw [show (j : Int) + 1 = ((j + 1 : Nat) : Int) by omega]; exact cut_from
  simp [e1, e2]
  refine brd (fun _ => ?_) (fun hb => ?_)
  · exact h am u ha hs rfl hu
  have e5 : ∀ Q : D → Prop, Q (.lst ((am.take j ++ [q] ++ am.drop (j + 1)).map prD)) → ∃ z, addD (.lst ((am.take j).map prD)) (.lst [prD q]) = some z ∧ ∃ z1, addD z (.lst ((am.drop (j + 1)).map prD)) = some z1 ∧ Q z1 := fun Q h => by
    refine ⟨_, s_addL (by simp; omega), _, s_addL (by simp; omega), ?_⟩
    simpa using h
  rw [e3, e4, ← List.map_take, ← List.map_drop]
  refine e5 _ ?_
  have hm : ∀ x, x ∈ am.take j ++ [q] ++ am.drop (j + 1) → x ∈ am ∨ x = q := fun x hx => by
    rcases List.mem_append.mp hx with hx | hx
    · rcases List.mem_append.mp hx with hx | hx
      · exact .inl (List.mem_of_mem_take hx)
      · exact .inr (List.mem_singleton.mp hx)
    · exact .inl (List.mem_of_mem_drop hx)
  refine h _ _ (fun x hx => ?_) (fun x hx => ?_) (by simp; omega) hu
  · rcases hm x hx with hx | rfl
    · exact ha x hx
    · exact ⟨hq.1, hq.2, by omega⟩
  · rcases hm x hx with hx | rfl
    · exact hs x hx
    · exact hq2
theorem alike_ok {am : List (Int × Int)} (ha : Am am) (hs : Sm am) (hl : am.length ≤ 100) {u : PuS} (hu : Pu u) {P : D → PuS → Prop} (h : ∀ am' u', Am am' → Sm am' → am'.length = am.length → Pu u' → P (.lst (am'.map prD)) u') : Ok (mf__law_some_alike [.pur, .lst (am.map prD)]) u P := by
  unfold mf__law_some_alike mb__law_some_alike
  rw [ok_fn]
  refine seq_go fun K R hK hR => ?_
  simp
  refine brd (fun _ => hR _ _ (h am u ha hs rfl hu)) (fun hlen => hK _ _ ?_)
  clear hK hR K R
  have hlen : 2 ≤ am.length := by omega
  refine seq_go fun K R hK hR => ?_
  simp
  refine draw_ok (by omega) hu fun r u1 r0 r1 hu1 => ?_
  refine draw_ok (by omega) hu1 fun s u2 s0 s1 hu2 => hK _ _ ?_
  clear hK hR K R
  obtain ⟨r, rfl⟩ : ∃ k : Nat, r = (k : Int) := ⟨r.toNat, by omega⟩
  obtain ⟨s, rfl⟩ : ∃ k : Nat, s = (k : Int) := ⟨s.toNat, by omega⟩
  have hr : r < am.length := by omega
  have hs' : s < am.length := by omega
  refine seq_go fun K R hK hR => ?_
  simp
  refine draw_ok (by decide) hu2 fun w u3 w0 w1 hu3 => hK _ _ ?_
  clear hK hR K R
  have e1 : ∀ k (hk : k < am.length), ixD (.lst (am.map prD)) (.int (k : Int)) = some (prD am[k]) := fun k hk => at_nat (by rw [List.getElem?_map, List.getElem?_eq_getElem hk]; rfl)
  have e2 : ∀ q, ixD (prD q) (.int 0) = some (.int q.1) := fun q => rfl
  have e3 : ∀ q, ixD (prD q) (.int 1) = some (.int q.2) := fun q => rfl
  have m1 := ha _ (List.getElem_mem hr)
  have m2 := ha _ (List.getElem_mem hs')
  have m3 := hs _ (List.getElem_mem hr)
  have m4 := hs _ (List.getElem_mem hs')
  refine seq_go fun K R hK hR => ?_
  simp [e1 r hr, e1 s hs', e2, e3]
  have e4 : ∃ q : Int × Int, ixD (.lst [.tup [.int am[r].1, .int am[s].2], .tup [.int am[s].1, .int am[r].2], prD am[r]]) (.int w) = some (prD q) ∧ (1 ≤ q.2 ∧ 0 ≤ q.1) ∧ q.2 ≤ 1000000000000000000000000000 := by
    obtain ⟨k, rfl⟩ : ∃ k : Nat, w = (k : Int) := ⟨w.toNat, by omega⟩
    have hk : k < 3 := by omega
    match k, hk with
    | 0, _ => exact ⟨(am[r].1, am[s].2), rfl, ⟨m2.1, m1.2.1⟩, m4⟩
    | 1, _ => exact ⟨(am[s].1, am[r].2), rfl, ⟨m1.1, m2.2.1⟩, m3⟩
    | 2, _ => exact ⟨am[r], rfl, ⟨m1.1, m1.2.1⟩, m3⟩
  obtain ⟨q, e4, hq, hq2⟩ := e4
  refine ⟨_, e4, hK _ _ ?_⟩
  exact alike_tl ha hs hl hq hq2 hs' hu3 h
end S4

set_option Elab.async false
set_option linter.all false
set_option maxRecDepth 100000
set_option maxHeartbeats 4000000
/-! S4m: drawn names, texts, courses of the papers' laws. -/
namespace S4
open PySem L2 Mi P20 Sh TL
theorem name_ok {u : PuS} (hu : Pu u) {P : D → PuS → Prop} (h : ∀ x u', Nm x → Pu u' → P (.str x) u') : Ok (mf__law_drawn_name [.pur]) u P := by
  unfold mf__law_drawn_name mb__law_drawn_name
  rw [ok_fn]
  refine seq_go fun K R hK hR => ?_
  simp
  refine hK _ _ ?_
  clear hK hR K R
  refine seq_go fun K R hK hR => ?_
  simp
  refine draw_ok (by decide) hu fun r u2 r0 r26 hu2 => ?_
  obtain ⟨c, e1, hc, hc2⟩ := S1.sgn_at r0 (show r < 36 by omega)
  refine ⟨_, e1, hK _ _ ?_⟩
  clear hK hR K R
  have hx : Nm ⟨#[c]⟩ := ⟨⟨c, [], rfl, hc2 r26⟩, by simp, fun d hd => by
    have : d = c := by simpa using hd
    rw [this]
    exact hc⟩
  refine seq_cut (fun ρ u' => Pu u' ∧ ∃ (x : Str) (b : Sd), Nm x ∧ ρ = [.sh .pur, .sh (.str S1.sgn), .sh (.str x), b]) ?_ ?_
  · simp
    refine draw_ok (by decide) hu2 fun q u3 q0 q4 hu3 => ?_
    obtain ⟨n, e, hn⟩ : ∃ n : Nat, ixD (.lst [D.int 0, D.int 1, D.int 2, D.int 7]) (.int q) = some (.int (n : Int)) ∧ n ≤ 7 := by
      obtain ⟨k, rfl⟩ : ∃ k : Nat, q = (k : Int) := ⟨q.toNat, by omega⟩
      have hk : k < 4 := by omega
      match k, hk with
      | 0, _ => exact ⟨0, rfl, by decide⟩
      | 1, _ => exact ⟨1, rfl, by decide⟩
      | 2, _ => exact ⟨2, rfl, by decide⟩
      | 3, _ => exact ⟨7, rfl, by decide⟩
    refine ⟨_, e, ?_⟩
    simp
    refine ⟨by omega, ?_⟩
    refine ok_range 0 n (fun k ρ u' => Pu u' ∧ ∃ (x : Str) (b : Sd), Nm x ∧ x.cps.toList.length = 1 + k ∧ ρ = [.sh .pur, .sh (.str S1.sgn), .sh (.str x), b]) ?_ ?_ _ _ ⟨hu3, ⟨#[c]⟩, .un, hx, by simp, rfl⟩
    · rintro k ρ v hk ⟨hv, x, b, hx, hxk, rfl⟩
      refine ⟨_, rfl, ?_⟩
      refine st_go fun R0 hR0 => ?_
      unfold lb__law_drawn_name_1
      simp
      refine draw_ok (by decide) hv fun q u4 q0 q1 hu4 => ?_
      obtain ⟨c, e1, hc, _⟩ := S1.sgn_at q0 q1
      have e3 : addD (.str x) (.str ⟨#[c]⟩) = some (.str (x ++ ⟨#[c]⟩)) := if_pos (by rw [Sh.len_tl, Sh.len_tl]; simp at hxk ⊢; omega)
      refine ⟨_, e1, _, e3, hR0 _ _ ⟨hu4, x ++ ⟨#[c]⟩, _, S1.nm_snoc hx hc (by omega), ?_, rfl⟩⟩
      have et : (x ++ (⟨#[c]⟩ : Str)).cps.toList = x.cps.toList ++ [c] := by
        show tl (x ++ (⟨#[c]⟩ : Str)) = _
        rw [tl_append]
      rw [et, List.length_append, hxk]
      rfl
    · rintro ρ v ⟨hv, x, b, hx, _, rfl⟩
      exact ⟨hv, x, hx, b, rfl⟩
  rintro ρ u3 ⟨hu3, x, b, hx, rfl⟩
  simp
  exact h x u3 hx hu3
abbrev abc : Str := "abcdefghijkl"
theorem abc_tl : abc.cps.toList = [97, 98, 99, 100, 101, 102, 103, 104, 105, 106, 107, 108] := by decide
theorem abc_free {ns : List Str} (h : ns.length < 12) : ∃ c ∈ abc.cps.toList, (⟨#[c]⟩ : Str) ∉ ns := by
  refine Classical.byContradiction fun hn => ?_
  have hall : ∀ x ∈ abc.cps.toList.map fun c => (⟨#[c]⟩ : Str), x ∈ ns := fun x hx => by
    obtain ⟨k, hk, rfl⟩ := List.mem_map.mp hx
    exact Classical.byContradiction fun z => hn ⟨k, hk, z⟩
  have hnd : (abc.cps.toList.map fun c => (⟨#[c]⟩ : Str)).Nodup := by
    rw [abc_tl]
    decide
  have := S1.nodup_le hnd hall
  rw [List.length_map, abc_tl] at this
  simp at this
  omega
theorem nin_strs (x : Str) (ns : List Str) : ninD (.str x) (.lst (ns.map D.str)) = some (.bl (!decide (x ∈ ns))) := by
  have : inD (.str x) (.lst (ns.map D.str)) = some (.bl (decide (x ∈ ns))) := by simp
  unfold inD at this
  unfold ninD
  cases h : inA (.str x) (.lst (ns.map D.str)) with
  | none => rw [h] at this; cases this
  | some b =>
    rw [h] at this
    have : b = decide (x ∈ ns) := by simpa using this
    subst this
    rfl
theorem noL_one : ∀ l : List Nat, noLsts (l.map fun c => D.str ⟨#[c]⟩) = true
  | [] => rfl
  | _ :: l => noL_one l
theorem names_ok {m : Nat} (hm : m ≤ 12) {u : PuS} (hu : Pu u) {P : D → PuS → Prop} (h : ∀ (ns : List Str) u', ns.length = m → ns.Nodup → (∀ x ∈ ns, Nm x) → Pu u' → P (.lst (ns.map D.str)) u') : Ok (mf__law_drawn_names [.pur, .int m]) u P := by
  unfold mf__law_drawn_names mb__law_drawn_names
  rw [ok_fn]
  refine seq_go fun K R hK hR => ?_
  simp
  refine hK _ _ ?_
  clear hK hR K R
  refine seq_cut (fun ρ u' => Pu u' ∧ ∃ (ns : List Str) (a b c d : Sd), ns.length = m ∧ ns.Nodup ∧ (∀ x ∈ ns, Nm x) ∧ ρ = [.sh .pur, .sh (.int m), .ow (ns.map D.str), a, b, c, d]) ?_ ?_
  · simp
    refine ⟨by omega, ?_⟩
    refine ok_range 0 m (fun k ρ u' => Pu u' ∧ ∃ (ns : List Str) (a b c d : Sd), ns.length = k ∧ ns.Nodup ∧ (∀ x ∈ ns, Nm x) ∧ ρ = [.sh .pur, .sh (.int m), .ow (ns.map D.str), a, b, c, d]) ?_ ?_ _ _ ⟨hu, [], _, _, _, _, rfl, List.nodup_nil, (fun x hx => by cases hx), rfl⟩
    · rintro k ρ v hk ⟨hv, ns, a, b, c, d, hl, hnd, hnm, rfl⟩
      refine ⟨_, rfl, ?_⟩
      refine st_go fun R0 hR0 => ?_
      unfold lb__law_drawn_names_1
      refine seq_go fun K R hK hR => ?_
      simp
      refine name_ok hv fun x u1 hx hu1 => hK _ _ ?_
      clear hK hR K R
      have hit : itD (.str "abcdefghijkl") = some (abc.cps.toList.map fun c => D.str ⟨#[c]⟩) := rfl
      refine seq_cut (fun ρ u' => u' = u1 ∧ ∃ e : Sd, ρ = [.sh .pur, .sh (.int m), .ow (ns.map D.str), .sh (.int (k : Nat)), .sh (.str x), .sh (.lst ((abc.cps.toList.filter fun c => decide ((⟨#[c]⟩ : Str) ∉ ns)).map fun c => D.str ⟨#[c]⟩)), e]) ?_ ?_
      · simp [mBorLs, ok_borL, hit]
        refine ⟨by rw [← Array.length_toList, abc_tl]; decide, ?_⟩
        refine ok_lcm (f := fun c : Nat => D.str ⟨#[c]⟩) (fun c : Nat => [.sh .pur, .sh (.int m), .sh (.lst (ns.map D.str)), .sh (.int k), .sh (.str x), _, .sh (.str ⟨#[c]⟩)]) (fun c => !decide ((⟨#[c]⟩ : Str) ∈ ns)) (fun c => .str ⟨#[c]⟩) (fun c hc => rfl) (fun c hc => ?_) (fun c hc _ => ?_) ?_
        · simp [nin_strs]
        · simp
        · exact ⟨noL_one _, rfl, rfl⟩
      rintro ρ u' ⟨rfl, e, rfl⟩
      obtain ⟨c0, hc0, hc1⟩ := abc_free (ns := ns) (by omega)
      obtain ⟨y, l, ey⟩ : ∃ y l, (abc.cps.toList.filter fun c => decide ((⟨#[c]⟩ : Str) ∉ ns)) = y :: l := by
        cases e : (abc.cps.toList.filter fun c => decide ((⟨#[c]⟩ : Str) ∉ ns)) with
        | nil =>
          have : c0 ∈ (abc.cps.toList.filter fun c => decide ((⟨#[c]⟩ : Str) ∉ ns)) := List.mem_filter.mpr ⟨hc0, decide_eq_true hc1⟩
          rw [e] at this
          cases this
        | cons y l => exact ⟨y, l, rfl⟩
      have hy : y ∈ (abc.cps.toList.filter fun c => decide ((⟨#[c]⟩ : Str) ∉ ns)) := by rw [ey]; exact List.mem_cons_self
      obtain ⟨hy1, hy2⟩ := List.mem_filter.mp hy
      have hy2 : (⟨#[y]⟩ : Str) ∉ ns := of_decide_eq_true hy2
      have hy3 : Nm ⟨#[y]⟩ := by
        have : Lt y := by
          have key : ∀ c ∈ abc.cps.toList, Lt c := by rw [abc_tl]; unfold Lt; decide
          exact key y hy1
        exact ⟨⟨y, [], rfl, this⟩, by simp, fun d hd => by
          have : d = y := by simpa using hd
          rw [this]
          exact .inl ‹Lt y›⟩
      have e0 : ∀ l : List Nat, ixD (.lst (D.str ⟨#[y]⟩ :: l.map fun c => D.str ⟨#[c]⟩)) (.int 0) = some (.str ⟨#[y]⟩) := fun l => at_nat (k := 0) rfl
      rw [ey]
      have nx : ∀ z : Str, Nm z → z ∉ ns → (ns ++ [z]).length = k + 1 ∧ (ns ++ [z]).Nodup ∧ ∀ x ∈ ns ++ [z], Nm x := fun z h1 h2 => ⟨by simp [hl], by
        rw [List.nodup_append]
        exact ⟨hnd, List.nodup_cons.mpr ⟨by simp, List.nodup_nil⟩, fun a ha b hb => by rw [List.mem_singleton.mp hb]; exact fun q => h2 (q ▸ ha)⟩, fun w hw => by
        rcases List.mem_append.mp hw with hw | hw
        · exact hnm w hw
        · rw [List.mem_singleton.mp hw]; exact h1⟩
      simp [e0]
      refine brd (fun hz => ?_) (fun hz => ?_)
      · obtain ⟨n1, n2, n3⟩ := nx _ hy3 hy2
        exact ⟨rfl, by omega, hR0 _ _ ⟨hu1, ns ++ [⟨#[y]⟩], _, _, _, _, n1, n2, n3, by rw [List.map_append]; rfl⟩⟩
      · obtain ⟨n1, n2, n3⟩ := nx _ hx hz
        exact ⟨rfl, by omega, hR0 _ _ ⟨hu1, ns ++ [x], _, _, _, _, n1, n2, n3, by rw [List.map_append]; rfl⟩⟩
    · rintro ρ v ⟨hv, ns, a, b, c, d, hl, hnd, hnm, rfl⟩
      exact ⟨hv, ns, hl, hnd, hnm, a, b, c, d, rfl⟩
  rintro ρ u3 ⟨hu3, ns, a, b, c, d, hl, hnd, hnm, rfl⟩
  simp
  exact h ns u3 hl hnd hnm hu3
theorem strI {n : Int} (h0 : 0 ≤ n) (h : n < 10 ^ 60) : strID [.int n] = some (.str (nT n.toNat)) := by
  show (if n.natAbs.log2 < 1920 then some (D.str (Str.ofString (toString n))) else none) = _
  have hn := pow60 h0 h
  have ex : ((n.toNat : Nat) : Int) = n := by omega
  have h2 : n.natAbs < 2 ^ 200 := by
    have e : n.natAbs = n.toNat := by omega
    rw [e]
    exact Nat.lt_trans hn (by decide)
  have := log_of h2
  rw [if_pos (by omega)]
  show some (D.str (Str.ofString (toString n))) = some (D.str (Str.ofString (toString ((n.toNat : Nat) : Int))))
  rw [ex]
theorem addSt {a b : Str} (h : a.length + b.length ≤ 10000000) : addD (.str a) (.str b) = some (.str (a ++ b)) := if_pos h
theorem shutet_text_ok {ps : Prs} (h : PsB ps) (hl : ps.length ≤ 12) {ns : List Str} (hn : ∀ (k : Nat) (p : Str × (Int × Int)), ps[k]? = some p → ns[k]? = some p.1) {u : PuS} {P : D → PuS → Prop} (hp : P (.str (waT ps)) u) : Ok (mf__law_shutet_text [.lst (ns.map D.str), .lst ((ps.map Prod.snd).map prD)]) u P := by
  unfold mf__law_shutet_text mb__law_shutet_text
  rw [ok_fn]
  refine seq_go fun K R hK hR => ?_
  simp [-List.map_map]
  refine hK _ _ ?_
  clear hK hR K R
  refine seq_cut (fun ρ u' => u' = u ∧ ∃ (a b c : Sd), ρ = [.sh (.lst (ns.map D.str)), .sh (.lst ((ps.map Prod.snd).map prD)), .ow ((ps.map pcT).map D.str), a, b, c]) ?_ ?_
  · simp [-List.map_map]
    refine ⟨by omega, ?_⟩
    refine ok_range 0 ps.length (fun k ρ u' => u' = u ∧ ∃ (a b c : Sd), ρ = [.sh (.lst (ns.map D.str)), .sh (.lst ((ps.map Prod.snd).map prD)), .ow (((ps.take k).map pcT).map D.str), a, b, c]) ?_ ?_ _ _ ⟨rfl, _, _, _, rfl⟩
    · rintro k ρ v hk ⟨rfl, a, b, c, rfl⟩
      refine ⟨_, rfl, ?_⟩
      refine st_go fun R0 hR0 => ?_
      unfold lb__law_shutet_text_1
      have e0 := List.getElem?_eq_getElem hk
      have e1 := hn k _ e0
      obtain ⟨q1, q2, q3, q4, q5, q6⟩ := h ps[k] (List.getElem_mem hk)
      have ht : ps.take (k + 1) = ps.take k ++ [ps[k]] := by rw [List.take_add_one, e0]; rfl
      generalize ps[k] = p at *
      have e2 : ixD (.lst ((ps.map Prod.snd).map prD)) (.int (k : Nat)) = some (prD p.2) := at_nat (by rw [List.getElem?_map, List.getElem?_map, e0]; rfl)
      have e3 : ixD (.lst (ns.map D.str)) (.int (k : Nat)) = some (.str p.1) := at_nat (by rw [List.getElem?_map, e1]; rfl)
      have s1 := strI q3 q5
      have s2 := strI (n := p.2.2) (by omega) q6
      have hb := pow60 q3 q5
      have hl2 := pow60 (show 0 ≤ p.2.2 by omega) q6
      have lb : (numL p.2.1.toNat).length ≤ 60 := numL_len (by decide) hb
      have ll : (numL p.2.2.toNat).length ≤ 60 := numL_len (by decide) hl2
      have l1 : (Str.ofString " ").length = 1 := by decide
      have l2 : (Str.ofString "/").length = 1 := by decide
      have lx := q1.len
      rw [← Sh.len_tl] at lx
      refine seq_go fun K R hK hR => ?_
      have e4 : ∀ ρ, mGt 2 (mGcons (mGn 4) (mGcons (mGn 5) mGnil)) (prD p.2) ρ = some ((ρ.set 4 (.sh (.int p.2.1))).set 5 (.sh (.int p.2.2))) := fun ρ => rfl
      simp [-List.map_map, e2, e4]
      refine hK _ _ ?_
      clear hK hR K R
      simp [-List.map_map, e3, s1, s2]
      refine ⟨_, addSt (by omega), _, addSt (by rw [Str.length_append, nT_len]; omega), _, addSt (by rw [Str.length_append, Str.length_append, nT_len]; omega), _, addSt (by rw [Str.length_append, Str.length_append, Str.length_append, nT_len, nT_len]; omega), by omega, hR0 _ _ ⟨rfl, .sh (.int (k : Nat)), .sh (.int p.2.1), .sh (.int p.2.2), ?_⟩⟩
      have ep : p.1 ++ Str.ofString " " ++ nT p.2.1.toNat ++ Str.ofString "/" ++ nT p.2.2.toNat = pcT p := by
        refine TL.ext_tl ?_
        rw [show tl (pcT p) = _ from tl_pcT p]
        simp only [tl_append]
        rw [show tl (nT p.2.1.toNat) = _ from tl_nT _, show tl (nT p.2.2.toNat) = _ from tl_nT _, show tl (Str.ofString " ") = [32] by decide, show tl (Str.ofString "/") = [47] by decide]
        simp
      rw [ht, List.map_append, List.map_append]
      rw [ep, List.map_take, List.map_take]
      rfl
    · rintro ρ v ⟨rfl, a, b, c, rfl⟩
      rw [List.take_length]
      exact ⟨rfl, a, b, c, rfl⟩
  rintro ρ u' ⟨rfl, a, b, c, rfl⟩
  have h4 : ((ps.map pcT).map (·.length)).sum ≤ ps.length * 200 := by
    clear hn hp hl
    induction ps with
    | nil => simp
    | cons a l ih =>
      have h5 := pcT_len (h a List.mem_cons_self)
      have h6 := ih fun e hx => h e (List.mem_cons_of_mem _ hx)
      simp only [List.map_cons, List.sum_cons, List.length_cons, Nat.add_mul]
      omega
  have e3 : joinD ", " (.lst ((ps.map pcT).map D.str)) = some (.str (waT ps)) := by
    show (strsD ((ps.map pcT).map D.str)).bind _ = _
    rw [strsD_map]
    simp only [Option.bind_some]
    refine if_pos ?_
    have : (Str.ofString ", ").length = 2 := by decide
    rw [this, List.length_map]
    omega
  simp [ok_join, -List.map_map, e3]
  exact hp
end S4

set_option Elab.async false
set_option linter.all false
set_option maxRecDepth 100000
set_option maxHeartbeats 4000000
/-! S4h: orders by keys, what the program and the law answer. -/
namespace S4
open PySem L2 Mi P20 Sh
def cdD (c : Cd) : D := .tup [.int c.1, .int c.2.1, .int c.2.2]
theorem cd0 (c : Cd) : ixD (cdD c) (.int 0) = some (.int c.1) := rfl
theorem cd1 (c : Cd) : ixD (cdD c) (.int 1) = some (.int c.2.1) := rfl
theorem cd2 (c : Cd) : ixD (cdD c) (.int 2) = some (.int c.2.2) := rfl
theorem in_strsT (x : Str) (ns : List Str) : inD (.str x) (.tup (ns.map D.str)) = some (.bl (decide (x ∈ ns))) := by
  simp
/-- amounts of fit size -/
structure Cb (c : Cd) : Prop where
  b0 : 0 ≤ c.2.1
  b1 : c.2.1 < 10 ^ 60
  l0 : 0 < c.2.2
  l1 : c.2.2 < 10 ^ 60
theorem log60 {a : Int} (h0 : 0 ≤ a) (h : a < 10 ^ 60) : a.natAbs.log2 < 200 := by
  by_cases z : a.natAbs = 0
  · rw [z]; decide
  · rw [Nat.log2_lt z]
    have h1 : (10 : Int) ^ 60 = 1000000000000000000000000000000000000000000000000000000000000 := by decide
    have h2 : (2 : Nat) ^ 200 = 1606938044258990275541962092341162602522202993782792835301376 := by decide
    omega
theorem lead_by_ok {w : Str} (hw : w ∈ keys8) {x y : Cd} (hx : Cb x) (hy : Cb y) {u : PuS} {P : D → PuS → Prop} (h : P (.int (leadF w x y)) u) : Ok (mf_lead_by [.str w, cdD x, cdD y]) u P := by
  unfold mf_lead_by mb_lead_by
  have i1 : inD (.str w) (.tup [.str (Str.ofString "early"), .str (Str.ofString "late")]) = some (.bl (decide (w ∈ (["early", "late"] : List Str)))) := in_strsT w ["early", "late"]
  have i2 : inD (.str w) (.tup [.str (Str.ofString "most"), .str (Str.ofString "least")]) = some (.bl (decide (w ∈ (["most", "least"] : List Str)))) := in_strsT w ["most", "least"]
  have i3 : inD (.str w) (.tup [.str (Str.ofString "wide"), .str (Str.ofString "narrow")]) = some (.bl (decide (w ∈ (["wide", "narrow"] : List Str)))) := in_strsT w ["wide", "narrow"]
  have i4 : inD (.str w) (.tup [.str (Str.ofString "least"), .str (Str.ofString "narrow"), .str (Str.ofString "short"), .str (Str.ofString "late")]) = some (.bl (decide (w ∈ (["least", "narrow", "short", "late"] : List Str)))) := in_strsT w ["least", "narrow", "short", "late"]
  simp [cd0, cd1, cd2, i1, i2, i3, i4]
  have g1 := log60 hx.b0 hx.b1
  have g2 := log60 hy.b0 hy.b1
  have g3 := log60 (Int.le_of_lt hx.l0) hx.l1
  have g4 := log60 (Int.le_of_lt hy.l0) hy.l1
  have hk : w = "most" ∨ w = "least" ∨ w = "wide" ∨ w = "narrow" ∨ w = "long" ∨ w = "short" ∨ w = "early" ∨ w = "late" := by simpa [keys8] using hw
  rcases hk with rfl | rfl | rfl | rfl | rfl | rfl | rfl | rfl
  · exact h
  · have h' : P (.int (0 - (x.2.1 - y.2.1))) u := h
    rw [Int.zero_sub] at h'
    exact h'
  · exact h
  · have h' : P (.int (0 - (x.2.2 - y.2.2))) u := h
    rw [Int.zero_sub] at h'
    exact h'
  · exact ⟨.inr (by omega), .inr (by omega), h⟩
  · have h' : P (.int (0 - (x.2.1 * y.2.2 - y.2.1 * x.2.2))) u := h
    rw [Int.zero_sub] at h'
    exact ⟨.inr (by omega), .inr (by omega), h'⟩
  · exact h
  · have h' : P (.int (0 - (y.1 - x.1))) u := h
    rw [Int.zero_sub] at h'
    exact h'
theorem is_ahead_ok {ws : List Str} (hw : ∀ w ∈ ws, w ∈ keys8) {x y : Cd} (hx : Cb x) (hy : Cb y) {u : PuS} {P : D → PuS → Prop} (h : P (.bl (aheadF ws x y)) u) : Ok (mf_is_ahead [.tup (ws.map D.str), cdD x, cdD y]) u P := by
  unfold mf_is_ahead mb_is_ahead
  simp
  refine ok_loop (fun ds ρ u' => ∃ (vs : List Str) (a b : Sd), ds = vs.map D.str ∧ (∀ w ∈ vs, w ∈ keys8) ∧ u' = u ∧ aheadF ws x y = aheadF vs x y ∧ ρ = [.sh (.tup (ws.map D.str)), .sh (cdD x), .sh (cdD y), a, b]) ?_ ?_ _ _ _ ⟨ws, _, _, rfl, hw, rfl, rfl, rfl⟩
  · rintro d ds ρ u' ⟨vs, a, b, e, hv, rfl, ha, rfl⟩
    cases vs with
    | nil => cases e
    | cons w vs =>
      cases e
      refine ⟨_, rfl, ?_⟩
      unfold lb_is_ahead_1
      simp
      refine lead_by_ok (hv w List.mem_cons_self) hx hy ?_
      have ea : aheadF (w :: vs) x y = if leadF w x y ≠ 0 then decide (0 < leadF w x y) else aheadF vs x y := rfl
      rw [ea] at ha
      simp
      refine brd (fun hz => ?_) (fun hz => ?_)
      · rw [if_neg (by simp [hz])] at ha
        exact ⟨vs, rfl, fun v q => by simpa [keys8] using hv v (List.mem_cons_of_mem _ q), ha⟩
      · rw [if_pos hz] at ha
        rw [ha] at h
        simpa using h
  · rintro ρ u' ⟨vs, a, b, e, hv, rfl, ha, rfl⟩
    cases vs with
    | cons w vs => cases e
    | nil =>
      have e1 : aheadF [] x y = decide (x.1 < y.1) := rfl
      rw [ha, e1] at h
      simp [cd0]
      exact h
/-! ### placed -/
def cdsF (am : List (Int × Int)) : List Cd := am.mapIdx fun i q => ((i : Int), q.1, q.2)
def plF (ws : List Str) (am : List (Int × Int)) : List Cd := isF (aheadF ws) (cdsF am)
/-- how many stand ahead -/
theorem insF_at (lt : Cd → Cd → Bool) (c : Cd) : ∀ xs : List Cd, ∃ k, k ≤ xs.length ∧ insF lt c xs = xs.take k ++ [c] ++ xs.drop k ∧ (∀ x ∈ xs.take k, lt x c = true) ∧ ∀ x, xs[k]? = some x → lt x c = false
  | [] => ⟨0, Nat.zero_le _, rfl, fun x hx => absurd hx (by simp), fun x hx => by simp at hx⟩
  | y :: ys => by
    unfold insF
    split
    · rename_i h
      obtain ⟨k, h1, h2, h3, h4⟩ := insF_at lt c ys
      refine ⟨k + 1, by simpa using h1, by rw [h2]; rfl, fun x hx => ?_, fun x hx => h4 x (by simpa using hx)⟩
      rcases List.mem_cons.mp (by simpa using hx : x ∈ y :: ys.take k) with rfl | hx
      · exact h
      · exact h3 x hx
    · rename_i h
      refine ⟨0, Nat.zero_le _, rfl, fun x hx => absurd hx (by simp), fun x hx => ?_⟩
      have : y = x := by simpa using hx
      subst this
      simpa using h
theorem isF_snoc {lt : Cd → Cd → Bool} (xs : List Cd) (c : Cd) : isF lt (xs ++ [c]) = insF lt c (isF lt xs) := by
  unfold isF
  rw [List.foldl_append]
  rfl
theorem cdsF_at {am : List (Int × Int)} {k : Nat} {q : Int × Int} (h : am[k]? = some q) : (cdsF am)[k]? = some ((k : Int), q.1, q.2) := by
  unfold cdsF
  rw [List.getElem?_mapIdx, h]
  rfl
theorem cdsF_len (am : List (Int × Int)) : (cdsF am).length = am.length := by unfold cdsF; simp
theorem placed_by_ok {ws : List Str} (hw : ∀ w ∈ ws, w ∈ keys8) {am : List (Int × Int)} (hb : ∀ c ∈ cdsF am, Cb c) (hl : am.length ≤ 1000) {u : PuS} {P : D → PuS → Prop} (h : P (.lst ((plF ws am).map cdD)) u) : Ok (mf_placed_by [.tup (ws.map D.str), .tup (am.map prD)]) u P := by
  unfold mf_placed_by mb_placed_by
  simp
  refine ok_list (enumD (am.map prD)) (fun k ρ u' => u' = u ∧ ∃ a b c d e : Sd, ρ = [.sh (.tup (ws.map D.str)), .sh (.tup (am.map prD)), .ow ((isF (aheadF ws) ((cdsF am).take k)).map cdD), a, b, c, d, e]) ?_ ?_ _ _ ⟨rfl, _, _, _, _, _, rfl⟩
  · rintro k d ρ u' hd ⟨rfl, a, b, c, d1, e, rfl⟩
    obtain ⟨x, hx, rfl⟩ := enumD_at hd
    rw [List.getElem?_map] at hx
    cases hq : am[k]? with
    | none => rw [hq] at hx; cases hx
    | some q =>
      rw [hq] at hx
      cases hx
      have hk : k < am.length := (List.getElem?_eq_some_iff.mp hq).1
      have hc := cdsF_at hq
      have ht : (cdsF am).take (k + 1) = (cdsF am).take k ++ [((k : Int), q.1, q.2)] := by
        rw [List.take_add_one, hc]
        rfl
      have cc : Cb ((k : Int), q.1, q.2) := hb _ (List.mem_of_getElem? hc)
      generalize hacc : isF (aheadF ws) ((cdsF am).take k) = acc
      have hm : ∀ y ∈ acc, Cb y := fun y hy => by
        rw [← hacc] at hy
        exact hb y (List.mem_of_mem_take ((isF_perm _ _).mem_iff.mp hy))
      have hal : acc.length = k := by
        rw [← hacc, (isF_perm _ _).length_eq, List.length_take, cdsF_len]
        omega
      obtain ⟨kk, k1, k2, k3, k4⟩ := insF_at (aheadF ws) ((k : Int), q.1, q.2) acc
      refine ⟨_, rfl, ?_⟩
      unfold lb_placed_by_2
      simp
      have fin : ∀ f : Fl, f = f := fun _ => rfl
      refine ok_while (fun n ρ v => v = u' ∧ ∃ j : Nat, j + n = kk ∧ ρ = [.sh (.tup (ws.map D.str)), .sh (.tup (am.map prD)), .ow (acc.map cdD), .sh (.int (k : Nat)), .sh (.int q.1), .sh (.int q.2), .sh (cdD ((k : Int), q.1, q.2)), .sh (.int (j : Nat))]) ?_ kk 100000 _ _ (by omega) ⟨rfl, 0, by omega, rfl⟩
      rintro n ρ v ⟨rfl, j, hj, rfl⟩
      have ef : isF (aheadF ws) ((cdsF am).take (k + 1)) = acc.take kk ++ [((k : Int), q.1, q.2)] ++ acc.drop kk := by
        rw [ht, isF_snoc, hacc, k2]
      have done : j = kk → ((j : Int) ≤ 100000 ∧ acc.length < 100000) ∧ List.take j (List.map cdD acc) ++ cdD ((k : Int), q.1, q.2) :: List.drop j (List.map cdD acc) = List.map cdD (isF (aheadF ws) (List.take (k + 1) (cdsF am))) := by
        intro e
        subst e
        refine ⟨by omega, ?_⟩
        rw [ef, List.map_append, List.map_append, List.map_take, List.map_drop, List.append_assoc]
        rfl
      by_cases hlt : j < acc.length
      · have hy : acc[j]? = some acc[j] := List.getElem?_eq_getElem hlt
        have hat : atI (acc.map cdD) (j : Int) = some (cdD acc[j]) := at_nat (k := j) (by rw [List.getElem?_map, hy]; rfl)
        have hl2 : (j : Int) < (acc.length : Int) := by omega
        simp [hat, hl2]
        refine is_ahead_ok hw (hm _ (List.getElem_mem hlt)) cc ?_
        simp
        by_cases hjk : j = kk
        · rw [k4 acc[j] (by rw [← hjk]; exact hy)]
          exact done hjk
        · have hin : acc[j] ∈ acc.take kk := by
            refine List.mem_of_getElem? (i := j) ?_
            rw [List.getElem?_take]
            rw [if_pos (by omega)]
            exact hy
          rw [k3 _ hin]
          exact ⟨n - 1, by omega, j + 1, by omega, by omega⟩
      · have hl2 : ¬ (j : Int) < (acc.length : Int) := by omega
        simp [hl2]
        exact done (by omega)
  · rintro ρ u' ⟨rfl, a, b, c, d, e, rfl⟩
    have e1 : (cdsF am).take (enumD (am.map prD)).length = cdsF am := by
      rw [enumD_len, List.length_map, ← cdsF_len, List.take_length]
    simp
    rw [enumD_len, List.length_map, ← cdsF_len, List.take_length]
    exact h
end S4

set_option Elab.async false
set_option linter.all false
set_option maxRecDepth 100000
set_option maxHeartbeats 4000000
namespace Sh
open PySem L2 Mi P20
def amT (am : List (Int × Int)) : D := .tup (am.map prD)
def rwT (r : List Int) : D := .tup (r.map D.int)
theorem parts_ok {am : List (Int × Int)} (hl : am.length ≤ 1000) {k : Nat} (hk : k < 1000) {u : PuS} {P : D → PuS → Prop} (h : P (rwT (pts am k)) u) : Ok (mf_parts [amT am, .int k]) u P := by
  unfold mf_parts mb_parts amT
  simp
  refine ⟨by omega, ?_⟩
  refine ok_lca (fun q => [.sh (.tup (am.map prD)), .sh (.int k), .sh (.int q.1), .sh (.int q.2)]) (fun q => .int (wor q.1 q.2 (k + 1) - wor q.1 q.2 k)) ?_ ?_ ?_
  · intro q hq; rfl
  · intro q hq
    unfold ce_parts_1
    simp
    refine part_ok (by omega) ?_
    simp
  unfold rwT pts at h
  rw [List.map_map] at h
  exact h
end Sh

set_option Elab.async false
set_option linter.all false
set_option maxRecDepth 100000
set_option maxHeartbeats 4000000
/-! S4i: payments filled in the order of some keys, by the program and by the law. -/
namespace S4
open PySem L2 Mi P20 Sh
def moreF (hi told : List Int) (i : Nat) (rest : Int) : Int := if hi.getD i 0 - told.getD i 0 < rest then hi.getD i 0 - told.getD i 0 else rest
def fillF (hi : List Int) : List Nat → List Int → Int → List Int
  | [], told, _ => told
  | i :: is, told, rest => fillF hi is (told.set i (told.getD i 0 + moreF hi told i rest)) (rest - moreF hi told i rest)
theorem fillF_len (hi : List Int) : ∀ (is : List Nat) (told : List Int) (rest : Int), (fillF hi is told rest).length = told.length
  | [], _, _ => rfl
  | i :: is, told, rest => by
    unfold fillF
    rw [fillF_len hi is]
    simp
/-- nothing below zero, nothing above -/
theorem fillF_in (hi : List Int) : ∀ (is : List Nat) (told : List Int) (rest : Int), 0 ≤ rest → (∀ i x, told[i]? = some x → 0 ≤ x ∧ x ≤ hi.getD i 0) → ∀ i x, (fillF hi is told rest)[i]? = some x → 0 ≤ x ∧ x ≤ hi.getD i 0
  | [], _, _, _, h => h
  | j :: is, told, rest, h0, h => by
    unfold fillF
    by_cases hj : j < told.length
    · have e : told.getD j 0 = told[j] := by simp [List.getD_eq_getElem?_getD, hj]
      have hb := h j told[j] (List.getElem?_eq_getElem hj)
      have m1 : 0 ≤ moreF hi told j rest ∧ moreF hi told j rest ≤ rest ∧ moreF hi told j rest ≤ hi.getD j 0 - told.getD j 0 := by
        unfold moreF
        rw [e]
        split <;> omega
      refine fillF_in hi is _ _ (by omega) fun i x hx => ?_
      rw [List.getElem?_set] at hx
      by_cases hij : j = i
      · subst hij
        rw [if_pos rfl, if_pos hj] at hx
        cases hx
        omega
      · rw [if_neg hij] at hx
        exact h i x hx
    · have e : told.set j (told.getD j 0 + moreF hi told j rest) = told := List.set_eq_of_length_le (by omega)
      have e2 : told.getD j 0 = 0 := by simp [List.getD_eq_getElem?_getD, List.getElem?_eq_none (Nat.le_of_not_lt hj)]
      rw [e]
      by_cases hm : moreF hi told j rest ≤ rest
      · exact fillF_in hi is _ _ (by omega) h
      · exfalso
        unfold moreF at hm
        split at hm <;> omega
/-- all amounts so many times as great -/
theorem moreF_times {t : Int} (ht : 0 < t) (hi told : List Int) (i : Nat) (rest : Int) : moreF (hi.map (· * t)) (told.map (· * t)) i (rest * t) = moreF hi told i rest * t := by
  have e : ∀ l : List Int, (l.map (· * t)).getD i 0 = l.getD i 0 * t := fun l => by
    rw [List.getD_eq_getElem?_getD, List.getD_eq_getElem?_getD, List.getElem?_map]
    cases l[i]? <;> simp
  unfold moreF
  rw [e, e, ← Int.sub_mul]
  by_cases q : hi.getD i 0 - told.getD i 0 < rest
  · rw [if_pos q, if_pos (Int.mul_lt_mul_of_pos_right q ht)]
  · rw [if_neg q, if_neg fun z => q (Int.lt_of_mul_lt_mul_right z (Int.le_of_lt ht))]
theorem fillF_times {t : Int} (ht : 0 < t) (hi : List Int) : ∀ (is : List Nat) (told : List Int) (rest : Int), fillF (hi.map (· * t)) is (told.map (· * t)) (rest * t) = (fillF hi is told rest).map (· * t)
  | [], _, _ => rfl
  | i :: is, told, rest => by
    unfold fillF
    rw [moreF_times ht, ← fillF_times ht hi is, List.map_set, ← Int.sub_mul]
    have e : (told.map (· * t)).getD i 0 = told.getD i 0 * t := by
      rw [List.getD_eq_getElem?_getD, List.getD_eq_getElem?_getD, List.getElem?_map]
      cases told[i]? <;> simp
    rw [e, Int.add_mul]
theorem cdsF_mem {am : List (Int × Int)} {c : Cd} (h : c ∈ cdsF am) : ∃ (i : Nat) (q : Int × Int), am[i]? = some q ∧ c = ((i : Int), q.1, q.2) := by
  obtain ⟨i, hi⟩ := List.mem_iff_getElem?.mp h
  unfold cdsF at hi
  rw [List.getElem?_mapIdx] at hi
  cases e : am[i]? with
  | none => rw [e] at hi; cases hi
  | some q =>
    rw [e] at hi
    cases hi
    exact ⟨i, q, e, rfl⟩
theorem plF_mem {ws : List Str} {am : List (Int × Int)} {c : Cd} (h : c ∈ plF ws am) : ∃ (i : Nat), i < am.length ∧ c.1 = (i : Int) := by
  obtain ⟨i, q, e, rfl⟩ := cdsF_mem ((isF_perm _ _).mem_iff.mp h)
  exact ⟨i, (List.getElem?_eq_some_iff.mp e).1, rfl⟩
theorem ixNn {n k : Nat} (h : k < n) : ixN n (k : Int) = some k := by
  unfold ixN
  rw [if_pos (by omega), if_pos (by omega), Int.toNat_natCast]
theorem filled_by_ok {ws : List Str} (hw : ∀ w ∈ ws, w ∈ keys8) {am : List (Int × Int)} (hb : ∀ c ∈ cdsF am, Cb c) (hl : am.length ≤ 1000) {lo hi : List Int} (hlo : lo.length = am.length) (hhi : hi.length = am.length) {b : Int} {u : PuS} {P : D → PuS → Prop}
    (h : P (rwT (fillF hi ((plF ws am).map (·.1.toNat)) lo (b - lo.sum))) u) : Ok (mf_filled_by [.tup (ws.map D.str), .tup (am.map prD), .lst (lo.map D.int), rwT hi, .int b]) u P := by
  unfold mf_filled_by mb_filled_by rwT
  simp
  refine ⟨_, s_sumI, _, rfl, ?_⟩
  refine placed_by_ok hw hb hl ?_
  refine ⟨_, rfl, ?_⟩
  generalize hfin : fillF hi ((plF ws am).map (·.1.toNat)) lo (b - lo.sum) = fin at h
  refine ok_loop (fun ds ρ u' => u' = u ∧ ∃ (cs : List Cd) (told : List Int) (rest : Int) (c1 c2 c3 c4 : Sd), ds = cs.map cdD ∧ (∀ c ∈ cs, ∃ i : Nat, i < am.length ∧ c.1 = (i : Int)) ∧ told.length = am.length ∧ fillF hi (cs.map (·.1.toNat)) told rest = fin ∧
    ρ = [.sh (.tup (ws.map D.str)), .sh (.tup (am.map prD)), .sh (.lst (lo.map D.int)), .sh (.tup (hi.map D.int)), .sh (.int b), .ow (told.map D.int), .sh (.int rest), c1, c2, c3, c4]) ?_ ?_ _ _ _ ⟨rfl, plF ws am, lo, b - lo.sum, _, _, _, _, rfl, fun c hc => plF_mem hc, hlo, hfin, rfl⟩
  · rintro d ds ρ u' ⟨rfl, cs, told, rest, c1, c2, c3, c4, e, hcs, htl, hf, rfl⟩
    cases cs with
    | nil => cases e
    | cons c cs =>
      cases e
      obtain ⟨i, hi1, hi2⟩ := hcs c List.mem_cons_self
      refine ⟨_, rfl, ?_⟩
      unfold lb_filled_by_1
      obtain ⟨x, hx1, hx2⟩ : ∃ x, told[i]? = some x ∧ told.getD i 0 = x := ⟨told[i], List.getElem?_eq_getElem (by omega), by rw [List.getD_eq_getElem?_getD, List.getElem?_eq_getElem (by omega)]; rfl⟩
      obtain ⟨y, hy1, hy2⟩ : ∃ y, hi[i]? = some y ∧ hi.getD i 0 = y := ⟨hi[i], List.getElem?_eq_getElem (by omega), by rw [List.getD_eq_getElem?_getD, List.getElem?_eq_getElem (by omega)]; rfl⟩
      have g1 : atI (hi.map D.int) (i : Int) = some (.int y) := at_nat (k := i) (by rw [List.getElem?_map, hy1]; rfl)
      have g1' : ixD (.tup (hi.map D.int)) (.int (i : Int)) = some (.int y) := g1
      have g2 : atI (told.map D.int) (i : Int) = some (.int x) := at_nat (k := i) (by rw [List.getElem?_map, hx1]; rfl)
      have g3 : popIx (.int (i : Int)) told.length = some i := by
        show (if 0 ≤ (i : Int) ∧ (i : Int) < (told.length : Int) ∧ told.length ≤ 100000 then some (i : Int).toNat else none) = _
        rw [if_pos (by omega)]
        rfl
      have hst : ∀ v : Int, (told.map D.int).set i (.int v) = (told.set i v).map D.int := fun v => by rw [List.map_set]
      have hcs2 : ∀ c ∈ cs, ∃ i : Nat, i < am.length ∧ c.1 = (i : Int) := fun c q => hcs c (List.mem_cons_of_mem _ q)
      have ei : c.1.toNat = i := by omega
      rw [List.map_cons] at hf
      rw [ei] at hf
      have hf2 : fillF hi (cs.map (·.1.toNat)) (told.set i (told.getD i 0 + moreF hi told i rest)) (rest - moreF hi told i rest) = fin := hf
      unfold moreF at hf2
      rw [hx2, hy2] at hf2
      clear hf
      simp [hi2, g1, g1', g2, g3, hx1]
      exact ⟨cs, rfl, fun a a1 b1 hm => hcs2 _ hm, _, by rw [List.length_set]; exact htl, hf2, hst _⟩
  · rintro ρ u' ⟨rfl, cs, told, rest, c1, c2, c3, c4, e, hcs, htl, hf, rfl⟩
    cases cs with
    | cons c cs => cases e
    | nil =>
      simp
      have e : told = fin := hf
      rw [e]
      exact h
end S4

set_option Elab.async false
set_option linter.all false
set_option maxRecDepth 100000
set_option maxHeartbeats 4000000
/-! S4j: the law's order of places. -/
namespace S4
open PySem L2 Mi P20 Sh
theorem in_strsL (x : Str) (ns : List Str) : inD (.str x) (.lst (ns.map D.str)) = some (.bl (decide (x ∈ ns))) := by
  simp
theorem fdivC_pos {a b : Int} (h : 0 < b) (h1 : b < 10 ^ 60) : fdivC a b = true := by
  have g := log60 (Int.le_of_lt h) h1
  unfold fdivC
  rw [decide_eq_true_iff]
  omega
theorem log_le {a b : Nat} (h : a ≤ b) : a.log2 ≤ b.log2 := by
  by_cases ha : a = 0
  · rw [ha]
    have : Nat.log2 0 = 0 := by decide
    omega
  · have hb : b ≠ 0 := by omega
    exact (Nat.le_log2 hb).mpr (Nat.le_trans (Nat.log2_self_le ha) h)
theorem div_log {W l : Int} (hW : 0 < W) (hl : 0 < l) : (W / l).natAbs.log2 ≤ W.natAbs.log2 := by
  refine log_le ?_
  have h1 : 0 ≤ W / l := Int.ediv_nonneg (by omega) (by omega)
  have h2 : W / l ≤ W := Int.ediv_le_self _ (by omega)
  omega
theorem rank_of_ok {w : Str} (hw : w ∈ keys8) {q : Int × Int} {k : Nat} {W : Int} (hq0 : 0 ≤ q.1) (hq1 : q.1 < 10 ^ 60) (hl : 0 < q.2) (hl1 : q.2 < 10 ^ 60) (hW : 0 < W) (hW1 : W.natAbs.log2 < 100000) {u : PuS} {P : D → PuS → Prop} (h : P (.int (rankF W w ((k : Int), q.1, q.2))) u) : Ok (mf__law_rank_of [.str w, prD q, .int k, .int W]) u P := by
  unfold mf__law_rank_of mb__law_rank_of
  have e1 : ∀ a b : Int, ixD (.tup [.int a, .int b]) (.int 0) = some (.int a) := fun a b => rfl
  have e2 : ∀ a b : Int, ixD (.tup [.int a, .int b]) (.int 1) = some (.int b) := fun a b => rfl
  have i1 : inD (.str w) (.lst [.str (Str.ofString "early"), .str (Str.ofString "late")]) = some (.bl (decide (w ∈ (["early", "late"] : List Str)))) := in_strsL w ["early", "late"]
  have i2 : inD (.str w) (.lst [.str (Str.ofString "most"), .str (Str.ofString "least")]) = some (.bl (decide (w ∈ (["most", "least"] : List Str)))) := in_strsL w ["most", "least"]
  have i3 : inD (.str w) (.lst [.str (Str.ofString "wide"), .str (Str.ofString "narrow")]) = some (.bl (decide (w ∈ (["wide", "narrow"] : List Str)))) := in_strsL w ["wide", "narrow"]
  have aw : As w := by
    have key : ∀ w ∈ keys8, As w := by
      intro w hw
      have hk : w = "most" ∨ w = "least" ∨ w = "wide" ∨ w = "narrow" ∨ w = "long" ∨ w = "short" ∨ w = "early" ∨ w = "late" := by simpa [keys8] using hw
      rcases hk with rfl | rfl | rfl | rfl | rfl | rfl | rfl | rfl <;> (unfold As; decide)
    exact key w hw
  have q1 : eqMD (.str w) (.str (Str.ofString "early")) = some (.bl (decide (w = "early"))) := str_eqD aw (by unfold As; decide)
  have q2 : eqMD (.str w) (.str (Str.ofString "narrow")) = some (.bl (decide (w = "narrow"))) := str_eqD aw (by unfold As; decide)
  have q3 : eqMD (.str w) (.str (Str.ofString "least")) = some (.bl (decide (w = "least"))) := str_eqD aw (by unfold As; decide)
  have q4 : eqMD (.str w) (.str (Str.ofString "short")) = some (.bl (decide (w = "short"))) := str_eqD aw (by unfold As; decide)
  simp [prD, e1, e2, i1, i2, i3, q1, q2, q3, q4]
  have f1 : fdivC W q.2 = true := fdivC_pos hl hl1
  have g1 := log60 hq0 hq1
  have gW : (W / q.2).natAbs.log2 ≤ W.natAbs.log2 := div_log hW hl
  have gm : q.1.natAbs.log2 + (W / q.2).natAbs.log2 < 1000000 := by omega
  have hk : w = "most" ∨ w = "least" ∨ w = "wide" ∨ w = "narrow" ∨ w = "long" ∨ w = "short" ∨ w = "early" ∨ w = "late" := by simpa [keys8] using hw
  rcases hk with rfl | rfl | rfl | rfl | rfl | rfl | rfl | rfl
  · have h' : P (.int (0 - q.1)) u := h
    rw [Int.zero_sub] at h'
    exact h'
  · exact h
  · have h' : P (.int (0 - q.2)) u := h
    rw [Int.zero_sub] at h'
    exact h'
  · exact h
  · have h' : P (.int (0 - q.1 * (W / q.2))) u := h
    rw [Int.zero_sub] at h'
    exact ⟨f1, .inr gm, h'⟩
  · exact ⟨f1, .inr gm, h⟩
  · exact h
  · have h' : P (.int (0 - (k : Int))) u := h
    rw [Int.zero_sub] at h'
    exact h'
end S4

set_option Elab.async false
set_option linter.all false
set_option maxRecDepth 100000
set_option maxHeartbeats 4000000
/-! S4k2: the law's order of places is the program's. -/
namespace S4
open PySem L2 Mi P20 Sh
def foldW (w : Int) (am : List (Int × Int)) : Int := am.foldl (fun w q => w * q.2) w
theorem foldW_pos : ∀ (am : List (Int × Int)) (w : Int), 0 < w → (∀ q ∈ am, 0 < q.2) → 0 < foldW w am
  | [], _, h, _ => h
  | q :: am, w, h, hq => foldW_pos am (w * q.2) (Int.mul_pos h (hq q List.mem_cons_self)) fun x hx => hq x (List.mem_cons_of_mem _ hx)
theorem foldW_dvd : ∀ (am : List (Int × Int)) (w : Int), w ∣ foldW w am ∧ ∀ q ∈ am, q.2 ∣ foldW w am
  | [], w => ⟨Int.dvd_refl w, fun q hq => by cases hq⟩
  | q :: am, w => by
    obtain ⟨h1, h2⟩ := foldW_dvd am (w * q.2)
    refine ⟨Int.dvd_trans (Int.dvd_mul_right w q.2) h1, fun x hx => ?_⟩
    rcases List.mem_cons.mp hx with rfl | hx
    · exact Int.dvd_trans (Int.dvd_mul_left w x.2) h1
    · exact h2 x hx
theorem foldW_lt : ∀ (am : List (Int × Int)) (w : Int) (a : Nat), 0 < w → w < 2 ^ a → (∀ q ∈ am, 0 < q.2 ∧ q.2 < 10 ^ 60) → foldW w am < 2 ^ (a + 200 * am.length)
  | [], _, _, _, h, _ => by simpa [foldW] using h
  | q :: am, w, a, h0, h, hq => by
    obtain ⟨q0, q1⟩ := hq q List.mem_cons_self
    have h2 : q.2 < 2 ^ 200 := by
      have : (10 : Int) ^ 60 < 2 ^ 200 := by decide
      omega
    have h3 : w * q.2 < 2 ^ (a + 200) := by
      rw [Int.pow_add]
      have h4 : w * q.2 < 2 ^ a * q.2 := Int.mul_lt_mul_of_pos_right h q0
      have h5 : (2 : Int) ^ a * q.2 < 2 ^ a * 2 ^ 200 := Int.mul_lt_mul_of_pos_left h2 (by omega)
      omega
    have h6 := foldW_lt am (w * q.2) (a + 200) (Int.mul_pos h0 q0) h3 fun x hx => hq x (List.mem_cons_of_mem _ hx)
    rw [List.length_cons, show a + 200 * (am.length + 1) = a + 200 + 200 * am.length by omega]
    exact h6
theorem log_lt {a : Int} {n : Nat} (h0 : 0 < a) (h : a < 2 ^ n) : a.natAbs.log2 < n := by
  have hz : a.natAbs ≠ 0 := by omega
  rw [Nat.log2_lt hz]
  have h2 : ((2 ^ n : Nat) : Int) = (2 : Int) ^ n := by simp
  omega
/-- the cards of fit size -/
def Cbs (am : List (Int × Int)) : Prop := ∀ q ∈ am, 0 ≤ q.1 ∧ q.1 < 10 ^ 60 ∧ 0 < q.2 ∧ q.2 < 10 ^ 60
theorem Cbs.cd {am : List (Int × Int)} (h : Cbs am) : ∀ c ∈ cdsF am, Cb c := fun c hc => by
  obtain ⟨i, q, e, rfl⟩ := cdsF_mem hc
  obtain ⟨h1, h2, h3, h4⟩ := h q (List.mem_of_getElem? e)
  exact ⟨h1, h2, h3, h4⟩
theorem fit_cd {am : List (Int × Int)} (h : Cbs am) : ∀ c ∈ cdsF am, Fit (foldW 1 am) c := fun c hc => by
  obtain ⟨i, q, e, rfl⟩ := cdsF_mem hc
  have hm := List.mem_of_getElem? e
  exact ⟨(h q hm).2.2.1, Int.ediv_mul_cancel ((foldW_dvd am 1).2 q hm)⟩
theorem apart_cd (am : List (Int × Int)) : apart (cdsF am) := by
  rw [apart, List.pairwise_iff_getElem]
  intro i j hi hj hij
  have key : ∀ (k : Nat) (hk : k < (cdsF am).length), ((cdsF am)[k]).1 = (k : Int) := fun k hk => by simp [cdsF]
  rw [key i hi, key j hj]
  omega
theorem places_of_ok {ws : List Str} (hw : ∀ w ∈ ws, w ∈ keys8) (hwl : ws.length ≤ 100) {am : List (Int × Int)} (hb : Cbs am) (hl : am.length ≤ 100) {u : PuS} {P : D → PuS → Prop} (h : P (.lst ((plF ws am).map fun c => .int c.1)) u) : Ok (mf__law_places_of [.lst (ws.map D.str), .lst (am.map prD)]) u P := by
  have W0 : 0 < foldW 1 am := foldW_pos am 1 (by decide) fun q hq => (hb q hq).2.2.1
  have W1 : foldW 1 am < 2 ^ (1 + 200 * am.length) := foldW_lt am 1 1 (by decide) (by decide) fun q hq => (hb q hq).2.2
  have W2 := log_lt W0 W1
  unfold mf__law_places_of mb__law_places_of
  rw [ok_fn]
  refine seq_go fun K R hK hR => ?_
  simp
  refine hK _ _ ?_
  clear hK hR K R
  refine seq_cut (fun ρ u' => u' = u ∧ ∃ (a b c d e f : Sd), ρ = [.sh (.lst (ws.map D.str)), .sh (.lst (am.map prD)), .sh (.int (foldW 1 am)), a, b, c, d, e, f]) ?_ ?_
  · simp
    refine ok_loop (fun ds ρ u' => u' = u ∧ ∃ (qs : List (Int × Int)) (w : Int) (a b : Sd), ds = qs.map prD ∧ (∀ q ∈ qs, 0 < q.2 ∧ q.2 < 10 ^ 60) ∧ 0 < w ∧ foldW w qs = foldW 1 am ∧ ρ = [.sh (.lst (ws.map D.str)), .sh (.lst (am.map prD)), .sh (.int w), a, b, .un, .un, .un, .un]) ?_ ?_ _ _ _ ⟨rfl, am, 1, _, _, rfl, fun q hq => (hb q hq).2.2, by decide, rfl, rfl⟩
    · rintro d ds ρ u' ⟨rfl, qs, w, a, b, e, hq, w0, hf, rfl⟩
      cases qs with
      | nil => cases e
      | cons q qs =>
        cases e
        refine ⟨_, rfl, ?_⟩
        unfold lb__law_places_of_1
        obtain ⟨q0, q1⟩ := hq q List.mem_cons_self
        have hd : w ∣ foldW 1 am := by rw [← hf]; exact (foldW_dvd (q :: qs) w).1
        have hle : w ≤ foldW 1 am := Int.le_of_dvd W0 hd
        have g1 := log_le (a := w.natAbs) (b := (foldW 1 am).natAbs) (by omega)
        have g2 := log60 (Int.le_of_lt q0) q1
        simp
        exact ⟨.inr (by omega), qs, rfl, fun a b hm => by simpa using hq (a, b) (List.mem_cons_of_mem _ hm), Int.mul_pos w0 q0, hf⟩
    · rintro ρ u' ⟨rfl, qs, w, a, b, e, hq, w0, hf, rfl⟩
      cases qs with
      | cons q qs => cases e
      | nil =>
        have : w = foldW 1 am := hf
        rw [this]
        simp
  rintro ρ u' ⟨rfl, a, b, c, d, e, f, rfl⟩
  simp
  refine ⟨by omega, ?_⟩
  refine ok_range 0 am.length (fun k ρ v => v = u' ∧ ∃ (d e f : Sd), ρ = [.sh (.lst (ws.map D.str)), .sh (.lst (am.map prD)), .sh (.int (foldW 1 am)), a, b, .ow (((cdsF am).take k).map fun c => .lst ((ranksF (foldW 1 am) ws c).map D.int)), d, e, f]) ?_ ?_ _ _ ⟨rfl, _, _, _, rfl⟩
  · rintro k ρ v hk ⟨rfl, d, e, f, rfl⟩
    have hq : am[k]? = some am[k] := List.getElem?_eq_getElem hk
    have hc := cdsF_at hq
    obtain ⟨q0, q1, l0, l1⟩ := hb _ (List.getElem_mem hk)
    have ht : (cdsF am).take (k + 1) = (cdsF am).take k ++ [((k : Int), am[k].1, am[k].2)] := by
      rw [List.take_add_one, hc]
      rfl
    refine ⟨_, rfl, ?_⟩
    unfold lb__law_places_of_3
    generalize hacc : (((cdsF am).take k).map fun c => D.lst ((ranksF (foldW 1 am) ws c).map D.int)) = acc
    have hal : acc.length ≤ 100 := by
      rw [← hacc, List.length_map, List.length_take, cdsF_len]
      omega
    have hat : ixD (.lst (am.map prD)) (.int (k : Int)) = some (prD am[k]) := at_nat (k := k) (by rw [List.getElem?_map, hq]; rfl)
    simp
    refine ⟨by omega, ?_⟩
    refine ok_lca (fun w => [.sh (.lst (ws.map D.str)), .sh (.lst (am.map prD)), .sh (.int (foldW 1 am)), a, b, .ow acc, .sh (.int (k : Nat)), .sh (.str w), f]) (fun w => .int (rankF (foldW 1 am) w ((k : Int), am[k].1, am[k].2))) (fun w hw => rfl) (fun w hx => ?_) ?_
    · unfold ce__law_places_of_2
      simp [hat]
      exact rank_of_ok (hw w hx) q0 q1 l0 l1 W0 (by omega) ⟨rfl, rfl⟩
    · refine ⟨_, if_pos (by rw [List.length_map]; show ws.length + 1 ≤ 100000; omega), by omega, rfl, ?_⟩
      rw [← List.map_take, ht, List.map_append, hacc]
      congr 1
      show [D.lst _] = [D.lst _]
      unfold ranksF
      rw [List.map_append, List.map_map]
      rfl
  · rintro ρ v ⟨rfl, d, e, f, rfl⟩
    have e1 : (cdsF am).take am.length = cdsF am := by rw [← cdsF_len, List.take_length]
    have e2 : srtLL [.lst ((cdsF am).map fun c => .lst ((ranksF (foldW 1 am) ws c).map D.int))] = some ((plF ws am).map fun c => .lst ((ranksF (foldW 1 am) ws c).map D.int)) := by
      have z : ((cdsF am).map fun c => D.lst ((ranksF (foldW 1 am) ws c).map D.int)) = ((cdsF am).map (ranksF (foldW 1 am) ws)).map fun ns => D.lst (ns.map D.int) := by rw [List.map_map]; rfl
      unfold srtLL
      simp only
      rw [z, rowsD_map, Option.map_some, srtR_ranks W0 hw (fit_cd hb) (apart_cd am), List.map_map]
      rfl
    rw [e1]
    simp [e2]
    have pl : (plF ws am).length = am.length := by
      unfold plF
      rw [(isF_perm _ _).length_eq, cdsF_len]
    refine ⟨by omega, ?_⟩
    refine ok_lca (fun c => [.sh (.lst (ws.map D.str)), .sh (.lst (am.map prD)), .sh (.int (foldW 1 am)), a, b, .sh (.lst ((cdsF am).map fun c => .lst ((ranksF (foldW 1 am) ws c).map D.int))), d, e, .sh (.lst ((ranksF (foldW 1 am) ws c).map D.int))]) (fun c => .int c.1) (fun c hc => rfl) (fun c hc => ?_) h
    unfold ce__law_places_of_4
    have e3 : ixD (.lst ((ranksF (foldW 1 am) ws c).map D.int)) (.int (-1)) = some (.int c.1) := by
      have z : (ranksF (foldW 1 am) ws c).map D.int = (ws.map fun w => D.int (rankF (foldW 1 am) w c)) ++ [.int c.1] := by
        unfold ranksF
        rw [List.map_append, List.map_map]
        rfl
      rw [z]
      exact at_last
    simp [e3]
end S4

set_option Elab.async false
set_option linter.all false
set_option maxRecDepth 100000
set_option maxHeartbeats 4000000
/-! S4j2: the law's payments filled in the order of some keys. -/
namespace S4
open PySem L2 Mi P20 Sh
theorem lfilled_ok {ws : List Str} (hw : ∀ w ∈ ws, w ∈ keys8) (hwl : ws.length ≤ 100) {am : List (Int × Int)} (hb : Cbs am) (hl : am.length ≤ 100) {lo hi : List Int} (hlo : lo.length = am.length) (hhi : hi.length = am.length) {b : Int} {u : PuS} {P : D → PuS → Prop}
    (h : P (rwT (fillF hi ((plF ws am).map (·.1.toNat)) lo (b - lo.sum))) u) : Ok (mf__law_filled_by [.lst (ws.map D.str), .lst (am.map prD), .lst (lo.map D.int), .lst (hi.map D.int), .int b]) u P := by
  unfold mf__law_filled_by mb__law_filled_by
  simp
  refine ⟨_, s_sumI, _, rfl, ?_⟩
  refine places_of_ok hw hwl hb hl ?_
  refine ⟨_, rfl, ?_⟩
  generalize hfin : fillF hi ((plF ws am).map (·.1.toNat)) lo (b - lo.sum) = fin at h
  refine ok_loop (fun ds ρ u' => u' = u ∧ ∃ (cs : List Cd) (told : List Int) (rest : Int) (c1 c2 : Sd), ds = cs.map (fun c => D.int c.1) ∧ (∀ c ∈ cs, ∃ i : Nat, i < am.length ∧ c.1 = (i : Int)) ∧ told.length = am.length ∧ fillF hi (cs.map (·.1.toNat)) told rest = fin ∧
    ρ = [.sh (.lst (ws.map D.str)), .sh (.lst (am.map prD)), .sh (.lst (lo.map D.int)), .sh (.lst (hi.map D.int)), .sh (.int b), .ow (told.map D.int), .sh (.int rest), c1, c2]) ?_ ?_ _ _ _ ⟨rfl, plF ws am, lo, b - lo.sum, _, _, rfl, fun c hc => plF_mem hc, hlo, hfin, rfl⟩
  · rintro d ds ρ u' ⟨rfl, cs, told, rest, c1, c2, e, hcs, htl, hf, rfl⟩
    cases cs with
    | nil => cases e
    | cons c cs =>
      cases e
      obtain ⟨i, hi1, hi2⟩ := hcs c List.mem_cons_self
      refine ⟨_, rfl, ?_⟩
      unfold lb__law_filled_by_1
      obtain ⟨x, hx1, hx2⟩ : ∃ x, told[i]? = some x ∧ told.getD i 0 = x := ⟨told[i], List.getElem?_eq_getElem (by omega), by rw [List.getD_eq_getElem?_getD, List.getElem?_eq_getElem (by omega)]; rfl⟩
      obtain ⟨y, hy1, hy2⟩ : ∃ y, hi[i]? = some y ∧ hi.getD i 0 = y := ⟨hi[i], List.getElem?_eq_getElem (by omega), by rw [List.getD_eq_getElem?_getD, List.getElem?_eq_getElem (by omega)]; rfl⟩
      have g1 : atI (hi.map D.int) (i : Int) = some (.int y) := at_nat (k := i) (by rw [List.getElem?_map, hy1]; rfl)
      have g1' : ixD (.lst (hi.map D.int)) (.int (i : Int)) = some (.int y) := g1
      have g2 : atI (told.map D.int) (i : Int) = some (.int x) := at_nat (k := i) (by rw [List.getElem?_map, hx1]; rfl)
      have g3 : ixN told.length (i : Int) = some i := ixNn (by omega)
      have hst : ∀ v : Int, (told.map D.int).set i (.int v) = (told.set i v).map D.int := fun v => by rw [List.map_set]
      have hcs2 : ∀ c ∈ cs, ∃ i : Nat, i < am.length ∧ c.1 = (i : Int) := fun c q => hcs c (List.mem_cons_of_mem _ q)
      have ei : c.1.toNat = i := by omega
      rw [List.map_cons] at hf
      rw [ei] at hf
      have hf2 : fillF hi (cs.map (·.1.toNat)) (told.set i (told.getD i 0 + moreF hi told i rest)) (rest - moreF hi told i rest) = fin := hf
      unfold moreF at hf2
      rw [hx2, hy2] at hf2
      clear hf
      simp [hi2, g1, g1', g2, g3]
      exact ⟨cs, rfl, fun a a1 b1 hm => hcs2 _ hm, _, by rw [List.length_set]; exact htl, hf2, hst _⟩
  · rintro ρ u' ⟨rfl, cs, told, rest, c1, c2, e, hcs, htl, hf, rfl⟩
    cases cs with
    | cons c cs => cases e
    | nil =>
      simp
      have e : told = fin := hf
      rw [e]
      exact h
/-- what each card can pay in a day -/
def dayF (am : List (Int × Int)) : List Int := am.map fun q => if q.2 < q.1 then q.2 else q.1
def zerF (am : List (Int × Int)) : List Int := am.map fun _ => 0
/-- what a drain rule tells -/
def drF (ws : List Str) (am : List (Int × Int)) (b : Int) : List Int := fillF (dayF am) ((plF ws am).map (·.1.toNat)) (zerF am) b
theorem zer_sum : ∀ am : List (Int × Int), (zerF am).sum = 0
  | [] => rfl
  | q :: am => by
    show 0 + (zerF am).sum = 0
    rw [zer_sum am]
    rfl
theorem due_drain_ok {ws : List Str} (hw : ∀ w ∈ ws, w ∈ keys8) (hwl : ws.length ≤ 100) {am : List (Int × Int)} (hb : Cbs am) (hl : am.length ≤ 100) {b : Int} {u : PuS} {P : D → PuS → Prop}
    (h : P (rwT (drF ws am b)) u) : Ok (mf__law_due_of [.str "drain", .lst (ws.map D.str), .lst (am.map prD), .int b]) u P := by
  unfold mf__law_due_of mb__law_due_of
  have q1 : eqMD (.str (Str.ofString "drain")) (.str (Str.ofString "units")) = some (.bl false) := str_eqD (by unfold As; decide) (by unfold As; decide)
  have q2 : eqMD (.str (Str.ofString "drain")) (.str (Str.ofString "spare")) = some (.bl false) := str_eqD (by unfold As; decide) (by unfold As; decide)
  simp [q1, q2]
  refine ⟨by omega, ?_⟩
  refine ok_lca (fun q => [.sh (.str (Str.ofString "drain")), .sh (.lst (ws.map D.str)), .sh (.lst (am.map prD)), .sh (.int b), .un, .un, .sh (prD q)]) (fun q => .int 0) (fun q hq => rfl) (fun q hq => by simp) ?_
  refine ⟨by omega, ?_⟩
  refine ok_lca (fun q => [.sh (.str (Str.ofString "drain")), .sh (.lst (ws.map D.str)), .sh (.lst (am.map prD)), .sh (.int b), .un, .un, .sh (prD q)]) (fun q => .int (if q.2 < q.1 then q.2 else q.1)) (fun q hq => rfl) (fun q hq => ?_) ?_
  · have e : minTD [prD q] = some (.int (if q.2 < q.1 then q.2 else q.1)) := by
      show some (D.int (PySem.W.minOf q.1 [q.2])) = _
      have z : PySem.W.minOf q.1 [q.2] = if q.2 < q.1 then q.2 else q.1 := by
        show PySem.W.minOf (if PySem.W.DatumOrd.lt q.2 q.1 = true then q.2 else q.1) [] = _
        have hl : (PySem.W.DatumOrd.lt q.2 q.1 = true) ↔ q.2 < q.1 := by
          show decide (q.2 < q.1) = true ↔ _
          exact decide_eq_true_iff
        by_cases k : q.2 < q.1
        · rw [if_pos (hl.mpr k), if_pos k]; rfl
        · rw [if_neg (fun z => k (hl.mp z)), if_neg k]; rfl
      rw [z]
    simp [e]
  · have e1 : (am.map fun q => D.int 0) = (zerF am).map D.int := by unfold zerF; rw [List.map_map]; rfl
    have e2 : (am.map fun q => D.int (if q.2 < q.1 then q.2 else q.1)) = (dayF am).map D.int := by unfold dayF; rw [List.map_map]; rfl
    rw [e1, e2]
    refine lfilled_ok hw hwl hb hl (by unfold zerF; simp) (by unfold dayF; simp) ?_
    rw [zer_sum, Int.sub_zero]
    exact h
end S4







set_option Elab.async false
set_option linter.all false
set_option maxRecDepth 100000
set_option maxHeartbeats 4000000
namespace S2
open PySem L2 Mi P20 Sh
/-- found so far: a number or None -/
def opI : Option Int → D := opD D.int
end S2



set_option Elab.async false
set_option linter.all false
set_option maxRecDepth 100000
set_option maxHeartbeats 4000000
namespace Sh
open PySem L2 Mi P20
theorem check_bill_ok {x : Int} (hx : 0 ≤ x) {u : PuS} {P : D → PuS → Prop} (h : P .non u) : Ok (mf_check_bill [.int x]) u P := by
  unfold mf_check_bill mb_check_bill
  simp [hx]
  exact h
theorem sum_of_one {row : List Int} {u : PuS} {P : D → PuS → Prop} (h : P (.int (sumN row 1)) u) : Ok (mf_Form_sum_of [formD row, .int 1]) u P := by
  unfold mf_Form_sum_of mb_Form_sum_of formD
  rw [ok_fn]
  refine seq_go fun K R hK hR => ?_
  simp
  refine hK _ _ ?_
  clear hK hR K R
  have ec : cutD (row.map D.int) none (some 1) = (row.take 1).map D.int := by rw [show (1 : Int) = ((1 : Nat) : Int) from rfl, cut_to, List.map_take]
  have es : (row.take 1).sum = sumN row 1 := by
    cases row with
    | nil => rfl
    | cons x r =>
      show x + 0 = x + sumN r 0
      cases r <;> rfl
  simp [ec]
  rw [← List.map_take, s_sumT, es]
  exact ⟨_, rfl, h⟩
theorem check_payable_ok {ps : List (Str × (Int × Int))} (ha : Am (ps.map Prod.snd)) (hl : ps.length ≤ 1000) {x : Int} (hx : 0 ≤ x) (h1 : x ≤ FF (ps.map Prod.snd) 1) {u : PuS} {P : D → PuS → Prop} (h : P .non u) : Ok (mf_check_payable [walD ps, .int x]) u P := by
  unfold mf_check_payable mb_check_payable
  rw [ok_fn]
  refine seq_go fun K R hK hR => ?_
  simp
  refine hK _ _ ?_
  clear hK hR K R
  refine seq_go fun K R hK hR => ?_
  simp
  refine check_bill_ok hx ?_
  refine hK _ _ ?_
  clear hK hR K R
  simp
  refine ⟨_, _, rfl, ?_⟩
  refine wform_ok ha hl fun row hr => ?_
  refine ⟨_, _, rfl, ?_⟩
  refine ⟨by decide, ?_⟩
  refine sum_of_one (row := row) ?_
  have e1 : ¬ sumN row 1 < x := by rw [hr.sum ha 1]; omega
  simp [e1]
  exact h
theorem all_is (bs : List Bool) : allD [.lst (bs.map D.bl)] = some (.bl (bs.all id)) := by
  show (blsD (bs.map D.bl)).map (fun bs => D.bl (bs.all id)) = _
  rw [blsD_map]
  rfl
end Sh

set_option Elab.async false
set_option linter.all false
set_option maxRecDepth 100000
set_option maxHeartbeats 4000000
/-! S4da: the rules' objects; what a drain rule tells when called. -/
namespace S4
open PySem L2 Mi P20 Sh
def rulD (k : Str) (ws : List Str) : D := .obj k ["wishes"] [.tup (ws.map D.str)]
theorem pts_day {am : List (Int × Int)} (hb : Cbs am) : pts am 0 = dayF am := by
  unfold pts dayF
  refine List.map_congr_left fun q hq => ?_
  obtain ⟨h1, _, h3, _⟩ := hb q hq
  unfold wor
  split <;> omega
theorem pay_drain_ok {ws : List Str} (hw : ∀ w ∈ ws, w ∈ keys8) {am : List (Int × Int)} (hb : Cbs am) (hl : am.length ≤ 1000) {b : Int} {u : PuS} {P : D → PuS → Prop}
    (h : P (rwT (drF ws am b)) u) : Ok (mf_payment_by [.str "drain", .tup (ws.map D.str), .tup (am.map prD), .int b]) u P := by
  unfold mf_payment_by mb_payment_by
  have q1 : eqMD (.str (Str.ofString "drain")) (.str (Str.ofString "units")) = some (.bl false) := str_eqD (by unfold As; decide) (by unfold As; decide)
  have q2 : eqMD (.str (Str.ofString "drain")) (.str (Str.ofString "spare")) = some (.bl false) := str_eqD (by unfold As; decide) (by unfold As; decide)
  have q3 : mulD (.lst [.int 0]) (.int (am.length : Nat)) = some (.lst ((zerF am).map D.int)) := by
    show (if (am.length : Int) ≤ 100000 ∧ -100000 ≤ (am.length : Int) ∧ [D.int 0].length * ((am.length : Nat) : Int).toNat ≤ 100000 then some (D.lst (List.replicate ((am.length : Nat) : Int).toNat [D.int 0]).flatten) else none) = _
    rw [if_pos (by simp; omega)]
    have e : ∀ l : List (Int × Int), (List.replicate l.length [D.int 0]).flatten = (zerF l).map D.int := fun l => by
      induction l with
      | nil => rfl
      | cons x l ih =>
        show [D.int 0] ++ (List.replicate l.length [D.int 0]).flatten = _
        rw [ih]
        rfl
    rw [Int.toNat_natCast, e am]
  simp [q1, q2, q3]
  refine parts_ok (am := am) hl (k := 0) (by omega) ?_
  rw [pts_day hb]
  refine filled_by_ok hw hb.cd hl (by unfold zerF; simp) (by unfold dayF; simp) ?_
  rw [zer_sum, Int.sub_zero]
  exact h
theorem share_drain_ok {ws : List Str} (hw : ∀ w ∈ ws, w ∈ keys8) {am : List (Int × Int)} (hb : Cbs am) (hl : am.length ≤ 1000) {b : Int} {u : PuS} {P : D → PuS → Prop}
    (h : P (rwT (drF ws am b)) u) : Ok (mf_Drain_share [rulD "Drain" ws, .tup (am.map prD), .int b]) u P := by
  unfold mf_Drain_share mb_Drain_share
  have q1 : conD (Str.ofString "Drain") (Str.ofString "KIND") (.str (Str.ofString "drain")) (rulD "Drain" ws) = some (.str "drain") := rfl
  have q2 : fldD (Str.ofString "Drain") [Str.ofString "wishes"] 0 (rulD "Drain" ws) = some (.tup (ws.map D.str)) := rfl
  simp [q1, q2]
  exact pay_drain_ok hw hb hl h
theorem call_drain_ok {ws : List Str} (hw : ∀ w ∈ ws, w ∈ keys8) {ps : List (Str × (Int × Int))} (ha : Am (ps.map Prod.snd)) (hb : Cbs (ps.map Prod.snd)) (hl : ps.length ≤ 1000) {b : Int} (hx : 0 ≤ b) (h1 : b ≤ FF (ps.map Prod.snd) 1) {u : PuS} {P : D → PuS → Prop}
    (h : P (rwT (drF ws (ps.map Prod.snd) b)) u) : Ok (mf_Drain___call__ [rulD "Drain" ws, walD ps, .int b]) u P := by
  unfold mf_Drain___call__ mb_Drain___call__
  have q1 : conD (Str.ofString "Drain") (Str.ofString "KIND") (.str (Str.ofString "drain")) (rulD "Drain" ws) = some (.str "drain") := rfl
  have q2 : eqMD (.str (Str.ofString "drain")) (.str (Str.ofString "units")) = some (.bl false) := str_eqD (by unfold As; decide) (by unfold As; decide)
  simp [q1, q2]
  refine check_payable_ok ha hl hx h1 ?_
  refine ⟨_, _, rfl, by decide, ?_⟩
  refine amounts_ok hl ?_
  exact share_drain_ok hw hb (by rw [List.length_map]; exact hl) h
theorem row_of_ok {ns : List Int} (h0 : ∀ n ∈ ns, 0 ≤ n) (hl : ns.length ≤ 1000) {u : PuS} {P : D → PuS → Prop} (h : P (.bl true) u) : Ok (mf__law_is_row_of [rwT ns]) u P := by
  unfold mf__law_is_row_of mb__law_is_row_of rwT
  simp
  refine ⟨.bl true, rfl, ?_⟩
  simp only [onB_bl, br_t]
  refine ⟨by omega, ?_⟩
  refine ok_lca (fun n => [.sh (.tup (ns.map D.int)), .sh (.int n)]) (fun n => .bl true) (fun n hn => rfl) (fun n hn => ?_) ?_
  · have := h0 n hn
    unfold ce__law_is_row_of_1 mf__law_is_whole mb__law_is_whole
    simp [this]
    refine ⟨.bl true, rfl, ?_⟩
    simp only [onB_bl, br_t]
    exact ⟨.bl false, rfl, by simp⟩
  · have e : (ns.map fun n => D.bl true) = (ns.map fun _ => true).map D.bl := by rw [List.map_map]; rfl
    have e2 : (ns.map fun _ => true).all id = true := by simp
    rw [e]
    refine ⟨_, all_is _, ?_⟩
    rw [e2]
    exact h
theorem told_drain_ok {ws : List Str} (hw : ∀ w ∈ ws, w ∈ keys8) {ps : List (Str × (Int × Int))} (ha : Am (ps.map Prod.snd)) (hb : Cbs (ps.map Prod.snd)) (hl : ps.length ≤ 1000) {b : Int} (hx : 0 ≤ b) (h1 : b ≤ FF (ps.map Prod.snd) 1) {due : D} (hd : tupD [due] = some (rwT (drF ws (ps.map Prod.snd) b))) {u : PuS} {P : D → PuS → Prop}
    (h : P (.bl true) u) : Ok (mf__law_is_told [rulD "Drain" ws, walD ps, .int b, due]) u P := by
  unfold mf__law_is_told mb__law_is_told
  have call : ∀ (d : Sd) (v : PuS) (Q : D → PuS → Prop), Q (rwT (drF ws (ps.map Prod.snd) b)) v → Ok (mCls (mVar 0) (by3 (Str.ofString "Drain") (Str.ofString "Units") (Str.ofString "Spare")
      (mCallO (Str.ofString "Drain") 2 mf_Drain___call__ (mVar 0) (mCons (mVar 1) (mCons (mVar 2) mNil)))
      (mCallO (Str.ofString "Units") 2 mf_Units___call__ (mVar 0) (mCons (mVar 1) (mCons (mVar 2) mNil)))
      (mCallO (Str.ofString "Spare") 2 mf_Spare___call__ (mVar 0) (mCons (mVar 1) (mCons (mVar 2) mNil))) mOff)
      [Sd.sh (rulD (Str.ofString "Drain") ws), Sd.sh (walD ps), Sd.sh (.int b), Sd.sh due, d]) v Q := by
    intro d v Q hQ
    refine (ok_cls (k := "Drain") (ks := ["wishes"]) (ds := [.tup (ws.map D.str)]) (u1 := v) rfl).mpr ?_
    unfold by3
    rw [if_pos rfl, ok_callO]
    simp
    exact ⟨_, _, rfl, call_drain_ok hw ha hb hl hx h1 hQ⟩
  have nn : ∀ n ∈ drF ws (ps.map Prod.snd) b, 0 ≤ n := fun n hn => by
    obtain ⟨i, hi⟩ := List.mem_iff_getElem?.mp hn
    refine (fillF_in _ _ _ _ hx (fun j x hj => ?_) i n hi).1
    unfold zerF at hj
    rw [List.getElem?_map] at hj
    cases e : (ps.map Prod.snd)[j]? with
    | none => rw [e] at hj; cases hj
    | some q =>
      rw [e] at hj
      cases hj
      have e2 : (dayF (ps.map Prod.snd)).getD j 0 = if q.2 < q.1 then q.2 else q.1 := by
        unfold dayF
        rw [List.getD_eq_getElem?_getD, List.getElem?_map, e]
        rfl
      rw [e2]
      obtain ⟨b0, _, l0, _⟩ := hb q (List.mem_of_getElem? e)
      show (0 : Int) ≤ 0 ∧ (0 : Int) ≤ _
      split <;> omega
  have ll : (drF ws (ps.map Prod.snd) b).length ≤ 1000 := by
    unfold drF
    rw [fillF_len]
    unfold zerF
    simp
    exact hl
  have eqq : eqMD (rwT (drF ws (ps.map Prod.snd) b)) (rwT (drF ws (ps.map Prod.snd) b)) = some (.bl true) := by
    unfold rwT
    rw [s_eqT]
    simp
  simp
  refine call _ _ _ ?_
  refine row_of_ok nn ll ?_
  simp only [onB_bl, br_t]
  refine ⟨_, hd, _, eqq, ?_⟩
  simp only [onB_bl, br_t]
  exact call _ _ _ ⟨_, eqq, h⟩
end S4

set_option Elab.async false
set_option linter.all false
set_option maxRecDepth 100000
set_option maxHeartbeats 4000000
/-! S4db: the drawn things of the laws on rules. -/
namespace S4
open PySem L2 Mi P20 Sh
theorem amounts_drawn_ok {u : PuS} (hu : Pu u) {P : D → PuS → Prop} (h : ∀ am u', Am am → Sm am → am.length ≤ 12 → Pu u' → P (.lst (am.map prD)) u') : Ok (mf__law_drawn_amounts [.pur]) u P := by
  unfold mf__law_drawn_amounts mb__law_drawn_amounts
  simp
  refine draw_ok (by decide) hu fun r u1 h0 h6 hu1 => ?_
  simp
  refine brd (fun _ => ?_) (fun _ => ?_)
  · exact small_ok (m := 4) (t := 12) hu1 (by omega) (by omega) fun am u2 ha hs hl hu2 => h am u2 ha hs (by omega) hu2
  · refine pick_ok (xs := [.int 1, .int 2, .int 3, .int 4, .int 12]) (by decide) hu1 fun x u2 hx hu2 => ?_
    obtain ⟨m, rfl, hm⟩ : ∃ m : Nat, x = .int m ∧ m ≤ 12 := by
      simp at hx
      rcases hx with rfl | rfl | rfl | rfl | rfl
      · exact ⟨1, rfl, by decide⟩
      · exact ⟨2, rfl, by decide⟩
      · exact ⟨3, rfl, by decide⟩
      · exact ⟨4, rfl, by decide⟩
      · exact ⟨12, rfl, by decide⟩
    exact great_ok (m := m) hu2 (by omega) fun am u3 ha hs hl hu3 => h am u3 ha hs (by omega) hu3
theorem bill_drawn_ok {am : List (Int × Int)} (ha : Am am) (hs : Sm am) (hl : am.length ≤ 12) {m : Int} (hm : 0 ≤ m) {u : PuS} (hu : Pu u) {P : D → PuS → Prop} (h : ∀ b u', 0 ≤ b → b ≤ FF am 1 → b ≤ m → Pu u' → P (.int b) u') : Ok (mf__law_drawn_bill [.pur, .lst (am.map prD), .int m]) u P := by
  unfold mf__law_drawn_bill mb__law_drawn_bill
  obtain ⟨f1, f0⟩ := FF_le ha hs 1
  simp
  refine room_ok (k := 1) (by omega) (by omega) ?_
  simp
  generalize hr : (if m < FF am 1 then m else FF am 1) = r
  have r0 : 0 ≤ r ∧ r ≤ FF am 1 ∧ r ≤ m := by rw [← hr]; split <;> omega
  refine draw_ok (by decide) hu fun d u1 d0 d1 hu1 => ?_
  simp
  refine brd (fun h2 => ?_) (fun h2 => ?_)
  · have hd : d = 0 ∨ d = 1 := by omega
    rcases hd with rfl | rfl
    · exact ⟨_, rfl, h _ _ (by omega) (by omega) hm hu1⟩
    · refine ⟨_, rfl, h _ _ ?_ ?_ ?_ hu1⟩ <;> (split <;> omega)
  refine brd (fun h4 => ?_) (fun h4 => ?_)
  · have hd : d = 2 ∨ d = 3 := by omega
    rcases hd with rfl | rfl
    · exact ⟨_, rfl, h _ _ (by omega) (by omega) (by omega) hu1⟩
    · refine ⟨_, rfl, h _ _ ?_ ?_ ?_ hu1⟩ <;> (split <;> omega)
  · refine large_ok hu1 fun l u2 l0 l1 hu2 => ?_
    have q1 := Int.emod_nonneg l (show r + 1 ≠ 0 by omega)
    have q2 := Int.emod_lt_of_pos l (show 0 < r + 1 by omega)
    refine ⟨.int l, rfl, .int (l % (r + 1)), ?_, h _ _ q1 (by omega) (by omega) hu2⟩
    show (if decide (0 < r + 1) = true then some (D.int (l % (r + 1))) else none) = _
    rw [if_pos (decide_eq_true (by omega))]
theorem erase_perm {α : Type} : ∀ (rs : List α) (j : Nat) (hj : j < rs.length), (rs[j] :: rs.eraseIdx j).Perm rs
  | [], _, hj => absurd hj (by simp)
  | r :: rs, 0, _ => List.Perm.refl _
  | r :: rs, j + 1, hj => by
    have hj2 : j < rs.length := by simpa using hj
    have h := erase_perm rs j hj2
    exact (List.Perm.swap r rs[j] (rs.eraseIdx j)).trans (h.cons r)
theorem erase_map {α β : Type} (f : α → β) : ∀ (rs : List α) (j : Nat), (rs.map f).eraseIdx j = (rs.eraseIdx j).map f
  | [], _ => rfl
  | r :: rs, 0 => rfl
  | r :: rs, j + 1 => by
    show f r :: (rs.map f).eraseIdx j = f r :: (rs.eraseIdx j).map f
    rw [erase_map f rs j]
/-- keys drawn: different ones -/
theorem keys_drawn_ok {n : Nat} (hn : n ≤ 8) {u : PuS} (hu : Pu u) {P : D → PuS → Prop} (h : ∀ (ws : List Str) u', ws.length = n → ws.Nodup → (∀ w ∈ ws, w ∈ keys8) → Pu u' → P (.lst (ws.map D.str)) u') : Ok (mf__law_drawn_keys [.pur, .int n]) u P := by
  unfold mf__law_drawn_keys mb__law_drawn_keys
  simp
  refine ⟨by omega, ?_⟩
  refine ok_range 0 n (fun k ρ v => Pu v ∧ ∃ (fd rs : List Str) (a : Sd), (fd ++ rs).Perm keys8 ∧ fd.length = k ∧ ρ = [.sh .pur, .sh (.int n), .ow (rs.map D.str), .ow (fd.map D.str), a]) ?_ ?_ _ _ ⟨hu, [], keys8, _, List.Perm.refl _, rfl, rfl⟩
  · rintro k ρ v hk ⟨hv, fd, rs, a, pm, hf, rfl⟩
    have hl : fd.length + rs.length = 8 := by
      have := pm.length_eq
      rw [List.length_append] at this
      exact this
    refine ⟨_, rfl, ?_⟩
    unfold lb__law_drawn_keys_1
    simp
    refine draw_ok (by omega) hv fun d u1 d0 d1 hu1 => ?_
    obtain ⟨j, rfl⟩ : ∃ j : Nat, d = (j : Int) := ⟨d.toNat, by omega⟩
    have hj : j < rs.length := by omega
    have p1 : popIx (.int (j : Int)) rs.length = some j := by
      show (if 0 ≤ (j : Int) ∧ (j : Int) < (rs.length : Int) ∧ rs.length ≤ 100000 then some (j : Int).toNat else none) = _
      rw [if_pos (by omega)]
      rfl
    have p2 : rs[j]? = some rs[j] := List.getElem?_eq_getElem hj
    have pm2 : (fd ++ [rs[j]] ++ rs.eraseIdx j).Perm keys8 := by
      refine List.Perm.trans ?_ pm
      rw [List.append_assoc]
      refine List.Perm.append_left fd ?_
      exact erase_perm rs j hj
    simp [p1, p2]
    refine ⟨by omega, hu1, fd ++ [rs[j]], rs.eraseIdx j, pm2, by simp [hf], ?_, by simp⟩
    exact erase_map D.str rs j
  · rintro ρ v ⟨hv, fd, rs, a, pm, hf, rfl⟩
    simp
    have nd : (fd ++ rs).Nodup := pm.nodup_iff.mpr (by decide)
    exact h fd v hf (List.nodup_append.mp nd).1 (fun w hw => pm.mem_iff.mp (List.mem_append_left _ hw)) hv
end S4

set_option Elab.async false
set_option linter.all false
set_option maxRecDepth 100000
set_option maxHeartbeats 4000000
/-! S4dc: rules made. -/
namespace S4
open PySem L2 Mi P20 Sh
/-- keys as a rule may have them -/
structure Kys (ws : List Str) : Prop where
  ne : ws ≠ []
  nd : ws.Nodup
  mem : ∀ w ∈ ws, w ∈ keys8
  len : ws.length ≤ 100
theorem nin_strsT (x : Str) (ns : List Str) : ninD (.str x) (.tup (ns.map D.str)) = some (.bl (!decide (x ∈ ns))) := by
  have : inD (.str x) (.tup (ns.map D.str)) = some (.bl (decide (x ∈ ns))) := by simp
  unfold inD at this
  unfold ninD
  cases h : inA (.str x) (.tup (ns.map D.str)) with
  | none => rw [h] at this; cases this
  | some b =>
    rw [h] at this
    have : b = decide (x ∈ ns) := by simpa using this
    subst this
    rfl
theorem nd_inj {α : Type} {l : List α} (h : l.Nodup) {i j : Nat} (hi : i < l.length) (hj : j < l.length) (e : l[i] = l[j]) : i = j := by
  have key := List.pairwise_iff_getElem.mp h
  rcases Nat.lt_trichotomy i j with q | q | q
  · exact absurd e (key i j hi hj q)
  · exact q
  · exact absurd e.symm (key j i hj hi q)
theorem as8 {w : Str} (hw : w ∈ keys8) : As w := by
  have hk : w = "most" ∨ w = "least" ∨ w = "wide" ∨ w = "narrow" ∨ w = "long" ∨ w = "short" ∨ w = "early" ∨ w = "late" := by simpa [keys8] using hw
  rcases hk with rfl | rfl | rfl | rfl | rfl | rfl | rfl | rfl <;> (unfold As; decide)
theorem lay_strs : ∀ ws : List Str, (∀ w ∈ ws, As w) → PyData.canLayAll0 (ws.map PyData.str) = true ∧ PyData.depthAll (ws.map PyData.str) = 0
  | [], _ => ⟨rfl, rfl⟩
  | w :: ws, h => by
    obtain ⟨h1, h2⟩ := lay_strs ws fun v q => h v (List.mem_cons_of_mem _ q)
    have e1 : PyData.canLay0 (.str w) = true := (h w List.mem_cons_self).ok
    constructor
    · rw [List.map_cons]
      unfold PyData.canLayAll0
      rw [e1, h1]
      rfl
    · rw [List.map_cons, PyData.depthAll, h2]
      rfl
theorem keys_ne {ws : List Str} (hne : ws ≠ []) (h : ∀ w ∈ ws, As w) : eqMD (.tup (ws.map D.str)) (.tup []) = some (.bl false) := by
  obtain ⟨h1, h2⟩ := lay_strs ws h
  have sh : SeqAt.shaped (.tuple (ws.map PyData.str)) = true := by
    show (PyData.canLayAll0 (ws.map PyData.str) && decide (PyData.depthAll (ws.map PyData.str) + 1 ≤ 64)) = true
    rw [h1, h2]
    rfl
  unfold eqMD eqD
  have e1 : toPD (.tup (ws.map D.str)) = some (.tuple (ws.map PyData.str)) := by
    show (toPDs _).map PyData.tuple = _
    rw [S1.toPDs_strs]
    rfl
  have e0 : toPD (.tup []) = some (.tuple []) := rfl
  rw [e1, e0]
  show Option.map _ (if _ then some (PyData.eqvAll (ws.map PyData.str) []) else none) = _
  rw [if_pos ⟨sh, rfl⟩]
  cases ws with
  | nil => exact absurd rfl hne
  | cons a l => simp [PyData.eqvAll]
theorem wrong_key_ok {ws : List Str} (h : Kys ws) {u : PuS} {P : D → PuS → Prop} (pn : P .non u) : Ok (mf_wrong_key [.tup (ws.map D.str)]) u P := by
  have hl := h.len
  unfold mf_wrong_key mb_wrong_key
  simp
  refine ok_list (enumD (ws.map D.str)) (fun k ρ v => v = u ∧ ∃ a b : Sd, ρ = [.sh (.tup (ws.map D.str)), a, b]) ?_ ?_ _ _ ⟨rfl, _, _, rfl⟩
  · rintro k d ρ v hd ⟨rfl, a, b, rfl⟩
    obtain ⟨x, hx, rfl⟩ := enumD_at hd
    rw [List.getElem?_map] at hx
    cases hq : ws[k]? with
    | none => rw [hq] at hx; cases hx
    | some w =>
      rw [hq] at hx
      cases hx
      refine ⟨_, rfl, ?_⟩
      unfold lb_wrong_key_1
      have hw := h.mem w (List.mem_of_getElem? hq)
      have i1 := nin_strsT w keys8
      rw [decide_eq_true hw] at i1
      simp
      refine ⟨.bl true, rfl, ?_⟩
      simp only [onB_bl, br_t]
      refine ⟨_, i1, ?_⟩
      simp only [onB_bl, Bool.not_true, br_f]
      have ni : w ∉ ws.take k := fun hm => by
        obtain ⟨j, hj⟩ := List.mem_iff_getElem?.mp hm
        rw [List.getElem?_take] at hj
        split at hj
        · rename_i hjk
          obtain ⟨a1, a2⟩ := List.getElem?_eq_some_iff.mp hj
          obtain ⟨b1, b2⟩ := List.getElem?_eq_some_iff.mp hq
          have := (nd_inj h.nd a1 b1 (a2.trans b2.symm))
          omega
        · cases hj
      have i2 := in_strsT w (ws.take k)
      rw [decide_eq_false ni, List.map_take] at i2
      rw [cut_to]
      exact ⟨_, i2, by simp⟩
  · rintro ρ v ⟨rfl, a, b, rfl⟩
    simp
    have e := keys_ne h.ne fun w hw => as8 (h.mem w hw)
    exact ⟨_, e, by simp; exact pn⟩
end S4
namespace S4
open PySem L2 Mi P20 Sh
theorem init_drain_ok {ws : List Str} (h : Kys ws) {u : PuS} {P : List Str × List D → PuS → Prop} (k : P (["wishes"], [.tup (ws.map D.str)]) u) : Ok (mf_Drain___init__ (ws.map D.str)) u P := by
  unfold mf_Drain___init__ mf_Drain___base__
  show Ok (mInit 3 (Str.ofString "Drain") mb_Drain___base__ [.tup (ws.map D.str)]) u P
  unfold mb_Drain___base__
  have e : startI 3 (Str.ofString "Drain") [.tup (ws.map D.str)] = [.oi "Drain" [] [], .sh (.tup (ws.map D.str)), .un] := rfl
  simp [e]
  refine wrong_key_ok h ?_
  exact ⟨.bl false, rfl, by simp; exact ⟨_, _, ⟨rfl, rfl⟩, by decide, by decide, k⟩⟩
end S4
namespace S4
open PySem L2 Mi P20 Sh
/-- one key or two -/
theorem made_few_ok {ws : List Str} (h : Kys ws) (hl : ws.length ≤ 2) {u : PuS} {P : D → PuS → Prop} (k : P (rulD "Drain" ws) u) : Ok (mf__law_made_rule [.str "drain", .lst (ws.map D.str)]) u P := by
  unfold mf__law_made_rule mb__law_made_rule
  have q1 : eqMD (.str (Str.ofString "drain")) (.str (Str.ofString "drain")) = some (.bl true) := str_eqD (by unfold As; decide) (by unfold As; decide)
  match ws, h, hl, k with
  | [], h, _, _ => exact absurd rfl h.ne
  | [a], h, _, k =>
    have e0 : ixD (.lst [.str a]) (.int 0) = some (.str a) := at_nat (k := 0) rfl
    simp [q1, e0, ok_makeS]
    exact init_drain_ok h k
  | [a, b], h, _, k =>
    have e0 : ixD (.lst [.str a, .str b]) (.int 0) = some (.str a) := at_nat (k := 0) rfl
    have e1 : ixD (.lst [.str a, .str b]) (.int 1) = some (.str b) := at_nat (k := 1) rfl
    simp [q1, e0, e1, ok_makeS]
    exact init_drain_ok h k
end S4

set_option Elab.async false
set_option linter.all false
set_option maxRecDepth 100000
set_option maxHeartbeats 4000000
/-! S4dd: what changes nothing in what a drain rule tells, and so many times as great. -/
namespace S4
open PySem L2 Mi P20 Sh
theorem drF_cut {us vs : List Str} {w : Str} (hw : w = "early" ∨ w = "late") (am : List (Int × Int)) (b : Int) : drF (us ++ w :: vs) am b = drF (us ++ [w]) am b := by
  unfold drF plF
  rw [isF_cut (apart_cd am) hw]
theorem drF_more (us : List Str) (am : List (Int × Int)) (b : Int) : drF (us ++ [("early" : Str)]) am b = drF us am b := by
  unfold drF plF
  rw [isF_more]
def timA (t : Int) (am : List (Int × Int)) : List (Int × Int) := am.map fun q => (q.1 * t, q.2 * t)
theorem cds_times (t : Int) (am : List (Int × Int)) : cdsF (timA t am) = (cdsF am).map (timesF t) := by
  refine List.ext_getElem? fun i => ?_
  unfold cdsF timA
  rw [List.getElem?_mapIdx, List.getElem?_map, List.getElem?_map, List.getElem?_mapIdx]
  cases am[i]? <;> rfl
theorem pl_times {t : Int} (ht : 0 < t) (ws : List Str) (am : List (Int × Int)) : (plF ws (timA t am)).map (·.1.toNat) = (plF ws am).map (·.1.toNat) := by
  unfold plF
  rw [cds_times, isF_times ht, List.map_map]
  rfl
theorem day_times {t : Int} (ht : 0 < t) (am : List (Int × Int)) : dayF (timA t am) = (dayF am).map (· * t) := by
  unfold dayF timA
  rw [List.map_map, List.map_map]
  refine List.map_congr_left fun q hq => ?_
  show (if q.2 * t < q.1 * t then q.2 * t else q.1 * t) = (if q.2 < q.1 then q.2 else q.1) * t
  by_cases k : q.2 < q.1
  · rw [if_pos k, if_pos (Int.mul_lt_mul_of_pos_right k ht)]
  · rw [if_neg k, if_neg fun z => k (Int.lt_of_mul_lt_mul_right z (Int.le_of_lt ht))]
theorem zer_times (t : Int) (am : List (Int × Int)) : zerF (timA t am) = (zerF am).map (· * t) := by
  unfold zerF timA
  rw [List.map_map, List.map_map]
  refine List.map_congr_left fun q hq => ?_
  show (0 : Int) = 0 * t
  simp
theorem drF_times {t : Int} (ht : 0 < t) (ws : List Str) (am : List (Int × Int)) (b : Int) : drF ws (timA t am) (b * t) = (drF ws am b).map (· * t) := by
  unfold drF
  rw [pl_times ht, day_times ht, zer_times, fillF_times ht]
end S4

set_option Elab.async false
set_option linter.all false
set_option maxRecDepth 100000
set_option maxHeartbeats 4000000
/-! S4de: rules read from a text. -/
namespace S4
open PySem L2 Mi P20 Sh
abbrev ruT (k : Str) (ws : List Str) : Str := Txt.join " " (k :: ws)
theorem split_rule {ws : List Str} (h : ∀ w ∈ ws, w ∈ keys8) {k : Str} (hk : (32 : Nat) ∉ k.cps.toList) : Txt.split (ruT k ws) " " = k :: ws := by
  refine TL.split_join (s := 32) (S := []) (by decide) (by decide +kernel) (by simp) fun p hp => ?_
  rcases List.mem_cons.mp hp with rfl | hp
  · exact hk
  · have hk : p = "most" ∨ p = "least" ∨ p = "wide" ∨ p = "narrow" ∨ p = "long" ∨ p = "short" ∨ p = "early" ∨ p = "late" := by simpa [keys8] using h p hp
    rcases hk with rfl | rfl | rfl | rfl | rfl | rfl | rfl | rfl <;> decide
theorem rule_of_ok {ws : List Str} (h : Kys ws) (hl : (ruT "drain" ws).length ≤ 90000) {u : PuS} {P : D → PuS → Prop} (k : P (rulD "Drain" ws) u) : Ok (mf_rule_of [.str (ruT "drain" ws)]) u P := by
  unfold mf_rule_of mb_rule_of
  have es : splD (ruT "drain" ws) (.str (Str.ofString " ")) = some (.lst ((("drain" : Str) :: ws).map D.str)) := by
    have z : splD (ruT "drain" ws) (.str " ") = some (.lst ((Txt.split (ruT "drain" ws) " ").map D.str)) := if_pos ⟨by decide, hl⟩
    rw [split_rule h.mem (by decide)] at z
    exact z
  have q1 : eqMD (.str (Str.ofString "drain")) (.str (Str.ofString "drain")) = some (.bl true) := str_eqD (by unfold As; decide) (by unfold As; decide)
  have c1 : cconD (Str.ofString "Drain") (.str (Str.ofString "drain")) (.cls (Str.ofString "Drain")) = some (.str "drain") := rfl
  generalize ruT "drain" ws = x at es hl
  simp [es, q1, c1, ok_makeS]
  refine ⟨.bl true, rfl, ?_⟩
  simp only [onB_bl, br_t]
  rw [ok_S1]
  simp [es]
  have hc : slD (.lst (D.str (Str.ofString "drain") :: ws.map D.str)) (some 1) none = some (.lst (ws.map D.str)) := by
    rw [s_slL]
    have z := cut_from (xs := D.str (Str.ofString "drain") :: ws.map D.str) (k := 1)
    have z2 : cutD (D.str (Str.ofString "drain") :: ws.map D.str) (some 1) none = ws.map D.str := z
    rw [z2]
  have hix : ixD (.lst (D.str (Str.ofString "drain") :: ws.map D.str)) (.int 0) = some (.str (Str.ofString "drain")) := at_nat (k := 0) rfl
  have z2 : cutD (D.str (Str.ofString "drain") :: ws.map D.str) (some 1) none = ws.map D.str := cut_from (xs := D.str (Str.ofString "drain") :: ws.map D.str) (k := 1)
  rw [z2]
  refine wrong_key_ok h ?_
  refine ⟨.bl false, rfl, ?_⟩
  simp only [onB_bl, br_f]
  refine ⟨_, hix, _, q1, ?_⟩
  simp only [onB_bl, br_t]
  have := h.len
  refine ⟨by rw [List.length_map]; omega, ?_⟩
  exact init_drain_ok h k
theorem read_drain_ok {ws : List Str} (h : Kys ws) (hl : (ruT "drain" ws).length ≤ 90000) {u : PuS} {P : D → PuS → Prop} (k : P (rulD "Drain" ws) u) : Ok (mf_Rule_read [.str (ruT "drain" ws)]) u P := by
  unfold mf_Rule_read mb_Rule_read
  simp
  refine rule_of_ok h hl ?_
  exact ⟨.bl false, rfl, by simp; exact k⟩
end S4

set_option Elab.async false
set_option linter.all false
set_option maxRecDepth 100000
set_option maxHeartbeats 4000000
/-! S4n: papers: payments and days, by the law and by the checker. -/
namespace S4
open PySem L2 Mi P20 Sh TL
/-- plain things of a depth, of a width -/
def Pd (w : Nat) : Nat → D → Prop
  | 0, _ => False
  | n + 1, d => (tyN d).isSome = true ∧ ∀ ds, d = .tup ds → ds.length ≤ w ∧ ∀ x ∈ ds, Pd w n x
theorem Pd.ty {w n : Nat} {d : D} (h : Pd w n d) : (tyN d).isSome = true := by
  cases n with
  | zero => exact h.elim
  | succ n => exact h.1
theorem Pd.up {w v : Nat} (hw : w ≤ v) : ∀ {n m : Nat} {d : D}, n ≤ m → Pd w n d → Pd v m d
  | 0, _, _, _, h => h.elim
  | n + 1, m, d, hm, h => by
    obtain ⟨m, rfl⟩ : ∃ k, m = k + 1 := ⟨m - 1, by omega⟩
    refine ⟨h.1, fun ds e => ?_⟩
    obtain ⟨h1, h2⟩ := h.2 ds e
    exact ⟨by omega, fun x hx => Pd.up hw (by omega) (h2 x hx)⟩
theorem Pd.int {w n : Nat} {i : Int} : Pd w (n + 1) (.int i) := ⟨rfl, fun ds e => by cases e⟩
theorem Pd.tup {w n : Nat} {ds : List D} (hl : ds.length ≤ w) (h : ∀ x ∈ ds, Pd w n x) : Pd w (n + 1) (.tup ds) := ⟨rfl, fun xs e => by cases e; exact ⟨hl, h⟩⟩
theorem Pd.row {w n : Nat} {ns : List Int} (hl : ns.length ≤ w) : Pd w (n + 2) (.tup (ns.map D.int)) := Pd.tup (by simpa using hl) fun x hx => by
  obtain ⟨i, _, rfl⟩ := List.mem_map.mp hx
  exact Pd.int
end S4

set_option Elab.async false
set_option linter.all false
set_option maxRecDepth 100000
set_option maxHeartbeats 4000000
/-! S4o: sets of days, by the law and by the checker. -/
namespace S4
open PySem L2 Mi P20 Sh TL
def valE (evs : List Ev) (n : Int) : Int := match evs[n.toNat]? with
  | some (.inl x) => x
  | _ => 0
/-- days of bills -/
def Dys (evs : List Ev) (ns : List Int) : Prop := ∀ n ∈ ns, 0 ≤ n ∧ ∃ x, evs[n.toNat]? = some (.inl x)
theorem Dys.at {evs : List Ev} {ns : List Int} (h : Dys evs ns) {f : Ev → D} (hf : ∀ x, f (.inl x) = .int x) {n : Int} (hn : n ∈ ns) : atI (evs.map f) n = some (.int (valE evs n)) := by
  obtain ⟨h0, x, e⟩ := h n hn
  have e2 : valE evs n = x := by unfold valE; rw [e]
  have e3 : n = ((n.toNat : Nat) : Int) := by omega
  rw [e2, e3]
  exact at_nat (by rw [List.getElem?_map, e]; exact congrArg some (hf x))
def daysO (evs : List Ev) (ns : List Int) : Bool := ns.all (fun n => decide (n < evs.length)) && (ns.all (fun n => isB (evs.getD n.toNat (.inl 0))) && (ns.zip (ns.drop 1)).all fun q => decide (q.1 < q.2))
end S4

set_option Elab.async false
set_option linter.all false
set_option maxRecDepth 100000
set_option maxHeartbeats 4000000
/-! K8m: all ways of paying, gone through, plain. -/
namespace P20
open Mi L2
/-! ### the ways to pay one bill -/
def wstep (q : Int × Int) (fs : List (List Int × Int)) : List (List Int × Int) := fs.flatMap fun f => (List.range (min (min q.1 q.2) f.2 + 1).toNat).map fun i : Nat => (f.1 ++ [(i : Int)], f.2 - (i : Int))
def wall (fs : List (List Int × Int)) (am : List (Int × Int)) : List (List Int × Int) := am.foldl (fun fs q => wstep q fs) fs
def ways (am : List (Int × Int)) (x : Int) : List (List Int) := ((wall [([], x)] am).filter fun f => decide (f.2 = 0)).map Prod.fst
/-! ### states below given cards -/
/-- the same limits, balances no greater -/
def Below : List (Int × Int) → List (Int × Int) → Prop
  | [], [] => True
  | q :: am, s :: ss => (0 ≤ s.1 ∧ s.1 ≤ q.1 ∧ s.2 = q.2) ∧ Below am ss
  | _, _ => False
theorem Below.refl : ∀ {am : List (Int × Int)}, (∀ q ∈ am, 0 ≤ q.1) → Below am am
  | [], _ => trivial
  | q :: am, h => ⟨⟨h q List.mem_cons_self, Int.le_refl _, rfl⟩, Below.refl fun x hx => h x (List.mem_cons_of_mem _ hx)⟩
theorem Below.len : ∀ {am ss : List (Int × Int)}, Below am ss → ss.length = am.length
  | [], [], _ => rfl
  | p :: am, s :: ss, h => by rw [List.length_cons, List.length_cons, h.2.len]
  | [], _ :: _, h => by simp [Below] at h
  | _ :: _, [], h => by simp [Below] at h
theorem Below.lim : ∀ {am ss : List (Int × Int)} {m : Int}, Below am ss → (∀ q ∈ am, q.2 ≤ m) → ∀ q ∈ ss, q.2 ≤ m
  | [], [], m, _, _ => fun q h => by cases h
  | p :: am, s :: ss, m, h, hm => fun q hq => by
    rcases List.mem_cons.mp hq with rfl | hq
    · have := hm p List.mem_cons_self
      have := h.1.2.2
      omega
    · exact h.2.lim (fun x hx => hm x (List.mem_cons_of_mem _ hx)) q hq
  | [], _ :: _, _, h, _ => by simp [Below] at h
  | _ :: _, [], _, h, _ => by simp [Below] at h
theorem Below.am : ∀ {am ss : List (Int × Int)}, Below am ss → Am am → Am ss
  | [], [], _, _ => Am.nil
  | p :: am, s :: ss, h, ha => by
    have h1 := h.1
    have h2 := ha p List.mem_cons_self
    exact Am.cons ⟨by omega, by omega, by rw [h1.2.2]; omega⟩ (h.2.am ha.tail)
  | [], _ :: _, h, _ => by simp [Below] at h
  | _ :: _, [], h, _ => by simp [Below] at h
end P20


set_option Elab.async false
set_option linter.all false
set_option maxRecDepth 100000
set_option maxHeartbeats 4000000
/-! S4r: sets of days that bar, found; changes at drawn places. -/
namespace S4
open PySem L2 Mi P20 Sh TL
structure Wy (evs : List Ev) (k : Nat) (s : List Int) : Prop where
  len : s.length ≤ k
  lt : ∀ n ∈ s, n < k
  dys : Dys evs s
  asc : s.Pairwise (· < ·)
theorem Wy.up {evs : List Ev} {k : Nat} {s : List Int} (h : Wy evs k s) : Wy evs (k + 1) s := ⟨Nat.le_succ_of_le h.len, fun n hn => by have := h.lt n hn; omega, h.dys, h.asc⟩
theorem asc_zip : ∀ {s : List Int}, s.Pairwise (· < ·) → (s.zip (s.drop 1)).all (fun q => decide (q.1 < q.2)) = true
  | [], _ => rfl
  | [a], _ => rfl
  | a :: b :: r, h => by
    obtain ⟨h1, h2⟩ := List.pairwise_cons.mp h
    have ih := asc_zip h2
    show (decide (a < b) && ((b :: r).zip ((b :: r).drop 1)).all (fun q => decide (q.1 < q.2))) = true
    rw [ih, decide_eq_true (h1 b List.mem_cons_self)]
    rfl
theorem Wy.days {evs : List Ev} {s : List Int} (h : Wy evs evs.length s) : daysO evs s = true := by
  unfold daysO
  rw [asc_zip h.asc, Bool.and_true, Bool.and_eq_true_iff, List.all_eq_true, List.all_eq_true]
  refine ⟨fun n hn => decide_eq_true (h.lt n hn), fun n hn => ?_⟩
  obtain ⟨h0, x, e⟩ := h.dys n hn
  rw [List.getD_eq_getElem?_getD, e]
  rfl
end S4

set_option Elab.async false
set_option linter.all false
set_option maxRecDepth 100000
set_option maxHeartbeats 4000000
/-! S4v: the law's top; comprehensions whose tests draw; events with one changed. -/
namespace S4
open PySem L2 Mi P20 Sh TL
theorem cell_ok {ns : List Int} {k : Nat} (hk : k < 100) {u : PuS} {P : D → PuS → Prop} (h : ∀ n : Int, P (.int n) u) : Ok (mf__law_cell_at [.scr ns, .int k]) u P := by
  unfold mf__law_cell_at mb__law_cell_at
  rw [ok_fn]
  refine seq_go fun K R hK hR => ?_
  simp
  refine brd (fun hl => ?_) (fun hl => ?_)
  · have e5 : atI ns (k : Int) = some ns[k] := at_nat (List.getElem?_eq_getElem (by omega))
    simp [e5]
    exact hR (.rt _) _ (h _)
  refine hK _ _ ?_
  clear hK hR K R
  refine seq_go fun K R hK hR => ?_
  simp
  refine ⟨.inl (by omega), hK _ _ ?_⟩
  clear hK hR K R
  have e1 : cutD (ns.map D.int) none (some 3) = (ns.take 3).map D.int := by rw [show (3 : Int) = ((3 : Nat) : Int) from rfl, cut_to, List.map_take]
  rw [ok_seq, ok_for]
  simp only [ok_Iany, ok_sl, ok_var, s_vSh, ok_On, ok_Os, ok_C]
  refine ⟨_, rfl, _, rfl, _, s_scrSl, ?_⟩
  rw [e1]
  refine ⟨_, rfl, ?_⟩
  refine ok_list ((ns.take 3).map D.int) (fun _ ρ u' => u' = u ∧ ∃ (s : Int) (t : Sd), ρ = [.sh (.scr ns), .sh (.int k), .sh (.int s), t]) ?_ ?_ _ _ ⟨rfl, _, _, rfl⟩
  · rintro j d ρ u' e ⟨rfl, s, t, rfl⟩
    rw [List.getElem?_map] at e
    cases e2 : (ns.take 3)[j]? with
    | none => rw [e2] at e; cases e
    | some x =>
      rw [e2] at e
      cases e
      unfold lb__law_cell_at_1
      simp
  · rintro ρ u' ⟨rfl, s, t, rfl⟩
    simp
    exact h s
theorem pool_ok {n : Int} {u : PuS} {P : List D → PuS → Prop} (h : ∀ l : List Int, Pu (.real l) → P (l.map D.int) u) : Ok (mfL__law_made_pool [.int n]) u P := by
  unfold mfL__law_made_pool mbL__law_made_pool
  have e4 : ∀ n : Int, absD [.int n] = some (.int (if n < 0 then -n else n)) := fun n => rfl
  have fin : ∀ c : Int, P ([n % 2147483629, (n / 7 + 5) % 2147483587, c, 0].map D.int) u := fun c => h _ ⟨_, _, _, _, rfl, by omega, by omega, by omega, by omega⟩
  simp [e4]
  refine brd (fun _ => fin _) (fun _ => brd (fun _ => fin _) fun _ => fin 0)
/-- the law's end: all draws of all purses are right -/
theorem law_all {mfr : List D → M D} {N : Int} (hN : 2 ≤ N ∧ N ≤ 60) (h : ∀ u, Pu u → Ok (mfr [.pur]) u fun d _ => d = .bl true) (ns : List Int) (u : PuS) {P : D → PuS → Prop} (hP : ∀ u', P (.bl true) u') :
    Ok (mCB allD (mCons (mFz (mLcO [1] (mIof rng1 (mCons (mCB maxD (mCons (mC (.int 2)) (mCons (mCB minD (mCons (mCB lenD (mCons (mVar 0) (mNil))) (mCons (mC (.int N)) (mNil)))) (mNil)))) (mNil))) (mGn 1) (mYes) (mWith mfr (mCallL 1 mfL__law_made_pool (mCons (mCall 2 mf__law_cell_at (mCons (mVar 0) (mCons (mVar 1) (mNil)))) (mNil)))))) (mNil)) [.sh (.scr ns), .un]) u P := by
  simp
  obtain ⟨m, hm, hm2⟩ : ∃ m : Nat, (if 2 < (if N < (ns.length : Int) then N else (ns.length : Int)) then (if N < (ns.length : Int) then N else (ns.length : Int)) else 2) = (m : Int) ∧ m ≤ 60 := by
    refine ⟨(if 2 < (if N < (ns.length : Int) then N else (ns.length : Int)) then (if N < (ns.length : Int) then N else (ns.length : Int)) else 2).toNat, ?_, ?_⟩ <;> split <;> split <;> omega
  rw [hm]
  refine ⟨by omega, by rw [rngD_len]; omega, ?_⟩
  refine (ok_lc (fun _ => True) (fun d => d = .bl true) _ _ trivial ?_).mono ?_
  · intro d hd u _
    obtain ⟨i, hi, rfl⟩ : ∃ i : Nat, i < m ∧ d = .int i := by
      obtain ⟨i, hi, e⟩ := List.mem_iff_getElem.mp hd
      rw [rngD_len] at hi
      exact ⟨i, by omega, by rw [← e]; simp [rngD]⟩
    refine ⟨_, rfl, ?_⟩
    simp
    refine ok_with true ?_
    simp
    refine cell_ok (by omega) fun n => ?_
    refine pool_ok fun l hl => ⟨l, rfl, h _ hl⟩
  · rintro ys u' ⟨⟨hl, he⟩, -⟩
    have e1 : ys = (List.replicate ys.length true).map D.bl := by
      clear hl
      induction ys with
      | nil => rfl
      | cons a ys ih =>
        have := he a List.mem_cons_self
        subst this
        rw [List.length_cons, List.replicate_succ, List.map_cons, ← ih fun y hy => he y (List.mem_cons_of_mem _ hy)]
    refine ⟨.bl true, ?_, hP _⟩
    rw [e1]
    show (blsD ((List.replicate ys.length true).map D.bl)).map (fun bs => D.bl (bs.all id)) = _
    rw [blsD_map]
    simp
theorem law_fin {mf : List D → M D} (h : ∀ ns u, Ok (mf [.scr ns]) u fun d _ => d = .bl true) (ns : List Int) (o : HO) (_ : ns.length ≤ 63) : ∃ u', mf [.scr ns] (.idle o) = some (.bl true, u') := by
  obtain ⟨d, u', e, rfl⟩ := h ns (.idle o)
  exact ⟨u', e⟩
end S4



set_option Elab.async false
set_option linter.all false
set_option maxRecDepth 100000
set_option maxHeartbeats 4000000
/-! MiQh: comprehensions over tuples, str(object) while an error is handled. -/
namespace MiHot
open PySem PySem.Spec PyProof.Rows HotX
section
variable {prog : Program} {w : World} {A : Around} {E : Value → Shared → Prop} {s : Shared}
end
end MiHot
namespace Mi
open PySem PySem.Spec PyProof.Rows L2
variable [TB : Tabl]
section
variable {X : Cx} {a : Addr} {oe : Obj}
end
/-! ### mirrors -/
section
variable {X : Cx} {c : Cf} {a : Addr} {oe : Obj} {elt tg e : Expr} {ifs : List Expr} {scope : Scope} {own : List (Str × Nat)} {pos : Pos} {is : List Nat} {m me : ME} {g : MG} {mt : MT}
end
@[simp] theorem ok_Itup {m : ME} {ρ : Env} {u : PuS} {P : List D → PuS → Prop} : Ok (mItup m ρ) u P ↔ Ok (m ρ) u fun d u1 => ∃ ds, d = .tup ds ∧ P ds u1 := by
  unfold mItup
  rw [ok_bind]
  constructor
  · refine fun h => h.mono fun d u1 z => ?_
    rw [ok_lft] at z
    obtain ⟨ds, e, p⟩ := z
    cases d <;> first | (cases e; exact ⟨_, rfl, p⟩) | cases e
  · refine fun h => h.mono fun d u1 z => ?_
    obtain ⟨ds, rfl, p⟩ := z
    rw [ok_lft]
    exact ⟨_, rfl, p⟩
section
variable {X : Cx} {c : Cf} {k : Nat} {f C a : Addr} {oe : Obj} {fd : FuncData} {ps : List Str} {mf : List D → M D} {ck : Str} {e : Expr} {ma : ME} {pos : Pos}
end
end Mi


set_option Elab.async false
set_option linter.all false
set_option maxRecDepth 100000
set_option maxHeartbeats 4000000
namespace S1
open PySem L2 Mi P20 Sh TL
theorem log_big {n : Int} (h : 0 < n ∧ n < 1000000000000000000000000000000000000000000000000000000000000) : n.natAbs.log2 < 200 := by
  refine (Nat.log2_lt (by omega)).mpr ?_
  have : (2 : Nat) ^ 200 = 1606938044258990275541962092341162602522202993782792835301376 := by decide +kernel
  rw [this]
  omega
/-- a card's numbers -/
structure Cd (q : Int × Int) : Prop where
  l1 : 1 ≤ q.2
  b0 : 0 ≤ q.1
  le : q.1 ≤ 24 * q.2
  lb : q.2 ≤ big + 1
theorem strI {x : Nat} (h : x < 10 ^ 60) : strID [.int (x : Int)] = some (.str (nT x)) := by
  refine if_pos ?_
  rw [Int.natAbs_natCast]
  have h2 : x < 2 ^ 200 := Nat.lt_trans h (by decide)
  by_cases z : x = 0
  · subst z; decide
  · have := (Nat.log2_lt z).mpr h2
    omega
theorem e0 (s : Str) : Str.empty ++ s = s := TL.ext_tl (by rw [TL.tl_append]; rfl)
end S1


set_option Elab.async false
set_option linter.all false
set_option maxRecDepth 100000
set_option maxHeartbeats 4000000
namespace Sh
open PySem L2 Mi
def words : List Str := errV ++ errN ++ errA
end Sh


set_option Elab.async false
set_option linter.all false
set_option maxRecDepth 100000
set_option maxHeartbeats 4000000
namespace S1
open PySem L2 Mi Sh P20
/-- the odd values, and how they are told -/
def odd1 : List (D × Str) := [(.non, "None"), (.bl true, "True"), (.bl false, "False"), (.str "", "''"), (.str "3", "'3'"), (.str "ann", "'ann'"), (.tup [], "()"), (.tup [.int 3], "(3,)"), (.tup [.str "ann", .int 3], "('ann', 3)"), (.lst [], "[]"), (.lst [.int 3], "[3]"), (.dct [] [], "{}"), (.dct ["ann"] [.int 3], "{'ann': 3}"), (.int (-1), "-1"), (.int (-100000000000000000000), "-100000000000000000000")]
def form3 : D := .obj "Form" ["numbers"] [.tup [.int 3]]
def odd2 : List (D × Str) := [(cardD (3, 4), "Card 3/4"), (form3, "Form 3"), (walD [], "Wallet of 0 cards")]
def odds : List (D × Str) := odd1 ++ odd2
theorem odds_as : ∀ q ∈ odds, (q.2.cps.toList.all fun c => decide (c < 128)) = true := by decide +kernel
theorem odd_as {q : D × Str} (h : q ∈ odds) : As q.2 := fun c hc => by simpa using List.all_eq_true.mp (odds_as q h) c hc
end S1

set_option Elab.async false
set_option linter.all false
set_option maxRecDepth 100000
set_option maxHeartbeats 4000000
namespace S1
open PySem L2 Mi P20 Sh TL
abbrev ASt := {x : Str // As x}
theorem EqT.str : EqT (fun x : ASt => D.str x.1) (fun x : ASt => PyData.str x.1) 0 := ⟨fun _ => rfl, fun x => by
  have := x.2
  simp only [PyData.canLay0]
  unfold PyData.strOk
  rw [Array.all_eq_true]
  intro i hi
  have := this x.1.cps[i] (by simp)
  simp
  omega, fun _ => Nat.le_refl 0, fun x y => by
  show (x.1 == y.1) = _
  by_cases h : x.1 = y.1 <;> simp [h, Subtype.ext_iff]⟩
/-- a value as a card is asked with, and how it is told -/
def Kn (d : D) (t : Str) : Prop := (d, t) ∈ odds ∨ ∃ n : Nat, n < 10 ^ 60 ∧ d = .int (n : Int) ∧ t = nT n
theorem Kn.as {d : D} {t : Str} (h : Kn d t) : As t := by
  rcases h with h | ⟨n, h1, rfl, rfl⟩
  · exact odd_as h
  · exact nT_as n
end S1


set_option Elab.async false
set_option linter.all false
set_option maxRecDepth 100000
set_option maxHeartbeats 4000000
/-! Rpl: how plain texts are told; pieces of plain texts. -/
namespace Sh
open PySem L2 Mi P20 TL
theorem sl_str {x : Str} (hl : x.length ≤ 9000) (lo hi : Option Int) : slD (.str x) lo hi = some (.str (cutS x lo hi)) := if_pos (by omega)
end Sh

set_option Elab.async false
set_option linter.all false
set_option maxRecDepth 100000
set_option maxHeartbeats 4000000
/-! Rul: how long the runs of digits of a text are. -/
namespace Sh
open PySem L2 Mi P20 TL
def Dg (c : Nat) : Prop := 48 ≤ c ∧ c ≤ 57
/-- no run of digits is longer -/
def Runs (n : Nat) (l : List Nat) : Prop := ∀ a b c, l = a ++ b ++ c → (∀ d ∈ b, Dg d) → b.length ≤ n
theorem Runs.mono {n m : Nat} {l : List Nat} (h : Runs n l) (hm : n ≤ m) : Runs m l := fun a b c e hd => Nat.le_trans (h a b c e hd) hm
theorem Runs.take {n : Nat} {l : List Nat} (h : Runs n l) (k : Nat) : Runs n (l.take k) := fun a b c e hd =>
  h a b (c ++ l.drop k) (by
    have := List.take_append_drop k l
    rw [e] at this
    simp only [List.append_assoc] at this ⊢
    exact this.symm) hd
theorem Runs.drop {n : Nat} {l : List Nat} (h : Runs n l) (k : Nat) : Runs n (l.drop k) := fun a b c e hd =>
  h (l.take k ++ a) b c (by
    have := List.take_append_drop k l
    rw [e] at this
    simp only [List.append_assoc] at this ⊢
    exact this.symm) hd
theorem Runs.len {n : Nat} {l : List Nat} (h : l.length ≤ n) : Runs n l := fun a b c e hd => by
  have := congrArg List.length e
  simp only [List.length_append] at this
  omega
theorem cut3 {l r a b c : List Nat} (e : l ++ r = a ++ b ++ c) : l = a.take l.length ++ b.take (l.length - a.length) ++ c.take (l.length - (a.length + b.length)) ∧ r = a.drop l.length ++ b.drop (l.length - a.length) ++ c.drop (l.length - (a.length + b.length)) := by
  constructor
  · have h := congrArg (List.take l.length) e
    rw [List.take_left, List.take_append, List.take_append, List.length_append] at h
    exact h
  · have h := congrArg (List.drop l.length) e
    rw [List.drop_left, List.drop_append, List.drop_append, List.length_append] at h
    exact h
theorem Runs.sep {n : Nat} {l r : List Nat} {s : Nat} (h1 : Runs n l) (hs : ¬ Dg s) (h2 : Runs n r) : Runs n (l ++ s :: r) := fun a b c e hd => by
  obtain ⟨e1, e2⟩ := cut3 e
  rcases Nat.lt_or_ge l.length a.length with hk | hk
  · have z : l.length - a.length = 0 := by omega
    rw [z, List.drop_zero] at e2
    cases ha : a.drop l.length with
    | nil =>
      have := congrArg List.length ha
      rw [List.length_drop] at this
      simp at this
      omega
    | cons x a' =>
      rw [ha] at e2
      injection e2 with e3 e4
      exact h2 a' b _ e4 hd
  · have z : a.drop l.length = [] := List.drop_eq_nil_of_le hk
    rw [z, List.nil_append] at e2
    cases hb : b.drop (l.length - a.length) with
    | nil =>
      have b1 := h1 _ _ _ e1 fun d hh => hd d (List.mem_of_mem_take hh)
      have := congrArg List.length (List.take_append_drop (l.length - a.length) b)
      rw [List.length_append, hb] at this
      simp at this b1 ⊢
      omega
    | cons x b' =>
      rw [hb] at e2
      injection e2 with e3 e4
      subst e3
      exact absurd (hd _ (List.mem_of_mem_drop (by rw [hb]; exact List.mem_cons_self))) hs
end Sh


set_option Elab.async false
set_option linter.all false
set_option maxRecDepth 100000
set_option maxHeartbeats 4000000
/-! Fsl: rows of forms read from any text, forms told. -/
namespace S1
open PySem L2 Mi P20 Sh TL
/-- a number of a text, -1 for none -/
def ri : Option Nat → Int
  | none => -1
  | some n => (n : Int)
theorem enumD_at {ds : List D} {k : Nat} {d : D} (e : (enumD ds)[k]? = some d) : ∃ x, ds[k]? = some x ∧ d = .tup [.int (k : Nat), x] := by
  unfold enumD at e
  rw [List.getElem?_mapIdx] at e
  cases h : ds[k]? with
  | none => rw [h] at e; cases e
  | some x => rw [h] at e; exact ⟨x, rfl, (Option.some.inj e).symm⟩
/-! forms told -/
theorem sum_le {α : Type} {m : Nat} {f : α → Nat} : ∀ {l : List α}, (∀ x ∈ l, f x ≤ m) → (l.map f).sum ≤ l.length * m
  | [], _ => by simp
  | x :: l, h => by
    have := sum_le (l := l) fun y hy => h y (List.mem_cons_of_mem _ hy)
    have := h x List.mem_cons_self
    rw [List.map_cons, List.sum_cons, List.length_cons, Nat.add_mul]
    omega
end S1

set_option Elab.async false
set_option linter.all false
set_option maxRecDepth 100000
set_option maxHeartbeats 4000000
/-! Jnl: joined texts. -/
namespace S1
open PySem L2 Mi P20 Sh TL
theorem join_len {a : Str} {xs : List Str} {m : Nat} (h : ∀ x ∈ xs, x.length ≤ m) : (Txt.join a xs).length ≤ xs.length * (m + a.length) := by
  have h1 := PySem.StrLaws.join_length_le a xs
  rw [← TL.join_eq] at h1
  have h2 := sum_le (f := fun x : Str => x.length) h
  rw [Nat.mul_add]
  omega
theorem join_sum {a : Str} {xs : List Str} {m : Nat} (h : ∀ x ∈ xs, x.length ≤ m) : (xs.map (·.length)).sum + xs.length * a.length ≤ xs.length * (m + a.length) := by
  have h2 := sum_le (f := fun x : Str => x.length) h
  rw [Nat.mul_add]
  omega
end S1

set_option Elab.async false
set_option linter.all false
set_option maxRecDepth 100000
set_option maxHeartbeats 4000000
/-! S4df: rules made of any keys; wallets made of names and pairs. -/
namespace S4
open PySem L2 Mi P20 Sh TL
theorem k8_len {w : Str} (hw : w ∈ keys8) : w.length ≤ 6 := by
  have hk : w = "most" ∨ w = "least" ∨ w = "wide" ∨ w = "narrow" ∨ w = "long" ∨ w = "short" ∨ w = "early" ∨ w = "late" := by simpa [keys8] using hw
  rcases hk with rfl | rfl | rfl | rfl | rfl | rfl | rfl | rfl <;> decide
theorem ru_sum {k : Str} (hk : k.length ≤ 6) {ws : List Str} (h : ∀ w ∈ ws, w ∈ keys8) (hl : ws.length ≤ 100) : (((k :: ws).map (·.length)).sum + (k :: ws).length * (Str.ofString " ").length ≤ 90000) ∧ (ruT k ws).length ≤ 90000 := by
  have l1 : (Str.ofString " ").length = 1 := by decide
  have hm : ∀ x ∈ k :: ws, x.length ≤ 6 := fun x hx => by
    rcases List.mem_cons.mp hx with rfl | hx
    · exact hk
    · exact k8_len (h x hx)
  have h1 := S1.join_sum (a := " ") hm
  have h2 := S1.join_len (a := " ") hm
  have l2 : (" " : Str).length = 1 := by decide
  rw [List.length_cons] at h1 h2 ⊢
  rw [l1]
  rw [l2] at h1 h2
  unfold ruT
  omega
theorem join_rule {k : Str} (hk : k.length ≤ 6) {ws : List Str} (h : ∀ w ∈ ws, w ∈ keys8) (hl : ws.length ≤ 100) : joinD (Str.ofString " ") (.lst (D.str k :: ws.map D.str)) = some (.str (ruT k ws)) := by
  have e := (ru_sum hk h hl).1
  rw [← List.map_cons (f := D.str)]
  show (strsD ((k :: ws).map D.str)).bind _ = _
  rw [strsD_map]
  simp only [Option.bind_some]
  refine if_pos ?_
  omega
theorem made_rule_ok {ws : List Str} (h : Kys ws) {u : PuS} {P : D → PuS → Prop} (k : P (rulD "Drain" ws) u) : Ok (mf__law_made_rule [.str "drain", .lst (ws.map D.str)]) u P := by
  by_cases hl : ws.length ≤ 2
  · exact made_few_ok h hl k
  have hl2 := h.len
  have e := join_rule (k := "drain") (by decide) h.mem h.len
  unfold mf__law_made_rule mb__law_made_rule
  simp [ok_join]
  refine brd (fun _ => ?_) (fun z => absurd z (by omega))
  refine ⟨_, if_pos (by simp; omega), _, e, ?_⟩
  exact read_drain_ok h (ru_sum (by decide) h.mem h.len).2 k
theorem e0S (s : Str) : Str.empty ++ s = s := TL.ext_tl (by rw [TL.tl_append]; rfl)
theorem wstr_ok {ps : Prs} (h : PsB ps) (hl : ps.length ≤ 12) {u : PuS} {P : D → PuS → Prop} (k : P (.str (waT ps)) u) : Ok (mf_Wallet___str__ [walD ps]) u P := by
  unfold mf_Wallet___str__ mb_Wallet___str__ walD
  simp [ok_join]
  refine ⟨by omega, ?_⟩
  generalize hW : D.obj "Wallet" ["pairs"] [.tup (ps.map pairD)] = W
  refine ok_lca (fun p : Str × (Int × Int) => [.sh W, .sh (.str p.1), .sh (cardD p.2)]) (fun p => .str (pcT p)) (fun p hp => rfl) (fun p hp => ?_) ?_
  · unfold ce_Wallet___str___1 cardD
    obtain ⟨q1, q2, q3, q4, q5, q6⟩ := h p hp
    have s1 : fmtD (.int p.2.1) = some (.str (nT p.2.1.toNat)) := strI q3 q5
    have s2 : fmtD (.int p.2.2) = some (.str (nT p.2.2.toNat)) := strI (by omega) q6
    have hb := pow60 q3 q5
    have hl2 := pow60 (show 0 ≤ p.2.2 by omega) q6
    have lb : (numL p.2.1.toNat).length ≤ 60 := numL_len (by decide) hb
    have ll : (numL p.2.2.toNat).length ≤ 60 := numL_len (by decide) hl2
    have l1 : (Str.ofString " ").length = 1 := by decide
    have l2 : (Str.ofString "/").length = 1 := by decide
    have lx := q1.len
    rw [← Sh.len_tl] at lx
    have ep : p.1 ++ Str.ofString " " ++ nT p.2.1.toNat ++ Str.ofString "/" ++ nT p.2.2.toNat = pcT p := by
      refine TL.ext_tl ?_
      rw [show tl (pcT p) = _ from tl_pcT p]
      simp only [tl_append]
      rw [show tl (nT p.2.1.toNat) = _ from tl_nT _, show tl (nT p.2.2.toNat) = _ from tl_nT _, show tl (Str.ofString " ") = [32] by decide, show tl (Str.ofString "/") = [47] by decide]
      simp
    simp [s1, s2]
    refine ⟨_, if_pos (by omega), p.1, rfl, ?_⟩
    rw [e0S]
    exact ⟨by omega, by rw [Str.length_append]; omega, by rw [Str.length_append, Str.length_append, nT_len]; omega, by rw [Str.length_append, Str.length_append, Str.length_append, nT_len]; omega, by rw [Str.length_append, Str.length_append, Str.length_append, Str.length_append, nT_len, nT_len]; omega, ep⟩
  · have e : ps.map (fun p => D.str (pcT p)) = (ps.map pcT).map D.str := by rw [List.map_map]; rfl
    rw [e]
    have h4 : ((ps.map pcT).map (·.length)).sum ≤ ps.length * 200 := by
      clear hW k e hl
      induction ps with
      | nil => simp
      | cons a l ih =>
        have h5 := pcT_len (h a List.mem_cons_self)
        have h6 := ih (fun e hx => h e (List.mem_cons_of_mem _ hx))
        simp only [List.map_cons, List.sum_cons, List.length_cons, Nat.add_mul]
        omega
    have e3 : joinD (Str.ofString ", ") (.lst ((ps.map pcT).map D.str)) = some (.str (waT ps)) := by
      show (strsD ((ps.map pcT).map D.str)).bind _ = _
      rw [strsD_map]
      simp only [Option.bind_some]
      refine if_pos ?_
      have : (Str.ofString ", ").length = 2 := by decide
      rw [this, List.length_map]
      omega
    exact ⟨_, e3, k⟩
theorem strO_wal {ps : Prs} (h : PsB ps) (hl : ps.length ≤ 12) {mo : ME} {ρ : Mi.Env} {u : PuS} {P : D → PuS → Prop} (ho : mo ρ u = some (walD ps, u)) (k : P (.str (waT ps)) u) : Ok (mStrO "Wallet" mf_Wallet___str__ mo ρ) u P := by
  rw [ok_strO, ok_of ho]
  show Ok (mTxt mf_Wallet___str__ [walD ps]) u P
  rw [ok_txt]
  exact wstr_ok h hl ⟨_, rfl, k⟩
theorem made_shutet_ok {ps : Prs} (h : PsB ps) (hn : Nms ps) {ns : List Str} (hat : ∀ (k : Nat) (p : Str × (Int × Int)), ps[k]? = some p → ns[k]? = some p.1) {u : PuS} {P : D → PuS → Prop} (k : P (walD ps) u) : Ok (mf__law_made_shutet [.lst (ns.map D.str), .lst ((ps.map Prod.snd).map prD)]) u P := by
  have hl : ps.length ≤ 24 := by have := hn.len; omega
  unfold mf__law_made_shutet mb__law_made_shutet
  simp [-List.map_map]
  refine ⟨by omega, by rw [rngD_len]; omega, ?_⟩
  refine ok_lcra (fun i => [.sh (.lst (ns.map D.str)), .sh (.lst ((ps.map Prod.snd).map prD)), .sh (.int (i : Nat))]) (fun i => pairD (ps.getD i default)) ?_ ?_ ?_
  · intro i hi; simp
  · intro i hi
    unfold ce__law_made_shutet_1
    have hi : i < ps.length := by simpa using hi
    have e1 := List.getElem?_eq_getElem hi
    obtain ⟨q1, q2, q3, q4, q5, q6⟩ := h ps[i] (List.getElem_mem hi)
    have e4 : ps.getD i default = ps[i] := by rw [List.getD_eq_getElem?_getD, e1]; rfl
    have e5 := hat i _ e1
    rw [e4]
    generalize ps[i] = p at *
    have e2 : ixD (.lst ((ps.map Prod.snd).map prD)) (.int (i : Nat)) = some (prD p.2) := at_nat (by rw [List.getElem?_map, List.getElem?_map, e1]; rfl)
    have e3 : ixD (.lst (ns.map D.str)) (.int (i : Nat)) = some (.str p.1) := at_nat (by rw [List.getElem?_map, e5]; rfl)
    have f0 : ixD (prD p.2) (.int 0) = some (.int p.2.1) := rfl
    have f1 : ixD (prD p.2) (.int 1) = some (.int p.2.2) := rfl
    simp [-List.map_map, e2, e3, f0, f1]
    exact card_init q2 q3 q4 ⟨rfl, rfl⟩
  · have e : (List.range ps.length).map (fun i => pairD (ps.getD i default)) = ps.map pairD := by
      refine List.ext_getElem? fun i => ?_
      rw [List.getElem?_map, List.getElem?_map]
      by_cases hi : i < ps.length
      · rw [List.getElem?_range hi, List.getElem?_eq_getElem hi]
        show some (pairD (ps.getD i default)) = _
        rw [List.getD_eq_getElem?_getD, List.getElem?_eq_getElem hi]
        rfl
      · rw [List.getElem?_eq_none (by simp; omega), List.getElem?_eq_none (by omega)]
        rfl
    rw [e]
    exact wal_init hn k
theorem psB_of {ns : List Str} (hnm : ∀ x ∈ ns, Nm x) {am : List (Int × Int)} (ha : Am am) (hc : Cbs am) : PsB (ns.zip am) := fun p hp => by
  obtain ⟨h1, h2⟩ := List.of_mem_zip hp
  obtain ⟨a1, a2, a3⟩ := ha _ h2
  obtain ⟨c1, c2, c3, c4⟩ := hc _ h2
  exact ⟨hnm _ h1, a1, a2, a3, c2, c4⟩
theorem nms_of {ns : List Str} (hnm : ∀ x ∈ ns, Nm x) (hnd : ns.Nodup) {am : List (Int × Int)} (hl : am.length ≤ ns.length) (h12 : am.length ≤ 12) : Nms (ns.zip am) ∧ (ns.zip am).map Prod.snd = am ∧ ∀ (k : Nat) (p : Str × (Int × Int)), (ns.zip am)[k]? = some p → ns[k]? = some p.1 := by
  refine ⟨⟨by rw [List.length_zip]; omega, ?_, fun p hp => nm_is (hnm _ (List.of_mem_zip hp).1)⟩, List.map_snd_zip hl, fun k p e => ?_⟩
  · have : (ns.zip am).map Prod.fst = ns.take am.length := by
      rw [show am = am.take am.length from (List.take_length).symm]
      clear hl h12
      induction ns generalizing am with
      | nil => simp
      | cons a r ih => cases am with
        | nil => simp
        | cons q am =>
          have := ih (fun x hx => hnm x (List.mem_cons_of_mem _ hx)) (List.nodup_cons.mp hnd).2 (am := am)
          simp at this ⊢
          exact this
    rw [this]
    exact hnd.sublist (List.take_sublist _ _)
  · rw [List.getElem?_zip_eq_some] at e
    exact e.1
theorem cbs_of {am : List (Int × Int)} (ha : Am am) (hs : Sm am) : Cbs am := fun q hq => by
  have e6 : (10 : Int) ^ 60 = 1000000000000000000000000000000000000000000000000000000000000 := by decide
  obtain ⟨a1, a2, a3⟩ := ha q hq
  have a4 := hs q hq
  exact ⟨a2, by omega, by omega, by omega⟩
/-- the greater wallet -/
theorem tim_mem {t : Int} {am : List (Int × Int)} {q : Int × Int} (h : q ∈ timA t am) : ∃ p ∈ am, q = (p.1 * t, p.2 * t) := by
  obtain ⟨p, hp, rfl⟩ := List.mem_map.mp h
  exact ⟨p, hp, rfl⟩
theorem am_times {t : Int} (ht : 0 < t) {am : List (Int × Int)} (ha : Am am) : Am (timA t am) := fun q hq => by
  obtain ⟨p, hp, rfl⟩ := tim_mem hq
  obtain ⟨a1, a2, a3⟩ := ha p hp
  refine ⟨?_, Int.mul_nonneg a2 (by omega), ?_⟩
  · have := Int.mul_pos (show 0 < p.2 by omega) ht
    show 1 ≤ p.2 * t
    omega
  · show p.1 * t ≤ 24 * (p.2 * t)
    rw [← Int.mul_assoc]
    exact Int.mul_le_mul_of_nonneg_right a3 (by omega)
theorem cbs_times {t : Int} (ht : 0 < t) (ht2 : t ≤ 1000000000000000000000000000) {am : List (Int × Int)} (ha : Am am) (hs : Sm am) : Cbs (timA t am) := fun q hq => by
  have e6 : (10 : Int) ^ 60 = 1000000000000000000000000000000000000000000000000000000000000 := by decide
  obtain ⟨p, hp, rfl⟩ := tim_mem hq
  obtain ⟨a1, a2, a3⟩ := ha p hp
  have a4 := hs p hp
  have b1 : p.1 * t ≤ 24000000000000000000000000000 * 1000000000000000000000000000 := Int.mul_le_mul (by omega) ht2 (by omega) (by omega)
  have b2 : p.2 * t ≤ 1000000000000000000000000000 * 1000000000000000000000000000 := Int.mul_le_mul a4 ht2 (by omega) (by omega)
  have b3 := Int.mul_pos (show 0 < p.2 by omega) ht
  have b4 := Int.mul_nonneg a2 (show 0 ≤ t by omega)
  exact ⟨b4, by show p.1 * t < _; omega, b3, by show p.2 * t < _; omega⟩
theorem wor_times {t : Int} (ht : 0 < t) (b l : Int) (k : Nat) : wor (b * t) (l * t) k = wor b l k * t := by
  unfold wor
  rw [← Int.mul_assoc]
  by_cases h : b ≤ (k : Int) * l
  · have := Int.mul_le_mul_of_nonneg_right h (show 0 ≤ t by omega)
    rw [Int.min_eq_left this, Int.min_eq_left h]
  · have h2 : (k : Int) * l ≤ b := by omega
    have := Int.mul_le_mul_of_nonneg_right h2 (show 0 ≤ t by omega)
    rw [Int.min_eq_right this, Int.min_eq_right h2]
theorem FF_times {t : Int} (ht : 0 < t) (am : List (Int × Int)) (k : Nat) : FF (timA t am) k = FF am k * t := by
  unfold FF timA
  induction am with
  | nil => simp
  | cons q am ih => simp only [List.map_cons, List.sum_cons, Int.add_mul, wor_times ht] at ih ⊢; omega
end S4

set_option Elab.async false
set_option linter.all false
set_option maxRecDepth 100000
set_option maxHeartbeats 4000000
/-! P64: the law. -/
namespace G64
open PySem L2 Mi P20 Sh S4 TL
theorem by_hand_ok {u : PuS} {P : D → PuS → Prop} (k : P (.bl true) u) : Ok (mf__law_by_hand []) u P := by
  have e : mf__law_by_hand [] u = some (.bl true, u) := by kernel_rfl
  exact (ok_of e).mpr k
theorem mul_small {a t : Int} (h0 : 0 ≤ a) (h : a < 10 ^ 60) (ht : 0 < t) (ht2 : t ≤ 1000000000000000000000000000) : a.natAbs.log2 + t.natAbs.log2 < 1000000 := by
  have e6 : (10 : Int) ^ 60 = 1000000000000000000000000000000000000000000000000000000000000 := by decide
  have h1 := log60 h0 h
  have h2 := log60 (a := t) (by omega) (by omega)
  omega
theorem times_ok {am : List (Int × Int)} {t : Int} (hc : Cbs am) (ht : 0 < t) (ht2 : t ≤ 1000000000000000000000000000) (hl : am.length ≤ 1000) {u : PuS} {P : D → PuS → Prop} (h : P (.lst ((timA t am).map prD)) u) : Ok (mf__law_times [.lst (am.map prD), .int t]) u P := by
  unfold mf__law_times mb__law_times
  simp
  refine ⟨by omega, ?_⟩
  refine ok_lca (fun q => [.sh (.lst (am.map prD)), .sh (.int t), .sh (.int q.1), .sh (.int q.2)]) (fun q => prD (q.1 * t, q.2 * t)) (fun q hq => rfl) (fun q hq => ?_) ?_
  · unfold ce__law_times_1
    obtain ⟨c1, c2, c3, c4⟩ := hc q hq
    simp
    exact ⟨.inr (mul_small c1 c2 ht ht2), .inr (mul_small (by omega) c4 ht ht2), rfl⟩
  · have e : am.map (fun q => prD (q.1 * t, q.2 * t)) = (timA t am).map prD := by unfold timA; rw [List.map_map]; rfl
    rw [e]
    exact h
def isE (w : Str) : Bool := decide (w ∈ [("early" : Str), "late"])
theorem isE_is {w : Str} (h : isE w = true) : w = "early" ∨ w = "late" := by simpa [isE] using h
def endsF (ws : List Str) : List Nat := (List.range ws.length).filter fun i => isE (ws.getD i "")
/-- the law's other keys -/
def sameF (ws : List Str) : List Str := match endsF ws with
  | [] => ws ++ [("early" : Str)]
  | i :: _ => ws.take (i + 1)
theorem same_is {ws : List Str} (h : Kys ws) (hl : ws.length ≤ 8) : Kys (sameF ws) ∧ ∀ am b, drF (sameF ws) am b = drF ws am b := by
  unfold sameF
  have hmem : ∀ i ∈ endsF ws, i < ws.length ∧ isE (ws.getD i "") = true := fun i hi => by
    obtain ⟨h1, h2⟩ := List.mem_filter.mp hi
    exact ⟨List.mem_range.mp h1, h2⟩
  have hnil : endsF ws = [] → ∀ w ∈ ws, isE w = false := fun e w hw => by
    obtain ⟨i, hi⟩ := List.mem_iff_getElem?.mp hw
    obtain ⟨a, b⟩ := List.getElem?_eq_some_iff.mp hi
    cases q : isE w with
    | false => rfl
    | true =>
      have : i ∈ endsF ws := List.mem_filter.mpr ⟨List.mem_range.mpr a, by rw [List.getD_eq_getElem?_getD, hi]; exact q⟩
      rw [e] at this
      cases this
  cases q : endsF ws with
  | nil =>
    have hn := hnil q
    refine ⟨⟨by simp, ?_, ?_, by simp; omega⟩, fun am b => drF_more ws am b⟩
    · refine List.nodup_append.mpr ⟨h.nd, by simp, fun a ha b hb => ?_⟩
      rw [List.mem_singleton] at hb
      rintro rfl
      have := hn a ha
      rw [hb] at this
      exact absurd this (by decide)
    · intro w hw
      rcases List.mem_append.mp hw with hw | hw
      · exact h.mem w hw
      · rw [List.mem_singleton.mp hw]
        decide
  | cons i r =>
    obtain ⟨h1, h2⟩ := hmem i (by rw [q]; exact List.mem_cons_self)
    have e : ws.take (i + 1) = ws.take i ++ [ws[i]] := by simp
    have e2 : ws = ws.take i ++ ws[i] :: ws.drop (i + 1) := by simp
    rw [List.getD_eq_getElem?_getD, List.getElem?_eq_getElem h1] at h2
    have h2 : isE ws[i] = true := h2
    have hE := isE_is h2
    show Kys (ws.take (i + 1)) ∧ ∀ am b, drF (ws.take (i + 1)) am b = drF ws am b
    refine ⟨⟨?_, h.nd.sublist (List.take_sublist _ _), fun w hw => h.mem w ((List.take_sublist _ _).subset hw), by rw [List.length_take]; omega⟩, fun am b => ?_⟩
    · intro z; rw [e] at z; have := congrArg List.length z; simp only [List.length_append, List.length_cons, List.length_nil] at this; omega
    · have := drF_cut (us := ws.take i) (vs := ws.drop (i + 1)) hE am b
      rw [← e2, ← e] at this
      exact this.symm
theorem drF_len (ws : List Str) (am : List (Int × Int)) (b : Int) : (drF ws am b).length = am.length := by
  unfold drF
  rw [fillF_len]
  unfold zerF
  simp
theorem drF_box {ws : List Str} {am : List (Int × Int)} (hc : Cbs am) {b : Int} (h0 : 0 ≤ b) : ∀ n ∈ drF ws am b, 0 ≤ n ∧ n < 10 ^ 60 := fun n hn => by
  obtain ⟨i, hi⟩ := List.mem_iff_getElem?.mp hn
  have hil : i < am.length := by
    obtain ⟨a, _⟩ := List.getElem?_eq_some_iff.mp hi
    rw [drF_len] at a
    exact a
  have key : ∀ j : Nat, 0 ≤ (dayF am).getD j 0 ∧ (dayF am).getD j 0 < 10 ^ 60 := fun j => by
    rw [List.getD_eq_getElem?_getD]
    unfold dayF
    rw [List.getElem?_map]
    cases e : am[j]? with
    | none => decide
    | some q =>
      obtain ⟨c1, c2, c3, c4⟩ := hc q (List.mem_of_getElem? e)
      show 0 ≤ (if q.2 < q.1 then q.2 else q.1) ∧ (if q.2 < q.1 then q.2 else q.1) < 10 ^ 60
      split
      · exact ⟨by omega, c4⟩
      · exact ⟨c1, c2⟩
  have := fillF_in (dayF am) ((plF ws am).map fun c : Cd => c.1.toNat) (zerF am) b h0 (fun j x hj => ?_) i n hi
  · exact ⟨this.1, by have := (key i).2; omega⟩
  · unfold zerF at hj
    rw [List.getElem?_map] at hj
    cases e : am[j]? with
    | none => rw [e] at hj; cases hj
    | some q =>
      rw [e] at hj
      cases hj
      exact ⟨Int.le_refl _, (key j).1⟩
/-- the state of the law's loop -/
def St (ρ : Mi.Env) : Prop := ∃ es : List Sd, es.length = 14 ∧ ρ = .sh .pur :: es
theorem in_strsL (x : Str) (ns : List Str) : inD (.str x) (.lst (ns.map D.str)) = some (.bl (decide (x ∈ ns))) := by simp
theorem ends_ok {a0 a1 a2 a3 a4 a6 a7 a8 a9 a10 a11 a12 a13 a14 : Sd} {ws : List Str} {u : PuS} {P : List D → PuS → Prop} (h : P ((endsF ws).map fun i : Nat => D.int (i : Nat)) u) : Ok (lcD (mGn 13) ct__law_right_1 (mVar 13) [a0, a1, a2, a3, a4, .sh (.lst (ws.map D.str)), a6, a7, a8, a9, a10, a11, a12, a13, a14] (rngD 0 ws.length)) u P := by
  refine ok_lcr (fun i => [a0, a1, a2, a3, a4, .sh (.lst (ws.map D.str)), a6, a7, a8, a9, a10, a11, a12, .sh (.int (i : Nat)), a14]) (fun i => isE (ws.getD i "")) (fun i => .int (i : Nat)) (fun i hi => ?_) (fun i hi => ?_) (fun i hi _ => ?_) h
  · simp
  · unfold ct__law_right_1
    have e1 := List.getElem?_eq_getElem hi
    have e2 : ixD (.lst (ws.map D.str)) (.int (i : Nat)) = some (.str ws[i]) := at_nat (by rw [List.getElem?_map, e1]; rfl)
    have e3 : ws.getD i "" = ws[i] := by rw [List.getD_eq_getElem?_getD, e1]; rfl
    have e4 := in_strsL ws[i] [("early" : Str), "late"]
    simp [e2]
    refine ⟨_, e4, ?_⟩
    rw [e1]
    simp only [onB_bl]
    rfl
  · simp
theorem turn_ok {u : PuS} (hu : Pu u) {ρ : Mi.Env} (hρ : St ρ) {P : Fl → PuS → Prop} (h : ∀ ρ' u', Pu u' → St ρ' → P (.nx ρ') u') : Ok (lb__law_right_2 ρ) u P := by
  obtain ⟨es, hes, rfl⟩ := hρ
  match es, hes with
  | [a1, a2, a3, a4, a5, a6, a7, a8, a9, a10, a11, a12, a13, a14], _ =>
  unfold lb__law_right_2
  refine seq_cut (fun ρ v => Pu v ∧ ∃ am : List (Int × Int), Am am ∧ Sm am ∧ am.length ≤ 12 ∧ ρ = [.sh .pur, a1, .sh (.lst (am.map prD)), a3, a4, a5, a6, a7, a8, a9, a10, a11, a12, a13, a14]) ?_ ?_
  · refine st_go fun R0 hR0 => ?_
    simp
    refine amounts_drawn_ok hu fun am v ha hs hl hv => ?_
    refine alike_ok ha hs (by omega) hv fun am v ha hs hl2 hv => ?_
    exact hR0 (.nx _) _ ⟨hv, am, ha, hs, by omega, rfl⟩
  rintro ρ v ⟨hv, am, ha, hs, hl, rfl⟩
  clear hu u
  have hc := cbs_of ha hs
  refine seq_cut (fun ρ v => Pu v ∧ ∃ ns : List Str, ns.length = am.length ∧ ns.Nodup ∧ (∀ x ∈ ns, Nm x) ∧ ρ = [.sh .pur, a1, .sh (.lst (am.map prD)), .sh (.lst (ns.map D.str)), a4, a5, a6, a7, a8, a9, a10, a11, a12, a13, a14]) ?_ ?_
  · refine st_go fun R0 hR0 => ?_
    simp
    refine names_ok hl hv fun ns v h1 h2 h3 hv => ?_
    exact hR0 (.nx _) _ ⟨hv, ns, h1, h2, h3, rfl⟩
  rintro ρ u ⟨hu, ns, hnl, hnd, hnm, rfl⟩
  clear hv v
  obtain ⟨hn, ham, hat⟩ := nms_of hnm hnd (am := am) (by omega) hl
  have hp := psB_of hnm ha hc
  generalize hps : ns.zip am = ps at hn ham hat hp
  refine seq_cut (fun ρ v => Pu v ∧ ∃ ws : List Str, Kys ws ∧ ws.length ≤ 4 ∧ ρ = [.sh .pur, a1, .sh (.lst (am.map prD)), .sh (.lst (ns.map D.str)), .sh (walD ps), .sh (.lst (ws.map D.str)), a6, a7, a8, a9, a10, a11, a12, a13, a14]) ?_ ?_
  · refine st_go fun R0 hR0 => ?_
    simp
    rw [← ham]
    refine made_shutet_ok hp hn hat ?_
    rw [ham]
    refine draw_ok (by decide) hu fun r v r0 r1 hv => ?_
    obtain ⟨n, hn1, hn2⟩ : ∃ n : Nat, 1 + r = (n : Int) ∧ n ≤ 4 := ⟨(1 + r).toNat, by omega, by omega⟩
    simp [hn1]
    refine keys_drawn_ok (n := n) (by omega) hv fun ws w h1 h2 h3 hw => ?_
    refine hR0 (.nx _) _ ⟨hw, ws, ⟨?_, h2, h3, by omega⟩, by omega, rfl⟩
    rintro rfl
    simp at h1
    omega
  rintro ρ v ⟨hv, ws, hk, hwl, rfl⟩
  clear hu u
  refine seq_cut (fun ρ v => Pu v ∧ ∃ b : Int, 0 ≤ b ∧ b ≤ FF am 1 ∧ ρ = [.sh .pur, a1, .sh (.lst (am.map prD)), .sh (.lst (ns.map D.str)), .sh (walD ps), .sh (.lst (ws.map D.str)), .sh (.int b), a7, a8, a9, a10, a11, a12, a13, a14]) ?_ ?_
  · refine st_go fun R0 hR0 => ?_
    have e10 : powD (.int 10) (.int 40) = some (.int (10 ^ 40)) := rfl
    simp [e10]
    refine bill_drawn_ok ha hs hl (by decide) hv fun b w b0 b1 b2 hw => ?_
    exact hR0 (.nx _) _ ⟨hw, b, b0, b1, rfl⟩
  rintro ρ u ⟨hu, b, hb0, hb1, rfl⟩
  clear hv v
  have hd : tupD [rwT (drF ws am b)] = some (rwT (drF ws (ps.map Prod.snd) b)) := by rw [ham]; rfl
  refine seq_go fun K R hK hR => ?_
  simp
  refine due_drain_ok hk.mem hk.len hc (by omega) ?_
  refine hK _ _ ?_
  clear hK hR K R
  refine seq_go fun K R hK hR => ?_
  simp
  refine made_rule_ok hk ?_
  refine hK _ _ ?_
  clear hK hR K R
  refine seq_go fun K R hK hR => ?_
  simp
  refine told_drain_ok hk.mem (ham ▸ ha) (ham ▸ hc) (by have := hn.len; omega) hb0 (ham ▸ hb1) hd ?_
  simp
  refine hK _ _ ?_
  clear hK hR K R
  obtain ⟨hk2, hsame⟩ := same_is hk (by omega)
  refine seq_go fun K R hK hR => ?_
  simp [mBorLs]
  refine ⟨by omega, by simp [rngD]; omega, ?_⟩
  refine ends_ok ?_
  refine hK _ _ ?_
  clear hK hR K R
  refine seq_cut (fun ρ v => Pu v ∧ ∃ a9 a13 : Sd, ρ = [.sh .pur, a1, .sh (.lst (am.map prD)), .sh (.lst (ns.map D.str)), .sh (walD ps), .sh (.lst (ws.map D.str)), .sh (.int b), .sh (rwT (drF ws am b)), .sh (rulD "Drain" ws), a9, .sh (.lst ((sameF ws).map D.str)), a11, a12, a13, a14]) ?_ ?_
  · refine st_go fun R0 hR0 => ?_
    have ez : eqMD (.lst ((endsF ws).map fun i : Nat => D.int (i : Nat))) (.lst []) = some (.bl (decide (endsF ws = []))) := by
      have z : (endsF ws).map (fun i : Nat => D.int (i : Nat)) = ((endsF ws).map fun i : Nat => (i : Int)).map D.int := by rw [List.map_map]; rfl
      rw [z, s_eqL0]
      cases endsF ws <;> rfl
    simp [ez]
    refine brd (fun z => ?_) (fun z => ?_)
    · refine ⟨_, if_pos (by simp; omega), ?_⟩
      have e : ws.map D.str ++ [D.str (Str.ofString "early")] = (sameF ws).map D.str := by
        unfold sameF
        rw [z, List.map_append]
        rfl
      rw [e]
      exact hR0 (.nx _) _ ⟨hu, _, _, rfl⟩
    · obtain ⟨i, r, q⟩ : ∃ i r, endsF ws = i :: r := by
        cases q : endsF ws with
        | nil => exact absurd q z
        | cons i r => exact ⟨i, r, rfl⟩
      rw [q]
      refine ⟨.int (i : Nat), at_nat (k := 0) rfl, .int ((i + 1 : Nat) : Int), rfl, _, rfl, ?_⟩
      rw [cut_to]
      have e : (ws.map D.str).take (i + 1) = (sameF ws).map D.str := by
        unfold sameF
        rw [q, ← List.map_take]
      rw [e]
      exact hR0 (.nx _) _ ⟨hu, _, _, rfl⟩
  rintro ρ v ⟨hv, b9, b13, rfl⟩
  clear hu u
  refine seq_go fun K R hK hR => ?_
  simp
  refine made_rule_ok hk2 ?_
  have hd2 : tupD [rwT (drF ws am b)] = some (rwT (drF (sameF ws) (ps.map Prod.snd) b)) := by rw [hsame]; exact hd
  refine told_drain_ok hk2.mem (ham ▸ ha) (ham ▸ hc) (by have := hn.len; omega) hb0 (ham ▸ hb1) hd2 ?_
  simp
  refine hK _ _ ?_
  clear hK hR K R
  refine seq_cut (fun ρ v => Pu v ∧ ∃ t : Int, 0 < t ∧ t ≤ 1000000000000000000000000000 ∧ ρ = [.sh .pur, a1, .sh (.lst (am.map prD)), .sh (.lst (ns.map D.str)), .sh (walD ps), .sh (.lst (ws.map D.str)), .sh (.int b), .sh (rwT (drF ws am b)), .sh (rulD "Drain" ws), b9, .sh (.lst ((sameF ws).map D.str)), .sh (.int t), a12, b13, a14]) ?_ ?_
  · refine st_go fun R0 hR0 => ?_
    simp
    refine draw_ok (by decide) hv fun r u r0 r1 hu => ?_
    simp
    refine brd (fun _ => ?_) (fun _ => ?_)
    · refine large_ok hu fun l w l0 l1 hw => ?_
      exact ⟨_, rfl, hR0 (.nx _) _ ⟨hw, 1 + l, by omega, by omega, rfl⟩⟩
    · refine draw_ok (by decide) hu fun l w l0 l1 hw => ?_
      exact ⟨_, rfl, hR0 (.nx _) _ ⟨hw, 1 + l, by omega, by omega, rfl⟩⟩
  rintro ρ u ⟨hu, t, ht, ht2, rfl⟩
  clear hv v
  have ha2 := am_times ht ha
  have hc2 := cbs_times ht ht2 ha hs
  have tl : (timA t am).length = am.length := by unfold timA; simp
  obtain ⟨hn2, ham2, hat2⟩ := nms_of hnm hnd (am := timA t am) (by omega) (by omega)
  have hp2 := psB_of hnm ha2 hc2
  generalize hps2 : ns.zip (timA t am) = qs at hn2 ham2 hat2 hp2
  refine seq_go fun K R hK hR => ?_
  simp
  refine times_ok hc ht ht2 (by omega) ?_
  rw [← ham2]
  refine made_shutet_ok hp2 hn2 hat2 ?_
  refine hK _ _ ?_
  clear hK hR K R
  have hl2 := hn.len
  have hd3 : tupD [.lst ((drF ws am b).map fun x => D.int (x * t))] = some (rwT (drF ws (qs.map Prod.snd) (b * t))) := by
    rw [ham2, drF_times ht]
    show some (D.tup _) = some (D.tup _)
    rw [List.map_map]
    rfl
  have e6 : (10 : Int) ^ 60 = 1000000000000000000000000000000000000000000000000000000000000 := by decide
  have hb60 : b < 10 ^ 60 := by
    have := (FF_le ha hs 1).1
    omega
  refine seq_go fun K R hK hR => ?_
  simp
  refine ⟨.inr (mul_small hb0 hb60 ht ht2), _, rfl, ?_, ?_⟩
  · rw [List.length_map, drF_len]
    omega
  refine ok_lca (fun x => [.sh .pur, a1, .sh (.lst (am.map prD)), .sh (.lst (ns.map D.str)), .sh (walD ps), .sh (.lst (ws.map D.str)), .sh (.int b), .sh (rwT (drF ws am b)), .sh (rulD "Drain" ws), b9, .sh (.lst ((sameF ws).map D.str)), .sh (.int t), .sh (walD qs), b13, .sh (.int x)]) (fun x => .int (x * t)) (fun x hx => rfl) (fun x hx => ?_) ?_
  · obtain ⟨x0, x1⟩ := drF_box hc hb0 x hx
    simp
    exact if_pos (mulC_iff.mpr (.inr (mul_small x0 x1 ht ht2)))
  refine told_drain_ok hk.mem (ham2 ▸ ha2) (ham2 ▸ hc2) (by have := hn2.len; omega) (Int.mul_nonneg hb0 (by omega)) ?_ hd3 ?_
  · rw [ham2, FF_times ht]
    exact Int.mul_le_mul_of_nonneg_right hb1 (by omega)
  simp
  refine hK _ _ ?_
  clear hK hR K R
  simp
  refine strO_wal hp hl2 rfl ?_
  rw [← ham]
  refine shutet_text_ok hp hl2 hat ?_
  simp
  exact h _ _ hu ⟨_, rfl, rfl⟩
/-- what is asked of each number -/
theorem right_ok (u : PuS) (hu : Pu u) : Ok (mf__law_right [.pur]) u fun d _ => d = .bl true := by
  unfold mf__law_right mb__law_right
  rw [ok_fn]
  simp
  refine ok_range 0 3 (fun _ ρ v => Pu v ∧ St ρ) ?_ ?_ _ _ ⟨hu, _, rfl, rfl⟩
  · rintro k ρ v hk ⟨hv, es, hes, rfl⟩
    cases es with
    | nil => cases hes
    | cons e es =>
      refine ⟨_, rfl, turn_ok hv (ρ := .sh .pur :: _ :: es) ⟨_, by simpa using hes, rfl⟩ fun ρ' u' h1 h2 => ⟨h1, h2⟩⟩
  · rintro ρ v ⟨hv, es, hes, rfl⟩
    simp
theorem hlaw (ns : List Int) (o : HO) (h : ns.length ≤ 63) : ∃ u', mf_law [.scr ns] (.idle o) = some (.bl true, u') := by
  refine law_fin (mf := mf_law) (fun ns u => ?_) ns o h
  unfold mf_law mb_law
  rw [ok_fn]
  refine seq_go fun K R hK hR => ?_
  simp
  refine by_hand_ok ?_
  simp
  refine hK _ _ ?_
  clear hK hR K R
  rw [ok_ret]
  unfold ce_law_1
  exact law_all (by omega) right_ok ns u fun u' => rfl
end G64

set_option maxHeartbeats 0
open PySem PySem.W PySem.Calls PyProof.Rows in
theorem G64.fin (hlaw : ∀ (ns : List Int) (o : L2.HO), ns.length ≤ 63 → ∃ u', G64.mf_law [.scr ns] (.idle o) = some (.bl true, u')) : PySem.Challenge.rw_sparepay_k64_drains_by_own_order.Holds := by
  refine G64.pre ?hc
  case hc =>
    refine L2.walk_ofE (l := PySem.Challenge.rw_sparepay_k64_drains_by_own_order) (n := 63) (k := 12) (x := "_law_script") (CX := L2.CX0) rfl (by decide) (by kernel_rfl) ⟨rfl, by decide, by decide⟩ ?F (fun _ _ _ _ z => z)
    intro w mg fa h Y G hmg0
    obtain ⟨K, KX, c⟩ := Y
    have hmg : mg ("law" : PySem.Str) = some (.ref fa) := by
      have e : (HandSHeadRun.topDef (OpenLaw.row PySem.Challenge.rw_sparepay_k64_drains_by_own_order).prog 113).name = ("law" : PySem.Str) := by kernel_rfl
      rw [← e]
      exact hmg0
    haveI : Mi.PSup (PySem.W.OpenLaw.prog PySem.Challenge.rw_sparepay_k64_drains_by_own_order) G64.supF := ⟨by kernel_rfl, by kernel_rfl⟩
    have C : Mi.HF G64.fa G64.fn K mg := ⟨c, h, KX, G⟩
    have eg := G64.glaw C
    rw [hmg] at eg
    cases eg
    have b := L2.FunD.bindsA (ps := ["_law_script"]) (G64.flaw C) fun _ _ _ _ _ _ us hl => match us, hl with | [_], _ => rfl
    refine ⟨K, _, @Mi.spM Mi.noTabl (Mi.WW G64.cs K) 1 G64.mf_law, KX, fun s v => b s [v] rfl, fun H a ns hl _ hS => Mi.law_sp (TB := Mi.noTabl) (C.fact 131 rfl) 63 hlaw H a ns hl hS (fun _ h => nomatch h), fun base _ _ => G64.ok_law (TB := Mi.noTabl) C⟩

theorem PySem.Challenge.cw_sparepay_k64_drains_by_own_order_holds : PySem.Challenge.rw_sparepay_k64_drains_by_own_order.Holds := by
  exact G64.fin G64.hlaw
