import PyProof.Rows.All
import Wide.All
import OpenK.AllK
import Wide.FinOn
import HandS.ForMost
import HandS.Walk
import HandS.Defaults
import HandS.Property
import HandS.ClsMeth
import HandS.TupAny
import HandS.Wide
import HandS.WideBits
import HandS.IsInst
import HandS.Style
import HandS.Text
import KE.KTupSum
import KE.GoesEnum
import HandS.Zip
import HandS.MakeKwOnly
import KE.KStateDown
import HandS.Head0
import HandS.Head1
import HandS.Head2
import HandS.HeadEnd
import HandS.HeadHook1
import HandS.HeadHook2
import HandS.SortKw
import HandS.SortInts
import HandS.Rev
import HandS.FStr
import HandS.ListItems
import PyProof.Draws
import HandS.OwnEq
import KE.KDictZip
import KE.KOpsOwn
import KE.DatumOrd
import PyProof.ListNew
import HandS.Star
import PySem.Challenge.RW_sparepay_k48_least_cards_of_great_number
import Lean
namespace Mi
end Mi
namespace PySem.W
end PySem.W
namespace PySem
end PySem
namespace G48
end G48
namespace SrtR
end SrtR
namespace L2
end L2
namespace Sh
end Sh
namespace S3
end S3
namespace P20
end P20
namespace S2
end S2
set_option Elab.async false
set_option linter.all false
set_option maxRecDepth 100000
set_option maxHeartbeats 4000000
/-! Mh: the top run by one dispatch in each step (less time, less memory). -/
noncomputable section
namespace Hop
open PySem PySem.W PySem.Calls PyProof.Rows HandSHeadRun
abbrev Kt := SharedT → Sem Fin → Code → Pos → List Frame → Option SharedT
structure Ev where
  st : SharedT → Thread → Option (SharedT × Thread)
  den : Code → Sem Fin
  pr : Program
  wd : World
  n0 : Nat
  an : Option Value
abbrev Mo := Ev → Kt → SharedT → Code → Pos → List Frame → Option SharedT
def frd (d : Data) : Bool := match d with
  | .freed => true
  | _ => false
theorem frd_alive {o : Obj} (h : frd o.data = false) : alive o = some o := by
  obtain ⟨c, d, dt, sl⟩ := o
  cases dt <;> first | rfl | cases h
/-- a step by the given executor -/
def bGen (t : Thread) (E : Ev) (K : Kt) (s : SharedT) : Option SharedT := match through t with
  | true => some s
  | false => match stepOk E.n0 E.an t with
    | false => none
    | true => match E.st s t with
      | none => none
      | some q => frS q.1 fun s2 => K s2 q.2.cur q.2.code q.2.pos q.2.stack
def bLoad (a : Addr) (z : Option Value) (k : Obj → Sem Fin) (_ : Obj → Mo) : Mo := fun _ K s code pos stack =>
  @Bool.rec (fun _ => Option SharedT) none (@Option.rec Obj (fun _ => Option SharedT) none (fun o => @Bool.rec (fun _ => Option SharedT) (K s (k o) code pos stack) none (frd o.data)) (s.tree.get a)) (Nat.blt a s.n)
def upd (a : Addr) (f : Obj → Obj) (cur : Sem Fin) (K : Kt) (s : SharedT) (code : Code) (pos : Pos) (stack : List Frame) : Option SharedT :=
  @SharedT.rec (fun _ => Option SharedT) (fun T n life gens drawn toks os => @Bool.rec (fun _ => Option SharedT) none (@Option.rec Obj (fun _ => Option SharedT) none (fun o => @Bool.rec (fun _ => Option SharedT) (K ⟨T.set a f, n, life, gens, drawn, toks, os⟩ cur code pos stack) none (frd o.data)) (T.get a)) (Nat.blt a n)) s
def bUpdate (a : Addr) (z : Option Value) (f : Obj → Obj) (k : Unit → Sem Fin) (_ : Unit → Mo) : Mo := fun E K s code pos stack =>
  @Bool.rec (fun _ => Option SharedT)
    (@Bool.rec (fun _ => Option SharedT) (bGen ⟨.update a z f k, code, pos, stack⟩ E K s) (upd a f (k ()) K s code pos stack) (Nat.beq a mainNs))
    (upd a f (k ()) K s code pos stack) (Nat.ble E.n0 a)
def bAlloc (o : Obj) (k : Addr → Sem Fin) (_ : Addr → Mo) : Mo := fun _ K s code pos stack =>
  @SharedT.rec (fun _ => Option SharedT) (fun T n life gens drawn toks os => @Option.rec Obj (fun _ => Option SharedT) none (fun _ => frNat (n + 1) fun n1 => K ⟨T.ins n o, n1, life, gens, drawn, toks, os⟩ (k n) code pos stack) ((T.ins n o).get n)) s
def bFresh (k : Tok → Sem Fin) (_ : Tok → Mo) : Mo := fun _ K s code pos stack =>
  @SharedT.rec (fun _ => Option SharedT) (fun T n life gens drawn toks os => frNat (toks + 1) fun t1 => K ⟨T, n, life, gens, drawn, t1, os⟩ (k toks) code pos stack) s
def bDone (f : Flow) : Mo := fun E K s code pos stack => match stack with
  | [] => some s
  | .ret k _ _ _ c p _ :: rest => K s (k (.ok f)) c p rest
  | x :: rest => bGen ⟨.pure (.done f), code, pos, x :: rest⟩ E K s
def bPure (f : Fin) : Mo := @PySem.Fin.rec (fun _ => Mo) bDone (fun c E K s code pos stack => bGen ⟨.pure (.again c), code, pos, stack⟩ E K s) f
def keptOf (c1 c2 : Code) (lv : List Value) : List Value := match c1, c2 with
  | .builtin _ x, _ => unmarked x.refs
  | .call g x, .builtin .. => unmarked (if lv.contains borrowed then x.refs else g :: x.refs)
  | .call g x, .call .. => unmarked (if lv.contains borrowed then x.refs else g :: x.refs)
  | _, _ => []
def bCall (c : Code) (h : Option Value) (g : Bool) (l : List Value) (k : Result → Sem Fin) (_ : Result → Mo) : Mo := fun E K s code pos stack =>
  K s (E.den c) c pos (.ret k h g l code pos (keptOf c code l) :: stack)
def disp : Sem Fin → Mo := @Sem.rec PySem.Fin (fun _ => Mo)
  bPure
  (fun e E K s code pos stack => bGen ⟨.raise e, code, pos, stack⟩ E K s)
  (fun e E K s code pos stack => bGen ⟨.unsupported e, code, pos, stack⟩ E K s)
  (fun e E K s code pos stack => bGen ⟨.finish e, code, pos, stack⟩ E K s)
  (fun _ k _ _ K s code pos stack => K s (k ()) code pos stack)
  (fun q k _ _ K s code _ stack => K s (k ()) code q stack)
  bLoad bUpdate bAlloc
  (fun a k _ E K s code pos stack => bGen ⟨.loadIfAlive a k, code, pos, stack⟩ E K s)
  (fun _ k _ _ K s code pos stack => K s (k ()) code pos stack)
  (fun a k _ E K s code pos stack => bGen ⟨.register a k, code, pos, stack⟩ E K s)
  bFresh
  (fun k _ E K s code pos stack => K s (k ⟨E.pr, E.wd.params⟩) code pos stack)
  (fun a b k _ E K s code pos stack => bGen ⟨.choose a b k, code, pos, stack⟩ E K s)
  (fun a b k _ E K s code pos stack => bGen ⟨.os a b k, code, pos, stack⟩ E K s)
  bCall
  (fun a k _ E K s code pos stack => bGen ⟨.handled a k, code, pos, stack⟩ E K s)
  (fun a k _ E K s code pos stack => bGen ⟨.newGen a k, code, pos, stack⟩ E K s)
  (fun a k _ E K s code pos stack => bGen ⟨.genState a k, code, pos, stack⟩ E K s)
  (fun a b c k _ E K s code pos stack => bGen ⟨.resume a b c k, code, pos, stack⟩ E K s)
  (fun a b c k _ E K s code pos stack => bGen ⟨.yield a b c k, code, pos, stack⟩ E K s)
  (fun k _ E K s code pos stack => bGen ⟨.stack k, code, pos, stack⟩ E K s)
  (fun a k _ E K s code pos stack => bGen ⟨.fork a k, code, pos, stack⟩ E K s)
  (fun k _ E K s code pos stack => bGen ⟨.thread k, code, pos, stack⟩ E K s)
  (fun a b c d k _ E K s code pos stack => bGen ⟨.await a b c d k, code, pos, stack⟩ E K s)
def goH (E : Ev) : Nat → Kt := @Nat.rec (fun _ => Kt) (fun _ _ _ _ _ => none) (fun _ K s cur code pos stack => disp cur E K s code pos stack)
/-- what a step says -/
def Goes (E : Ev) (K : Kt) (s : SharedT) (t : Thread) (r : SharedT) : Prop := (through t = true ∧ s = r) ∨ (through t = false ∧ stepOk E.n0 E.an t = true ∧ ∃ s2 t2, stepT E.den E.pr E.wd s t = some (s2, t2) ∧ K s2 t2.cur t2.code t2.pos t2.stack = some r)
theorem gen_goes {E : Ev} {K : Kt} {s : SharedT} {t : Thread} {r : SharedT} (hE : E.st = stepT E.den E.pr E.wd) (h : bGen t E K s = some r) : Goes E K s t r := by
  unfold bGen at h
  cases ht : through t with
  | true => rw [ht] at h; exact .inl ⟨ht, Option.some.inj h⟩
  | false =>
    rw [ht] at h
    cases hk : stepOk E.n0 E.an t with
    | false => rw [hk] at h; cases h
    | true =>
      rw [hk] at h
      cases hs : E.st s t with
      | none => rw [hs] at h; cases h
      | some q =>
        rw [hs] at h
        simp only [frS_eq] at h
        exact .inr ⟨ht, hk, q.1, q.2, by rw [← hE]; exact hs, h⟩
theorem load_goes {E : Ev} {K : Kt} {s : SharedT} {a : Addr} {z : Option Value} {k : Obj → Sem Fin} {code : Code} {pos : Pos} {stack : List Frame} {ih : Obj → Mo} {r : SharedT} (h : bLoad a z k ih E K s code pos stack = some r) : Goes E K s ⟨.load a z k, code, pos, stack⟩ r := by
  obtain ⟨T, n, life, gens, drawn, toks, os⟩ := s
  unfold bLoad at h
  cases hb : Nat.blt a n with
  | false => simp only [hb] at h; cases h
  | true =>
    simp only [hb] at h
    cases hg : T.get a with
    | none => simp only [hg] at h; cases h
    | some o =>
      simp only [hg] at h
      cases hf : frd o.data with
      | true => simp only [hf] at h; cases h
      | false =>
        simp only [hf] at h
        refine .inr ⟨?_, rfl, _, ⟨k o, code, pos, stack⟩, ?_, h⟩
        · unfold through; exact Bool.and_false _
        · unfold stepT
          simp only [hb, hg, frd_alive hf]
theorem upd_goes {E : Ev} {K : Kt} {s : SharedT} {a : Addr} {z : Option Value} {f : Obj → Obj} {k : Unit → Sem Fin} {code : Code} {pos : Pos} {stack : List Frame} {r : SharedT} (ho : stepOk E.n0 E.an ⟨.update a z f k, code, pos, stack⟩ = true) (h : upd a f (k ()) K s code pos stack = some r) : Goes E K s ⟨.update a z f k, code, pos, stack⟩ r := by
  obtain ⟨T, n, life, gens, drawn, toks, os⟩ := s
  unfold upd at h
  cases hb : Nat.blt a n with
  | false => simp only [hb] at h; cases h
  | true =>
    simp only [hb] at h
    cases hg : T.get a with
    | none => simp only [hg] at h; cases h
    | some o =>
      simp only [hg] at h
      cases hf : frd o.data with
      | true => simp only [hf] at h; cases h
      | false =>
        simp only [hf] at h
        refine .inr ⟨?_, ho, _, ⟨k (), code, pos, stack⟩, ?_, h⟩
        · unfold through; exact Bool.and_false _
        · unfold stepT
          simp only [hb, hg, frd_alive hf]
theorem disp_goes {E : Ev} (hE : E.st = stepT E.den E.pr E.wd) {K : Kt} {s : SharedT} {cur : Sem Fin} {code : Code} {pos : Pos} {stack : List Frame} {r : SharedT} (h : disp cur E K s code pos stack = some r) : Goes E K s ⟨cur, code, pos, stack⟩ r := by
  cases cur with
  | pure f =>
    cases f with
    | done f =>
      have h : bDone f E K s code pos stack = some r := h
      cases stack with
      | nil => exact .inl ⟨rfl, Option.some.inj h⟩
      | cons x rest =>
        cases x with
        | ret k a b c d e g =>
          obtain ⟨T, n, life, gens, drawn, toks, os⟩ := s
          exact .inr ⟨rfl, rfl, _, ⟨k (.ok f), d, e, rest⟩, rfl, h⟩
        | gen => exact gen_goes hE h
    | again c => exact gen_goes hE h
  | load a z k => exact load_goes (ih := fun x => disp (k x)) h
  | update a z f k =>
    have h : bUpdate a z f k (fun _ => disp (k ())) E K s code pos stack = some r := h
    unfold bUpdate at h
    cases h1 : Nat.ble E.n0 a with
    | true =>
      simp only [h1] at h
      refine upd_goes ?_ h
      show (true && (Nat.ble E.n0 a || a == mainNs || a == cStatics || E.an == some (.ref a))) = true
      rw [h1]; rfl
    | false =>
      simp only [h1] at h
      cases h2 : Nat.beq a mainNs with
      | true =>
        simp only [h2] at h
        refine upd_goes ?_ h
        show (true && (Nat.ble E.n0 a || a == mainNs || a == cStatics || E.an == some (.ref a))) = true
        have : (a == mainNs) = true := by rw [Nat.eq_of_beq_eq_true h2]; exact beq_self_eq_true _
        rw [h1, this]; rfl
      | false =>
        simp only [h2] at h
        exact gen_goes hE h
  | alloc o k =>
    obtain ⟨T, n, life, gens, drawn, toks, os⟩ := s
    have h : bAlloc o k (fun x => disp (k x)) E K ⟨T, n, life, gens, drawn, toks, os⟩ code pos stack = some r := h
    unfold bAlloc at h
    cases hg : (T.ins n o).get n with
    | none => simp only [hg] at h; cases h
    | some q =>
      simp only [hg, frNat_eq] at h
      refine .inr ⟨by unfold through; exact Bool.and_false _, rfl, _, ⟨k n, code, pos, stack⟩, ?_, h⟩
      unfold stepT
      simp only [hg]
      rfl
  | fresh k =>
    obtain ⟨T, n, life, gens, drawn, toks, os⟩ := s
    have h : bFresh k (fun x => disp (k x)) E K ⟨T, n, life, gens, drawn, toks, os⟩ code pos stack = some r := h
    unfold bFresh at h
    simp only [frNat_eq] at h
    exact .inr ⟨by unfold through; exact Bool.and_false _, rfl, _, ⟨k toks, code, pos, stack⟩, rfl, h⟩
  | rule q k =>
    obtain ⟨T, n, life, gens, drawn, toks, os⟩ := s
    exact .inr ⟨by unfold through; exact Bool.and_false _, rfl, _, ⟨k (), code, pos, stack⟩, rfl, h⟩
  | «at» q k =>
    obtain ⟨T, n, life, gens, drawn, toks, os⟩ := s
    exact .inr ⟨by unfold through; exact Bool.and_false _, rfl, _, ⟨k (), code, q, stack⟩, rfl, h⟩
  | point q k =>
    obtain ⟨T, n, life, gens, drawn, toks, os⟩ := s
    exact .inr ⟨by unfold through; exact Bool.and_false _, rfl, _, ⟨k (), code, pos, stack⟩, rfl, h⟩
  | ask k =>
    obtain ⟨T, n, life, gens, drawn, toks, os⟩ := s
    exact .inr ⟨by unfold through; exact Bool.and_false _, rfl, _, ⟨k ⟨E.pr, E.wd.params⟩, code, pos, stack⟩, rfl, h⟩
  | call c h0 g l k =>
    obtain ⟨T, n, life, gens, drawn, toks, os⟩ := s
    have e : keptOf c code l = _ := rfl
    refine .inr ⟨by unfold through; exact Bool.and_false _, rfl, _, ⟨E.den c, c, pos, .ret k h0 g l code pos (keptOf c code l) :: stack⟩, ?_, h⟩
    cases c <;> cases code <;> rfl
  | _ => exact gen_goes hE h
theorem go_ok {E : Ev} (hE : E.st = stepT E.den E.pr E.wd) : ∀ {m : Nat} {s r : SharedT} {t : Thread}, goH E m s t.cur t.code t.pos t.stack = some r → goF E.st E.n0 E.an m s t = some r
  | 0, _, _, _, h => by cases h
  | m + 1, s, r, t, h => by
    have h1 : disp t.cur E (goH E m) s t.code t.pos t.stack = some r := h
    have key := disp_goes hE h1
    unfold goF
    rcases key with ⟨k1, rfl⟩ | ⟨k1, k2, s2, t2, k3, k4⟩
    · obtain ⟨cur, code, pos, stack⟩ := t
      rw [k1]
    · obtain ⟨cur, code, pos, stack⟩ := t
      rw [k1]
      simp only [k2]
      rw [hE, k3]
      simp only [frS_eq]
      rw [← hE]
      exact go_ok hE k4
/-- the state behind the top -/
def endH (st : SharedT → Thread → Option (SharedT × Thread)) (den : Code → Sem Fin) (M : Nat) (p : Program) (w : World) (os : OsState) : Option SharedT := match putAll (boot_heap w.params).objs.toList .nil 0 with
  | some (t, n) => frNat n fun n0 => goH ⟨st, den, p, w, n0, bootAnn w⟩ M (bootT w os (t, n0)) (topStub p).cur (topStub p).code (topStub p).pos (topStub p).stack
  | none => none
theorem end_ok {M : Nat} {p : Program} {w : World} {os : OsState} {s : SharedT} (h : endH (stepQ (denQ tabQ) p w) (denQ tabQ) M p w os = some s) : endF (stepQ (denQ tabQ) p w) M p w os = some s := by
  unfold endH at h
  unfold endF
  cases e : putAll (boot_heap w.params).objs.toList .nil 0 with
  | none => rw [e] at h; cases h
  | some r =>
    obtain ⟨t, n⟩ := r
    rw [e] at h
    simp only [frNat_eq] at h ⊢
    exact go_ok (E := ⟨stepQ (denQ tabQ) p w, denQ tabQ, p, w, n, bootAnn w⟩) (by show stepQ (denQ tabQ) p w = stepT (denQ tabQ) p w; rw [← stepQ_eq]) h
theorem map_ok {α : Type} {f : SharedT → α} {v : α} {M : Nat} {p : Program} {w : World} {os : OsState} (h : (endH (stepQ (denQ tabQ) p w) (denQ tabQ) M p w os).map f = some v) : (endF (stepQ (denQ tabQ) p w) M p w os).map f = some v := by
  obtain ⟨s, h1, h2⟩ := Option.map_eq_some_iff.mp h
  rw [end_ok h1]
  exact congrArg some h2
end Hop

set_option Elab.async false
set_option linter.all false
set_option maxRecDepth 100000
set_option maxHeartbeats 2000000
/-! Mi0: a mirror of Python code as plain functions on data, over the hand layer. Data D, how data lie in the abstract heap (Rep), steps of the heap (Stp, Gd), slots (Env, Sta), readings of mirrors (rdE, rdT, rdA, rdS, rdI, rdG, spM). -/
namespace Mi
open PySem PySem.Spec PyProof.Rows L2

/-- data -/
inductive D where
  | non | bl (b : Bool) | int (i : Int) | str (x : Str)
  | tup (ds : List D) | lst (ds : List D)
  | obj (c : Str) (ks : List Str) (ds : List D)
  | pur | ty (n : String) | cls (c : Str) | scr (ns : List Int)

/-- the one list that changes through calls (a purse of drawn numbers); idle: none is in use -/
inductive PuS where
  | real (l : List Int) | idle (o : HO)
def PuS.ho : PuS → HO
  | .real l => .lst (l.map V.int)
  | .idle o => o

/-- what is fixed: the written part, the classes by name -/
structure Wo where
  K : PySem.W.Frag
  cl : Str → Addr
  cs : List Str

inductive Rep (W : Wo) (p : Addr) (F : Hp) : V → D → Prop
  | non : Rep W p F .non .non
  | bl (b : Bool) : Rep W p F (.bl b) (.bl b)
  | int (i : Int) : Rep W p F (.int i) (.int i)
  | str (x : Str) : Rep W p F (.str x) (.str x)
  | ty (n : String) : Rep W p F (.ty n) (.ty n)
  | cls (c : Str) (hc : c ∈ W.cs) : Rep W p F (.ref (W.cl c)) (.cls c)
  | pur : Rep W p F (.ref p) .pur
  | scr {a : Addr} {ns : List Int} (h : SqL W.K F a (ns.map V.int)) : Rep W p F (.ref a) (.scr ns)
  | tup {a : Addr} {vs : List V} {ds : List D} (h : SqT W.K F a vs) (l : vs.length = ds.length) (r : ∀ (i : Nat) (v : V) (d : D), vs[i]? = some v → ds[i]? = some d → Rep W p F v d) : Rep W p F (.ref a) (.tup ds)
  | lst {a : Addr} {vs : List V} {ds : List D} (h : F a = some (.lst vs)) (l : vs.length = ds.length) (r : ∀ (i : Nat) (v : V) (d : D), vs[i]? = some v → ds[i]? = some d → Rep W p F v d) : Rep W p F (.ref a) (.lst ds)
  | obj {a dx : Addr} {c : Str} {ks : List Str} {vs : List V} {ds : List D} (hc : c ∈ W.cs) (h : F a = some (.ins (W.cl c) dx (ks.zip vs))) (lk : ks.length = vs.length) (l : vs.length = ds.length)
      (r : ∀ (i : Nat) (v : V) (d : D), vs[i]? = some v → ds[i]? = some d → Rep W p F v d) : Rep W p F (.ref a) (.obj c ks ds)

def Reps (W : Wo) (p : Addr) (F : Hp) (vs : List V) (ds : List D) : Prop := vs.length = ds.length ∧ ∀ (i : Nat) (v : V) (d : D), vs[i]? = some v → ds[i]? = some d → Rep W p F v d

theorem sq_t {K : PySem.W.Frag} {H H' : Hp} {a : Addr} {xs : List V} (e : Same H H') (h : SqT K H a xs) : SqT K H' a xs := by
  rcases h with (h | ⟨o, h⟩) | h
  · exact .inl (.inl (e _ _ h))
  · exact .inl (.inr ⟨o, e _ _ h⟩)
  · exact .inr h

theorem sq_l {K : PySem.W.Frag} {H H' : Hp} {a : Addr} {xs : List V} (e : Same H H') (h : SqL K H a xs) : SqL K H' a xs := by
  rcases h with (h | ⟨o, h⟩) | h
  · exact .inl (.inl (e _ _ h))
  · exact .inl (.inr ⟨o, e _ _ h⟩)
  · exact .inr h

section
variable {W : Wo} {p : Addr} {F F' H H' F1 H1 F2 H2 : Hp} {u u1 u2 : PuS}
theorem Rep.mono {v : V} {d : D} (e : Same F F') (h : Rep W p F v d) : Rep W p F' v d := by
  induction h with
  | non => exact .non
  | bl b => exact .bl b
  | int i => exact .int i
  | str x => exact .str x
  | ty n => exact .ty n
  | cls c hc => exact .cls c hc
  | pur => exact .pur
  | scr h => exact .scr (sq_l e h)
  | tup h l r ih => exact .tup (sq_t e h) l ih
  | lst h l r ih => exact .lst (e _ _ h) l ih
  | obj hc h lk l r ih => exact .obj hc (e _ _ h) lk l ih
theorem Reps.mono {vs : List V} {ds : List D} (e : Same F F') (h : Reps W p F vs ds) : Reps W p F' vs ds := ⟨h.1, fun i v d a b => (h.2 i v d a b).mono e⟩
theorem Reps.nil : Reps W p F [] [] := ⟨rfl, fun i v d a _ => by simp at a⟩
theorem Reps.cons {v : V} {d : D} {vs : List V} {ds : List D} (h : Rep W p F v d) (r : Reps W p F vs ds) : Reps W p F (v :: vs) (d :: ds) := by
  refine ⟨by simp [r.1], fun i x y a b => ?_⟩
  cases i with
  | zero =>
    simp at a b
    subst a; subst b
    exact h
  | succ i =>
    simp at a b
    exact r.2 i x y a b
theorem Reps.uncons {vs : List V} {d : D} {ds : List D} (r : Reps W p F vs (d :: ds)) : ∃ v vr, vs = v :: vr ∧ Rep W p F v d ∧ Reps W p F vr ds := by
  obtain ⟨l, r⟩ := r
  cases vs with
  | nil => simp at l
  | cons v vr => exact ⟨v, vr, rfl, r 0 v d rfl rfl, by simpa using l, fun i x y a b => r (i + 1) x y (by simpa using a) (by simpa using b)⟩
theorem Reps.none {vs : List V} (r : Reps W p F vs []) : vs = [] := by
  cases vs with
  | nil => rfl
  | cons v vr => have := r.1; simp at this
theorem Reps.append {vs ws : List V} {ds es : List D} (a : Reps W p F vs ds) (b : Reps W p F ws es) : Reps W p F (vs ++ ws) (ds ++ es) := by
  refine ⟨by simp [a.1, b.1], fun i v d h1 h2 => ?_⟩
  by_cases hi : i < vs.length
  · rw [List.getElem?_append_left hi] at h1
    rw [List.getElem?_append_left (by rw [← a.1]; exact hi)] at h2
    exact a.2 i v d h1 h2
  · rw [List.getElem?_append_right (by omega)] at h1
    rw [List.getElem?_append_right (by rw [← a.1]; omega)] at h2
    rw [a.1] at h1
    exact b.2 _ v d h1 h2
theorem Reps.get {vs : List V} {ds : List D} {i : Nat} {d : D} (a : Reps W p F vs ds) (h : ds[i]? = some d) : ∃ v, vs[i]? = some v ∧ Rep W p F v d := by
  have hi : i < vs.length := by
    have := (List.getElem?_eq_some_iff.mp h).1
    rw [a.1]; exact this
  exact ⟨vs[i], List.getElem?_eq_getElem hi, a.2 i _ d (List.getElem?_eq_getElem hi) h⟩

/-! ### steps of the heap -/
structure Stp (p : Addr) (F H F' H' : Hp) : Prop where
  ef : Same F F'
  eh : ∀ a o, a ≠ p → H a = some o → H' a = some o
  nw : ∀ a o, F' a = some o → F a = some o ∨ H a = none
structure Gd (p : Addr) (u : PuS) (F H : Hp) : Prop where
  ex : Same F H
  pu : H p = some u.ho
  off : ∀ l, u = .real l → F p = none
theorem Stp.refl : Stp p F H F H := ⟨fun _ _ h => h, fun _ _ _ h => h, fun _ _ h => .inl h⟩
theorem Stp.trans (s : Stp p F H F1 H1) (g : H1 p ≠ none) (t : Stp p F1 H1 F2 H2) : Stp p F H F2 H2 := by
  refine ⟨s.ef.trans t.ef, fun a o h e => t.eh a o h (s.eh a o h e), fun a o e => ?_⟩
  rcases t.nw a o e with h | h
  · exact s.nw a o h
  · right
    cases q : H a with
    | none => rfl
    | some x =>
      by_cases ha : a = p
      · subst ha; exact absurd h g
      · rw [s.eh a x ha q] at h; cases h
theorem Gd.ne (g : Gd p u F H) : H p ≠ none := by rw [g.pu]; simp
theorem Gd.new {q : Addr} {o : HO} (g : Gd p u F H) (h : H q = none) : Gd p u (upd F q o) (upd H q o) := by
  have hq : p ≠ q := fun e => g.ne (e ▸ h)
  refine ⟨fun a x e => ?_, by rw [upd_ne hq]; exact g.pu, fun l e => by rw [upd_ne hq]; exact g.off l e⟩
  by_cases ha : a = q
  · subst ha; rw [upd_same] at e ⊢; exact e
  · rw [upd_ne ha] at e ⊢; exact g.ex a x e
theorem Stp.new {q : Addr} {o : HO} (g : Gd p u F H) (h : H q = none) : Stp p F H (upd F q o) (upd H q o) := by
  refine ⟨fun a x e => ?_, fun a x _ e => ?_, fun a x e => ?_⟩
  · rw [upd_ne (ne_of_none (g.ex a x e) h)]; exact e
  · rw [upd_ne (ne_of_none e h)]; exact e
  · by_cases ha : a = q
    · subst ha; exact .inr h
    · rw [upd_ne ha] at e; exact .inl e
/-- a new object that is not frozen -/
theorem Gd.own {q : Addr} {o : HO} (g : Gd p u F H) (h : H q = none) : Gd p u F (upd H q o) := by
  have hq : p ≠ q := fun e => g.ne (e ▸ h)
  exact ⟨fun a x e => by rw [upd_ne (ne_of_none (g.ex a x e) h)]; exact g.ex a x e, by rw [upd_ne hq]; exact g.pu, g.off⟩
theorem Stp.own {q : Addr} {o : HO} (h : H q = none) : Stp p F H F (upd H q o) :=
  ⟨fun _ _ e => e, fun a x _ e => by rw [upd_ne (ne_of_none e h)]; exact e, fun _ _ e => .inl e⟩
theorem Gd.fresh {q : Addr} (g : Gd p u F H) (h : H q = none) : F q = none := by
  cases e : F q with
  | none => rfl
  | some o => rw [g.ex q o e] at h; cases h
theorem Stp.off {q : Addr} (s : Stp p F H F' H') (h : F q = none) (h' : H q ≠ none) : F' q = none := by
  cases e : F' q with
  | none => rfl
  | some o =>
    rcases s.nw q o e with z | z
    · rw [h] at z; cases z
    · exact absurd z h'
end

/-! ### slots -/
inductive Sd where
  | un | sh (d : D) | ow (ds : List D) | oi (c : Str) (ks : List Str) (ds : List D)
abbrev Env := List Sd
def Sd.own : Sd → Bool
  | .ow _ => true
  | .oi _ _ _ => true
  | _ => false
/-- where a body runs: entered at F0, H0; sf: the object that is being made -/
structure Cf where
  W : Wo
  p : Addr
  F0 : Hp
  H0 : Hp
  sf : Addr
def SdOk (c : Cf) (F H : Hp) (x : Option (Option V)) : Sd → Prop
  | .un => True
  | .sh d => ∃ v, x = some (some v) ∧ Rep c.W c.p F v d
  | .ow ds => ∃ q vs, x = some (some (.ref q)) ∧ H q = some (.lst vs) ∧ F q = none ∧ q ≠ c.p ∧ c.H0 q = none ∧ Reps c.W c.p F vs ds
  | .oi k ks ds => ∃ dx vs, x = some (some (.ref c.sf)) ∧ H c.sf = some (.ins (c.W.cl k) dx (ks.zip vs)) ∧ F c.sf = none ∧ c.sf ≠ c.p ∧ c.H0 c.sf = none ∧ ks.length = vs.length ∧ Reps c.W c.p F vs ds
structure EnvOk (c : Cf) (F H : Hp) (σ : L2.St) (ρ : Env) : Prop where
  len : σ.length = ρ.length
  at_ : ∀ (i : Nat) (s : Sd), ρ[i]? = some s → SdOk c F H σ[i]? s
  ne : ∀ (i j : Nat) (s t : Sd), i ≠ j → ρ[i]? = some s → ρ[j]? = some t → s.own = true → t.own = true → σ[i]? ≠ σ[j]?
structure Sta (c : Cf) (u : PuS) (F H : Hp) (σ : L2.St) (ρ : Env) : Prop where
  ent : Stp c.p c.F0 c.H0 F H
  gd : Gd c.p u F H
  env : EnvOk c F H σ ρ
section
variable {c : Cf} {u u' : PuS} {F H F' H' : Hp} {σ : L2.St} {ρ : Env}
theorem SdOk.step {x : Option (Option V)} {s : Sd} (h : SdOk c F H x s) (t : Stp c.p F H F' H') : SdOk c F' H' x s := by
  cases s with
  | un => trivial
  | sh d => obtain ⟨v, e, r⟩ := h; exact ⟨v, e, r.mono t.ef⟩
  | ow ds => obtain ⟨q, vs, e, hq, hf, hp, h0, r⟩ := h; exact ⟨q, vs, e, t.eh q _ hp hq, t.off hf (by rw [hq]; simp), hp, h0, r.mono t.ef⟩
  | oi k ks ds => obtain ⟨dx, vs, e, hq, hf, hp, h0, hl, r⟩ := h; exact ⟨dx, vs, e, t.eh _ _ hp hq, t.off hf (by rw [hq]; simp), hp, h0, hl, r.mono t.ef⟩
theorem Sta.step (s : Sta c u F H σ ρ) (t : Stp c.p F H F' H') (g : Gd c.p u' F' H') : Sta c u' F' H' σ ρ :=
  ⟨s.ent.trans s.gd.ne t, g, s.env.len, fun i x e => (s.env.at_ i x e).step t, s.env.ne⟩
end

/-! ### mirrors -/
abbrev M (α : Type) := PuS → Option (α × PuS)
def M.pure {α : Type} (a : α) : M α := fun u => some (a, u)
def M.bind {α β : Type} (m : M α) (f : α → M β) : M β := fun u => match m u with
  | some (a, u') => f a u'
  | none => none
def lft {α : Type} (o : Option α) : M α := fun u => o.map fun a => (a, u)
instance : Monad M where
  pure := M.pure
  bind := M.bind
/-- what is wanted behind a mirror's step -/
def After {α : Type} (p : Addr) (F H : Hp) (r : Option (α × PuS)) (Φ : α → PuS → Hp → Hp → Prop) : Prop := match r with
  | some (a, u') => ∀ F' H', Stp p F H F' H' → Gd p u' F' H' → Φ a u' F' H'
  | none => False
section
variable {α β : Type} {p : Addr} {F H : Hp} {u : PuS}
theorem After.imp {r : Option (α × PuS)} {Φ Ψ : α → PuS → Hp → Hp → Prop} (h : After p F H r Φ) (k : ∀ a u' F' H', r = some (a, u') → Stp p F H F' H' → Gd p u' F' H' → Φ a u' F' H' → Ψ a u' F' H') : After p F H r Ψ := by
  cases r with
  | none => exact h
  | some x => obtain ⟨a, u'⟩ := x; exact fun F' H' s g => k a u' F' H' rfl s g (h F' H' s g)
theorem After.split {m : M α} {f : α → M β} {Φ : β → PuS → Hp → Hp → Prop} (h : After p F H (M.bind m f u) Φ) : After p F H (m u) fun a u1 F1 H1 => After p F1 H1 (f a u1) Φ := by
  unfold M.bind at h
  cases e : m u with
  | none => rw [e] at h; exact h
  | some x =>
    obtain ⟨a, u1⟩ := x
    rw [e] at h
    intro F1 H1 s g
    show After p F1 H1 (f a u1) Φ
    have h2 : After p F H (f a u1) Φ := h
    cases e2 : f a u1 with
    | none => rw [e2] at h2; exact h2
    | some y =>
      obtain ⟨b, u2⟩ := y
      rw [e2] at h2
      exact fun F2 H2 s2 g2 => h2 F2 H2 (s.trans g.ne s2) g2
theorem After.now {a : α} {Φ : α → PuS → Hp → Hp → Prop} (g : Gd p u F H) (h : After p F H (some (a, u)) Φ) : Φ a u F H := h F H Stp.refl g
end

abbrev ME := Env → M D
abbrev MT := Env → M Bool
abbrev MA := Env → M (List D)
inductive Fl where
  | nx (ρ : Env) | rt (d : D) | bk (ρ : Env) | ct (ρ : Env) | rl (ds : List D)
abbrev MS := Env → M Fl
abbrev MG := D → Env → Option Env

def rdE (c : Cf) (m : ME) : TE := fun σ H Q => ∃ F u ρ, Sta c u F H σ ρ ∧ After c.p F H (m ρ u) fun d _ F' H' => ∀ v, Rep c.W c.p F' v d → Q v H'
def rdT (c : Cf) (m : MT) : TT := fun σ H Q => ∃ F u ρ, Sta c u F H σ ρ ∧ After c.p F H (m ρ u) fun b _ _ H' => Q b H'
def rdA (c : Cf) (m : MA) : TA := fun σ H Q => ∃ F u ρ, Sta c u F H σ ρ ∧ After c.p F H (m ρ u) fun ds _ F' H' => ∀ vs, Reps c.W c.p F' vs ds → Q vs H'
/-- a fresh list, not frozen -/
def rdL (c : Cf) (m : MA) : TE := fun σ H Q => ∃ F u ρ, Sta c u F H σ ρ ∧ After c.p F H (m ρ u) fun ds _ F' H' => ∀ q vs, F' q = none → H q = none → H' q = some (.lst vs) → Reps c.W c.p F' vs ds → Q (.ref q) H'
def flow (c : Cf) (F : Hp) (Dn : Ends) : Fl → PuS → Prop := fun f u' => match f with
  | .nx ρ' => ∀ σ' F' H', Same F F' → Sta c u' F' H' σ' ρ' → Dn.nx σ' H'
  | .bk ρ' => ∀ σ' F' H', Same F F' → Sta c u' F' H' σ' ρ' → Dn.bk σ' H'
  | .ct ρ' => ∀ σ' F' H', Same F F' → Sta c u' F' H' σ' ρ' → Dn.ct σ' H'
  | .rt d => ∀ v F' H', Stp c.p c.F0 c.H0 F' H' → Gd c.p u' F' H' → Rep c.W c.p F' v d → Dn.rt v H'
  | .rl ds => ∀ q vs F' H', Stp c.p c.F0 c.H0 F' H' → Gd c.p u' F' H' → F' q = none → c.H0 q = none → H' q = some (.lst vs) → Reps c.W c.p F' vs ds → Dn.rt (.ref q) H'
def flowO (c : Cf) (F : Hp) (Dn : Ends) : Option (Fl × PuS) → Prop
  | some (f, u') => flow c F Dn f u'
  | none => False
def rdS (c : Cf) (m : MS) : TS := fun Dn σ H => ∃ F u ρ, Sta c u F H σ ρ ∧ flowO c F Dn (m ρ u)
/-- two slot lists that differ at most at these places -/
def Agr (is : List Nat) (σ σ' : L2.St) : Prop := σ'.length = σ.length ∧ ∀ j, j ∉ is → σ'[j]? = σ[j]?
def rdG (c : Cf) (is : List Nat) (m : MG) : TG := fun v σ H Q => ∃ F u ρ d, Sta c u F H σ ρ ∧ Rep c.W c.p F v d ∧ match m d ρ with
  | some ρ' => ∀ σ', Sta c u F H σ' ρ' → Agr is σ σ' → Q σ' H
  | none => False
def rdGs (c : Cf) (is : List Nat) (m : List D → Env → Option Env) : TGs := fun vs σ H Q => ∃ F u ρ ds, Sta c u F H σ ρ ∧ Reps c.W c.p F vs ds ∧ match m ds ρ with
  | some ρ' => ∀ σ', Sta c u F H σ' ρ' → Agr is σ σ' → Q σ' H
  | none => False
/-- what a walk over data gives -/
def WalkD (W : Wo) (p : Addr) (J : It) (F : Hp) (ds : List D) : Prop := ∃ (G : Hp → Prop) (Y : Nat → Hp → V → Hp → Prop), Walk J ds.length G Y ∧ (∀ H, Same F H → G H) ∧
  ∀ (i : Nat) (H : Hp) (x : V) (H' F2 : Hp) (u : PuS) (d : D), ds[i]? = some d → Same F F2 → Gd p u F2 H → Y i H x H' → ∃ F3, Stp p F2 H F3 H' ∧ Gd p u F3 H' ∧ Rep W p F3 x d
def rdI (c : Cf) (m : MA) : TI := fun σ H R => ∃ F u ρ, Sta c u F H σ ρ ∧ After c.p F H (m ρ u) fun ds _ F' H' => ∀ J, WalkD c.W c.p J F' ds → R J H'
/-- a def's promise by its mirror -/
def spM (W : Wo) (n : Nat) (mf : List D → M D) : Sp := fun vs H Q _ => vs.length = n ∧ ∃ p F u ds, Gd p u F H ∧ Reps W p F vs ds ∧ After p F H (mf ds u) fun d _ F' H' => ∀ v, Rep W p F' v d → Q v H'

/-! ### the judgements -/
theorem _root_.L2.PE.imp {X : Cx} {e : Expr} {t t' : TE} (h : PE X e t) (k : ∀ σ H Q, t' σ H Q → t σ H Q) : PE X e t' := ⟨fun pins s σ H Q I q => h.run pins s σ H Q I (k σ H Q q)⟩
theorem _root_.L2.PT.imp {X : Cx} {e : Expr} {t t' : TT} (h : PT X e t) (k : ∀ σ H Q, t' σ H Q → t σ H Q) : PT X e t' := ⟨fun pins s σ H Q I q => h.run pins s σ H Q I (k σ H Q q)⟩
theorem _root_.L2.PW.imp {X : Cx} {e : Expr} {t t' : TT} (h : PW X e t) (k : ∀ σ H Q, t' σ H Q → t σ H Q) : PW X e t' := ⟨fun wh pins s σ H Q I q => h.run wh pins s σ H Q I (k σ H Q q)⟩
theorem _root_.L2.PA.imp {X : Cx} {e : List Expr} {t t' : TA} (h : PA X e t) (k : ∀ σ H Q, t' σ H Q → t σ H Q) : PA X e t' := ⟨fun pos pins s σ H Q I q => h.run pos pins s σ H Q I (k σ H Q q)⟩
theorem _root_.L2.PS.imp {X : Cx} {e : Stmt} {t t' : TS} (h : PS X e t) (k : ∀ Dn σ H, t' Dn σ H → t Dn σ H) : PS X e t' := ⟨fun pins s σ H Dn I q => h.run pins s σ H Dn I (k Dn σ H q)⟩
theorem _root_.L2.PSs.imp {X : Cx} {e : List Stmt} {t t' : TS} (h : PSs X e t) (k : ∀ Dn σ H, t' Dn σ H → t Dn σ H) : PSs X e t' := ⟨fun pins s σ H Dn I q => h.run pins s σ H Dn I (k Dn σ H q)⟩
theorem _root_.L2.PG.imp {X : Cx} {e : Expr} {t t' : TG} (h : PG X e t) (k : ∀ v σ H Q, t' v σ H Q → t v σ H Q) : PG X e t' := ⟨fun pins s σ H v u Q I r q => h.run pins s σ H v u Q I r (k v σ H Q q)⟩
theorem _root_.L2.PGs.imp {X : Cx} {e : List Expr} {t t' : TGs} (h : PGs X e t) (k : ∀ v σ H Q, t' v σ H Q → t v σ H Q) : PGs X e t' := ⟨fun pins s σ H v u Q I r q => h.run pins s σ H v u Q I r (k v σ H Q q)⟩
theorem _root_.L2.PI.imp {X : Cx} {tg e : Expr} {t t' : TI} (h : PI X tg e t) (k : ∀ σ H R, t' σ H R → t σ H R) : PI X tg e t' := ⟨fun pins s σ H R I q => h.run pins s σ H R I (k σ H R q)⟩
theorem _root_.L2.PTs.imp {X : Cx} {e : List Expr} {t t' : TT} (h : PTs X e t) (k : ∀ σ H Q, t' σ H Q → t σ H Q) : PTs X e t' := ⟨fun pins s σ H Q I q => h.run pins s σ H Q I (k σ H Q q)⟩

abbrev DE (X : Cx) (c : Cf) (e : Expr) (m : ME) : Prop := PE X e (rdE c m)
abbrev DT (X : Cx) (c : Cf) (e : Expr) (m : MT) : Prop := PT X e (rdT c m)
abbrev DA (X : Cx) (c : Cf) (e : List Expr) (m : MA) : Prop := PA X e (rdA c m)
abbrev DL (X : Cx) (c : Cf) (e : Expr) (m : MA) : Prop := PE X e (rdL c m)
abbrev DS (X : Cx) (c : Cf) (e : Stmt) (m : MS) : Prop := PS X e (rdS c m)
abbrev DB (X : Cx) (c : Cf) (e : List Stmt) (m : MS) : Prop := PSs X e (rdS c m)
end Mi


set_option Elab.async false
set_option linter.all false
set_option maxRecDepth 100000
set_option maxHeartbeats 2000000
/-! Mi1: expressions. -/
namespace Mi
open PySem PySem.Spec PyProof.Rows L2

section
variable {W : Wo} {p : Addr} {F H : Hp}
theorem Rep.int_ {v : V} {i : Int} (h : Rep W p F v (.int i)) : v = .int i := by cases h; rfl
theorem Rep.bl_ {v : V} {i : Bool} (h : Rep W p F v (.bl i)) : v = .bl i := by cases h; rfl
theorem Rep.str_ {v : V} {i : Str} (h : Rep W p F v (.str i)) : v = .str i := by cases h; rfl
theorem Rep.non_ {v : V} (h : Rep W p F v .non) : v = .non := by cases h; rfl
theorem Rep.ty_ {v : V} {n : String} (h : Rep W p F v (.ty n)) : v = .ty n := by cases h; rfl
theorem Rep.tup_ {v : V} {ds : List D} (h : Rep W p F v (.tup ds)) : ∃ a vs, v = .ref a ∧ SqT W.K F a vs ∧ Reps W p F vs ds := by
  cases h with
  | tup h l r => exact ⟨_, _, rfl, h, l, r⟩
theorem Rep.lst_ {v : V} {ds : List D} (h : Rep W p F v (.lst ds)) : ∃ a vs, v = .ref a ∧ F a = some (.lst vs) ∧ Reps W p F vs ds := by
  cases h with
  | lst h l r => exact ⟨_, _, rfl, h, l, r⟩
theorem Rep.obj_ {v : V} {c : Str} {ks : List Str} {ds : List D} (h : Rep W p F v (.obj c ks ds)) : ∃ a dx vs, v = .ref a ∧ F a = some (.ins (W.cl c) dx (ks.zip vs)) ∧ ks.length = vs.length ∧ Reps W p F vs ds := by
  cases h with
  | obj hc h lk l r => exact ⟨_, _, _, rfl, h, lk, l, r⟩
theorem Rep.objc {v : V} {c : Str} {ks : List Str} {ds : List D} (h : Rep W p F v (.obj c ks ds)) : c ∈ W.cs := by
  cases h with
  | obj hc h lk l r => exact hc
theorem Rep.cls_ {v : V} {c : Str} (h : Rep W p F v (.cls c)) : v = .ref (W.cl c) ∧ c ∈ W.cs := by
  cases h with
  | cls _ hc => exact ⟨rfl, hc⟩
theorem Rep.scr_ {v : V} {ns : List Int} (h : Rep W p F v (.scr ns)) : ∃ a, v = .ref a ∧ SqL W.K F a (ns.map V.int) := by
  cases h with
  | scr h => exact ⟨_, rfl, h⟩
theorem Rep.mkT {a : Addr} {vs : List V} {ds : List D} (h : F a = some (.tup vs)) (r : Reps W p F vs ds) : Rep W p F (.ref a) (.tup ds) := .tup (SqT.of h) r.1 r.2
theorem Rep.mkL {a : Addr} {vs : List V} {ds : List D} (h : F a = some (.lst vs)) (r : Reps W p F vs ds) : Rep W p F (.ref a) (.lst ds) := .lst h r.1 r.2
end

/-! ### names, constants -/
def vSh (ρ : Env) (i : Nat) : Option D := match ρ[i]? with
  | some (.sh d) => some d
  | _ => none
def mVar (i : Nat) : ME := fun ρ => lft (vSh ρ i)
def mC (d : D) : ME := fun _ => M.pure d
section
variable {X : Cx} {c : Cf} {pos : Pos}
theorem lft_some {α : Type} {o : Option α} {u : PuS} {p : Addr} {F H : Hp} {Φ : α → PuS → Hp → Hp → Prop} (h : After p F H (lft o u) Φ) : ∃ a, o = some a ∧ After p F H (some (a, u)) Φ := by
  cases o with
  | none => exact absurd h (by intro z; exact z)
  | some a => exact ⟨a, rfl, h⟩
theorem Sta.var {u : PuS} {F H : Hp} {σ : L2.St} {ρ : Env} {i : Nat} {d : D} (S : Sta c u F H σ ρ) (e : vSh ρ i = some d) : ∃ v, σ[i]? = some (some v) ∧ Rep c.W c.p F v d := by
  unfold vSh at e
  cases q : ρ[i]? with
  | none => rw [q] at e; cases e
  | some s =>
    rw [q] at e
    cases s with
    | sh d' => cases e; exact S.env.at_ i _ q
    | _ => cases e
theorem dVar (i : Nat) {x : Str} (hN : X.N[i]? = some x := by rfl) (hv : Vis X.env.scope x := by first | exact Or.inl rfl | exact Or.inr (Or.inl rfl) | exact Or.inr (Or.inr rfl)) (hd : (x == ("__debug__" : Str)) = false := by decide)
    (hcd : (x == ("__classdict__" : Str)) = false := by decide) : DE X c (.Name x pos) (mVar i) :=
  (pe_var hN hv hd hcd).imp fun σ H Q ⟨F, u, ρ, S, h⟩ => by
    obtain ⟨d, e, h⟩ := lft_some h
    obtain ⟨v, e1, r⟩ := S.var e
    exact ⟨v, e1, After.now S.gd h v r⟩
theorem dC_of {e : Expr} {v : V} {d : D} (h : PE X e (tC v)) (r : ∀ F, Rep c.W c.p F v d) : DE X c e (mC d) := h.imp fun σ H Q ⟨F, u, ρ, S, q⟩ => After.now S.gd q v (r F)
theorem dInt {i : Int} {j} : DE X c (.Constant (.int i) j pos) (mC (.int i)) := dC_of pe_int fun _ => .int i
theorem dBl {b : Bool} {j} : DE X c (.Constant (.bool b) j pos) (mC (.bl b)) := dC_of pe_bl fun _ => .bl b
theorem dNon {j} : DE X c (.Constant .none j pos) (mC .non) := dC_of pe_non fun _ => .non
theorem dStr {x : Str} {j} : DE X c (.Constant (.str x) j pos) (mC (.str x)) := dC_of pe_str fun _ => .str x
/-- a module's constant -/
theorem dGI {x : Str} {i : Int} {t : Tok} (hg : Gl X x) (hm : X.mg x = some (.int i t)) (hd : (x == ("__debug__" : Str)) = false := by decide) : DE X c (.Name x pos) (mC (.int i)) := dC_of (pe_glob (v := .int i) hg hm ⟨t, rfl⟩ hd) fun _ => .int i
theorem dGS {x : Str} {i : Str} {t : Tok} (hg : Gl X x) (hm : X.mg x = some (.str i t)) (hd : (x == ("__debug__" : Str)) = false := by decide) : DE X c (.Name x pos) (mC (.str i)) := dC_of (pe_glob (v := .str i) hg hm ⟨t, rfl⟩ hd) fun _ => .str i
theorem dGC {x k : Str} (hc : k ∈ c.W.cs) (hg : Gl X x) (hm : X.mg x = some (.ref (c.W.cl k))) (hd : (x == ("__debug__" : Str)) = false := by decide) : DE X c (.Name x pos) (mC (.cls k)) := dC_of (pe_glob (v := .ref (c.W.cl k)) hg hm rfl hd) fun _ => .cls k hc
theorem dTy {x : Str} {n : String} (hg : Gl X x) (hm : X.mg x = none) (hv : bootBuiltins x = some (.type n)) (hn : x ≠ "__name__" := by decide) (hd : (x == ("__debug__" : Str)) = false := by decide) : DE X c (.Name x pos) (mC (.ty n)) :=
  dC_of (pe_bltn (v := .ty n) hg hm hv rfl hn hd) fun _ => .ty n
end

/-! ### operators -/
/-- a mirror of an operator on values -/
def OpM (W : Wo) (r : R2) (f : D → D → Option D) : Prop := ∀ (p : Addr) (F H : Hp) (u : PuS) (x y : V) (a b : D) (Q : VK), Gd p u F H → Rep W p F x a → Rep W p F y b →
  After p F H (lft (f a b) u) (fun d _ F' H' => ∀ v, Rep W p F' v d → Q v H') → r x y H Q
def UnM (W : Wo) (r : V → Hp → VK → Prop) (f : D → Option D) : Prop := ∀ (p : Addr) (F H : Hp) (u : PuS) (x : V) (a : D) (Q : VK), Gd p u F H → Rep W p F x a →
  After p F H (lft (f a) u) (fun d _ F' H' => ∀ v, Rep W p F' v d → Q v H') → r x H Q
def CallM (W : Wo) (r : List V → Hp → VK → Prop) (f : List D → Option D) : Prop := ∀ (p : Addr) (F H : Hp) (u : PuS) (xs : List V) (as : List D) (Q : VK), Gd p u F H → Reps W p F xs as →
  After p F H (lft (f as) u) (fun d _ F' H' => ∀ v, Rep W p F' v d → Q v H') → r xs H Q
def mBin (f : D → D → Option D) (ma mb : ME) : ME := fun ρ => M.bind (ma ρ) fun x => M.bind (mb ρ) fun y => lft (f x y)
def mUn (f : D → Option D) (ma : ME) : ME := fun ρ => M.bind (ma ρ) fun x => lft (f x)
def mCB (f : List D → Option D) (ms : MA) : ME := fun ρ => M.bind (ms ρ) fun xs => lft (f xs)
def mNil : MA := fun _ => M.pure []
def mCons (m : ME) (ms : MA) : MA := fun ρ => M.bind (m ρ) fun x => M.bind (ms ρ) fun xs => M.pure (x :: xs)
section
variable {X : Cx} {c : Cf} {pos : Pos} {a b e : Expr} {es : List Expr} {ma mb m : ME} {ms : MA} {r : R2}
theorem rd2 {f : D → D → Option D} (hm : OpM c.W r f) : ∀ σ H Q, rdE c (mBin f ma mb) σ H Q → tOp r (rdE c ma) (rdE c mb) σ H Q := fun σ H Q ⟨F, u, ρ, S, h⟩ =>
  ⟨F, u, ρ, S, (After.split h).imp fun x u1 F1 H1 _ s1 g1 h1 v rv => ⟨F1, u1, ρ, S.step s1 g1, (After.split h1).imp fun y u2 F2 H2 _ s2 g2 h2 w rw => hm c.p F2 H2 u2 v w x y Q g2 (rv.mono s2.ef) rw h2⟩⟩
theorem dBin {op : Operator} {f : D → D → Option D} (ho : OpR X (binaryOp op) r) (hm : OpM c.W r f) (ha : DE X c a ma) (hb : DE X c b mb) : DE X c (.BinOp a op b pos) (mBin f ma mb) := (pe_op ho ha hb).imp (rd2 hm)
theorem dCmp {op : CmpOp} {f : D → D → Option D} (ho : OpR X (compareOp op) r) (hm : OpM c.W r f) (ha : DE X c a ma) (hb : DE X c b mb) (hk : behindInMarks op b = false) : DE X c (.Compare a [op] [b] pos) (mBin f ma mb) := (pe_cmpR ho ha hb hk).imp (rd2 hm)
theorem dIx {f : D → D → Option D} (ho : IxR X r) (hm : OpM c.W r f) (ha : DE X c a ma) (hb : DE X c b mb) (hs : PlainIx b := by exact fun _ _ => rfl) : DE X c (.Subscript a b pos) (mBin f ma mb) := (pe_ix ho ha hb hs).imp (rd2 hm)
theorem dUn {op : UnaryOp} {ru : V → Hp → VK → Prop} {f : D → Option D} (ho : UnR X (unaryOp op) ru) (hm : UnM c.W ru f) (ha : DE X c a ma) : DE X c (.UnaryOp op a pos) (mUn f ma) :=
  (pe_un ho ha).imp fun σ H Q ⟨F, u, ρ, S, h⟩ => ⟨F, u, ρ, S, (After.split h).imp fun x u1 F1 H1 _ s1 g1 h1 v rv => hm c.p F1 H1 u1 v x Q g1 rv h1⟩
theorem dNil : DA X c [] mNil := pa_nil.imp fun σ H Q ⟨F, u, ρ, S, h⟩ => After.now S.gd h [] Reps.nil
theorem dCons (ha : DE X c e m) (hr : DA X c es ms) (hs : starEach (e :: es) X.env = (false, eval e X.env) :: starEach es X.env := by rfl) : DA X c (e :: es) (mCons m ms) :=
  (pa_cons ha hr hs).imp fun σ H Q ⟨F, u, ρ, S, h⟩ => ⟨F, u, ρ, S, (After.split h).imp fun x u1 F1 H1 _ s1 g1 h1 v rv => ⟨F1, u1, ρ, S.step s1 g1, (After.split h1).imp fun xs u2 F2 H2 _ s2 g2 h2 vs rvs =>
    After.now g2 h2 (v :: vs) (Reps.cons (rv.mono s2.ef) rvs)⟩⟩
theorem rdCB {rc : List V → Hp → VK → Prop} {f : List D → Option D} (hm : CallM c.W rc f) : ∀ σ H Q, rdE c (mCB f ms) σ H Q → tCB rc (rdA c ms) σ H Q := fun σ H Q ⟨F, u, ρ, S, h⟩ =>
  ⟨F, u, ρ, S, (After.split h).imp fun xs u1 F1 H1 _ s1 g1 h1 vs rvs => hm c.p F1 H1 u1 vs xs Q g1 rvs h1⟩
theorem dCallB {rc : List V → Hp → VK → Prop} {f : List D → Option D} {id : String} {x : Str} {p : Pos} (hm : CallM c.W rc f) (hc : CallR X (.builtin id) rc) (hg : Gl X x) (hmg : X.mg x = none) (hv : bootBuiltins x = some (.builtin id)) (ha : DA X c (e :: es) ms)
    (hn : x ≠ "__name__" := by decide) (hdb : (x == ("__debug__" : Str)) = false := by decide)
    (he : starEach (e :: es) X.env = (false, eval e X.env) :: starEach es X.env := by rfl) (hpl : (backTo pos (starEach es X.env)).any (·.1) = false := by rfl) : DE X c (.Call (.Name x p) (e :: es) [] pos) (mCB f ms) :=
  (pe_callB hc hg hmg hv ha hn hdb he hpl).imp (rdCB hm)
theorem dCallT {rc : List V → Hp → VK → Prop} {f : List D → Option D} {id : String} {x : Str} {p : Pos} (hm : CallM c.W rc f) (hc : CallR X (.type id) rc) (hg : Gl X x) (hmg : X.mg x = none) (hv : bootBuiltins x = some (.type id)) (ha : DA X c (e :: es) ms)
    (hn : x ≠ "__name__" := by decide) (hdb : (x == ("__debug__" : Str)) = false := by decide)
    (he : starEach (e :: es) X.env = (false, eval e X.env) :: starEach es X.env := by rfl) (hpl : (backTo pos (starEach es X.env)).any (·.1) = false := by rfl) : DE X c (.Call (.Name x p) (e :: es) [] pos) (mCB f ms) :=
  (pe_callTy hc hg hmg hv ha hn hdb he hpl).imp (rdCB hm)
end

/-! ### displays -/
def mTup (ms : MA) : ME := fun ρ => M.bind (ms ρ) fun xs => lft (if xs.length ≤ 100000 then some (.tup xs) else none)
def mLstO (ms : MA) : MA := fun ρ => M.bind (ms ρ) fun xs => lft (if xs.length ≤ 100000 then some xs else none)
theorem sz5 {n : Nat} (h : n ≤ 100000) : n ≤ sizeLine := Nat.le_trans h (by decide)
theorem sz5l {n : Nat} (h : n ≤ 100000) : n < sizeLine := Nat.lt_of_le_of_lt h (by decide)
theorem lft_if {α : Type} {b : Prop} [Decidable b] {a : α} {u : PuS} {p : Addr} {F H : Hp} {Φ : α → PuS → Hp → Hp → Prop} (h : After p F H (lft (if b then some a else none) u) Φ) : b ∧ After p F H (some (a, u)) Φ := by
  obtain ⟨a', e, h⟩ := lft_some h
  by_cases hb : b
  · rw [if_pos hb] at e; cases e; exact ⟨hb, h⟩
  · rw [if_neg hb] at e; cases e
section
variable {X : Cx} {c : Cf} {pos : Pos} {es : List Expr} {ms : MA}
theorem dTup {x1} (h : DA X c es ms) : DE X c (.Tuple es x1 pos) (mTup ms) :=
  (pe_tup h).imp fun σ H Q ⟨F, u, ρ, S, h⟩ => ⟨F, u, ρ, S, (After.split h).imp fun xs u1 F1 H1 _ s1 g1 h1 vs rvs => by
    obtain ⟨hl, h2⟩ := lft_if h1
    refine ⟨sz5 (by rw [rvs.1]; exact hl), fun q hq => ?_⟩
    exact h2 _ _ (Stp.new g1 hq) (g1.new hq) _ (Rep.mkT upd_same (rvs.mono (Stp.new g1 hq).ef))⟩
theorem Stp.back {p q : Addr} {F H F' H' : Hp} (s : Stp p F H F' H') (hp : H' p ≠ none) (h : H' q = none) : H q = none := by
  cases e : H q with
  | none => rfl
  | some o =>
    by_cases hq : q = p
    · subst hq; exact absurd h hp
    · rw [s.eh q o hq e] at h; cases h
theorem dLstO (h : DA X c es ms) : DL X c (.List es pos) (mLstO ms) :=
  (pe_lst h).imp fun σ H Q ⟨F, u, ρ, S, h⟩ => ⟨F, u, ρ, S, (After.split h).imp fun xs u1 F1 H1 _ s1 g1 h1 vs rvs => by
    obtain ⟨hl, h2⟩ := lft_if h1
    refine ⟨sz5 (by rw [rvs.1]; exact hl), fun q hq => ?_⟩
    exact h2 _ _ (Stp.own hq) (g1.own hq) q vs (g1.fresh hq) (s1.back g1.ne hq) upd_same rvs⟩
end

/-! ### tests -/
def mB (m : ME) : MT := fun ρ => M.bind (m ρ) fun d => match d with
  | .bl b => M.pure b
  | _ => lft none
def mAnd (t v : MT) : MT := fun ρ => M.bind (t ρ) fun b => if b = true then v ρ else M.pure false
def mOr (t v : MT) : MT := fun ρ => M.bind (t ρ) fun b => if b = true then M.pure true else v ρ
def mNot (t : MT) : MT := fun ρ => M.bind (t ρ) fun b => M.pure (!b)
def mIf (t : MT) (ma mb : ME) : ME := fun ρ => M.bind (t ρ) fun b => if b = true then ma ρ else mb ρ
def mAndV (ma mb : ME) : ME := fun ρ => M.bind (ma ρ) fun d => match d with
  | .bl b => if b = true then mb ρ else M.pure (.bl false)
  | _ => lft none
def mOrV (ma mb : ME) : ME := fun ρ => M.bind (ma ρ) fun d => match d with
  | .bl b => if b = true then M.pure (.bl true) else mb ρ
  | _ => lft none
def mNotV (ma : ME) : ME := fun ρ => M.bind (ma ρ) fun d => match d with
  | .bl b => M.pure (.bl (!b))
  | _ => lft none
section
variable {X : Cx} {c : Cf} {pos : Pos} {a b e : Expr} {rest : List Expr} {ma mb m : ME} {t v : MT} {r : R2}
theorem rdB : ∀ σ H Q, rdT c (mB m) σ H Q → tB (rdE c m) σ H Q := fun σ H Q ⟨F, u, ρ, S, h⟩ =>
  ⟨F, u, ρ, S, (After.split h).imp fun d u1 F1 H1 _ s1 g1 h1 w rw => by
    cases d with
    | bl k =>
      have h2 : After c.p F1 H1 (some (k, u1)) (fun b _ _ H' => Q b H') := h1
      exact ⟨k, rw.bl_, After.now g1 h2⟩
    | _ => exact False.elim h1⟩
theorem dTst (h : DE X c e m) (he : ∀ whole, isTrue e X.env whole = (do let v ← whole; standAt e.pos; holding [v] (truthy v)) := by intro _; rfl) : DT X c e (mB m) := (pt_val h he).imp rdB
theorem dTcmp {op : CmpOp} {f : D → D → Option D} (ho : OpR X (compareOp op) r) (hm : OpM c.W r f) (ha : DE X c a ma) (hb : DE X c b mb) (hk : behindInMarks op b = false) : DT X c (.Compare a [op] [b] pos) (mB (mBin f ma mb)) :=
  (pt_cmpR ho ha hb hk).imp fun σ H Q h => by
    obtain ⟨F, u, ρ, S, h⟩ := h
    refine rd2 hm σ H _ ⟨F, u, ρ, S, (After.split h).imp fun d u1 F1 H1 _ s1 g1 h1 w rw => ?_⟩
    cases d with
    | bl k =>
      have h2 : After c.p F1 H1 (some (k, u1)) (fun b _ _ H' => Q b H') := h1
      exact ⟨k, rw.bl_, After.now g1 h2⟩
    | _ => exact False.elim h1
theorem dNotT (h : DT X c e t) : DT X c (.UnaryOp .Not e pos) (mNot t) :=
  (pt_not h).imp fun σ H Q ⟨F, u, ρ, S, h⟩ => ⟨F, u, ρ, S, (After.split h).imp fun b u1 F1 H1 _ s1 g1 h1 => After.now g1 h1⟩
theorem dAnd1 (h : DT X c e t) : PW X (.BoolOp .And [e] pos) (rdT c t) := pw_and1 h
theorem dOr1 (h : DT X c e t) : PW X (.BoolOp .Or [e] pos) (rdT c t) := pw_or1 h
theorem dAndT (h : DT X c a t) (hb : PW X (.BoolOp .And (b :: rest) pos) (rdT c v)) : PW X (.BoolOp .And (a :: b :: rest) pos) (rdT c (mAnd t v)) :=
  (pw_and h hb).imp fun σ H Q ⟨F, u, ρ, S, h⟩ => ⟨F, u, ρ, S, (After.split h).imp fun b u1 F1 H1 _ s1 g1 h1 => by
    cases b with
    | true => exact ⟨F1, u1, ρ, S.step s1 g1, h1⟩
    | false =>
      have h2 : After c.p F1 H1 (some (false, u1)) (fun b _ _ H' => Q b H') := h1
      exact After.now g1 h2⟩
theorem dOrT (h : DT X c a t) (hb : PW X (.BoolOp .Or (b :: rest) pos) (rdT c v)) : PW X (.BoolOp .Or (a :: b :: rest) pos) (rdT c (mOr t v)) :=
  (pw_or h hb).imp fun σ H Q ⟨F, u, ρ, S, h⟩ => ⟨F, u, ρ, S, (After.split h).imp fun b u1 F1 H1 _ s1 g1 h1 => by
    cases b with
    | false => exact ⟨F1, u1, ρ, S.step s1 g1, h1⟩
    | true =>
      have h2 : After c.p F1 H1 (some (true, u1)) (fun b _ _ H' => Q b H') := h1
      exact After.now g1 h2⟩
theorem dIf {k : Expr} (hk : DT X c k t) (ha : DE X c a ma) (hb : DE X c b mb) : DE X c (.IfExp k a b pos) (mIf t ma mb) :=
  (pe_ifExp hk ha hb).imp fun σ H Q ⟨F, u, ρ, S, h⟩ => ⟨F, u, ρ, S, (After.split h).imp fun b u1 F1 H1 _ s1 g1 h1 => by
    cases b with
    | true => exact ⟨F1, u1, ρ, S.step s1 g1, h1⟩
    | false => exact ⟨F1, u1, ρ, S.step s1 g1, h1⟩⟩
theorem dOneV {op} (h : DE X c e m) : DE X c (.BoolOp op [e] pos) m := pe_one h
theorem dAndV (ha : DE X c a ma) (hb : DE X c (.BoolOp .And (b :: rest) pos) mb) : DE X c (.BoolOp .And (a :: b :: rest) pos) (mAndV ma mb) :=
  (pe_and ha hb).imp fun σ H Q ⟨F, u, ρ, S, h⟩ => ⟨F, u, ρ, S, (After.split h).imp fun d u1 F1 H1 _ s1 g1 h1 w rw => by
    cases d with
    | bl k =>
      refine ⟨k, rw.bl_, ?_⟩
      cases k with
      | true => exact ⟨F1, u1, ρ, S.step s1 g1, h1⟩
      | false =>
        have h2 : After c.p F1 H1 (some (D.bl false, u1)) (fun d _ F' H' => ∀ v, Rep c.W c.p F' v d → Q v H') := h1
        exact After.now g1 h2 _ (.bl false)
    | _ => exact False.elim h1⟩
theorem dOrV (ha : DE X c a ma) (hb : DE X c (.BoolOp .Or (b :: rest) pos) mb) : DE X c (.BoolOp .Or (a :: b :: rest) pos) (mOrV ma mb) :=
  (pe_or ha hb).imp fun σ H Q ⟨F, u, ρ, S, h⟩ => ⟨F, u, ρ, S, (After.split h).imp fun d u1 F1 H1 _ s1 g1 h1 w rw => by
    cases d with
    | bl k =>
      refine ⟨k, rw.bl_, ?_⟩
      cases k with
      | false => exact ⟨F1, u1, ρ, S.step s1 g1, h1⟩
      | true =>
        have h2 : After c.p F1 H1 (some (D.bl true, u1)) (fun d _ F' H' => ∀ v, Rep c.W c.p F' v d → Q v H') := h1
        exact After.now g1 h2 _ (.bl true)
    | _ => exact False.elim h1⟩
theorem dNotV (ha : DE X c a ma) : DE X c (.UnaryOp .Not a pos) (mNotV ma) :=
  (pe_not ha).imp fun σ H Q ⟨F, u, ρ, S, h⟩ => ⟨F, u, ρ, S, (After.split h).imp fun d u1 F1 H1 _ s1 g1 h1 w rw => by
    cases d with
    | bl k =>
      have h2 : After c.p F1 H1 (some (D.bl (!k), u1)) (fun d _ F' H' => ∀ v, Rep c.W c.p F' v d → Q v H') := h1
      exact ⟨k, rw.bl_, After.now g1 h2 _ (.bl (!k))⟩
    | _ => exact False.elim h1⟩
end
end Mi


set_option Elab.async false
set_option linter.all false
set_option maxRecDepth 100000
set_option maxHeartbeats 2000000
/-! Mi2: statements, loops, comprehensions. -/
namespace Mi
open PySem PySem.Spec PyProof.Rows L2

/-! ### slots are set -/
section
variable {c : Cf} {u : PuS} {F H : Hp} {σ : L2.St} {ρ : Env}
theorem set_get {α : Type} {l : List α} {i j : Nat} {a b : α} (h : (l.set i a)[j]? = some b) : (i = j ∧ b = a ∧ i < l.length) ∨ (i ≠ j ∧ l[j]? = some b) := by
  by_cases e : i = j
  · subst e
    rw [List.getElem?_set] at h
    simp only [if_true] at h
    split at h
    · rename_i hl
      cases h
      exact .inl ⟨rfl, rfl, hl⟩
    · cases h
  · rw [List.getElem?_set_ne e] at h
    exact .inr ⟨e, h⟩
theorem Sta.set {i : Nat} {v : V} {d : D} (S : Sta c u F H σ ρ) (r : Rep c.W c.p F v d) : Sta c u F H (σ.set i (some v)) (ρ.set i (.sh d)) := by
  refine ⟨S.ent, S.gd, by simpa using S.env.len, fun j s e => ?_, fun j k s t h e1 e2 o1 o2 => ?_⟩
  · rcases set_get e with ⟨rfl, rfl, hl⟩ | ⟨ne, e⟩
    · exact ⟨v, List.getElem?_set_self (by rw [S.env.len]; exact hl), r⟩
    · rw [List.getElem?_set_ne ne]; exact S.env.at_ j s e
  · rcases set_get e1 with ⟨rfl, rfl, _⟩ | ⟨n1, e1⟩
    · cases o1
    · rcases set_get e2 with ⟨rfl, rfl, _⟩ | ⟨n2, e2⟩
      · cases o2
      · rw [List.getElem?_set_ne n1, List.getElem?_set_ne n2]; exact S.env.ne j k s t h e1 e2 o1 o2
theorem SdOk.ref {x : Option (Option V)} {s : Sd} (h : SdOk c F H x s) (o : s.own = true) : ∃ q, x = some (some (.ref q)) ∧ H q ≠ none ∧ F q = none := by
  cases s with
  | un => cases o
  | sh d => cases o
  | ow ds => obtain ⟨q, vs, e, hq, hf, _⟩ := h; exact ⟨q, e, by rw [hq]; simp, hf⟩
  | oi k ks ds => obtain ⟨dx, vs, e, hq, hf, _⟩ := h; exact ⟨_, e, by rw [hq]; simp, hf⟩
/-- a fresh list at q is owned by the slot i -/
theorem Sta.setO {H1 : Hp} {i : Nat} {q : Addr} {vs : List V} {ds : List D} {u1 : PuS} {F1 : Hp} (S : Sta c u F H σ ρ) (s : Stp c.p F H F1 H1) (g : Gd c.p u1 F1 H1) (hF : F1 q = none) (hn : H q = none) (h1 : H1 q = some (.lst vs)) (r : Reps c.W c.p F1 vs ds) :
    Sta c u1 F1 H1 (σ.set i (some (.ref q))) (ρ.set i (.ow ds)) := by
  have S1 := S.step s g
  have hp : q ≠ c.p := fun e => S.gd.ne (e ▸ hn)
  have h0 : c.H0 q = none := S.ent.back S.gd.ne hn
  have nq : ∀ {j : Nat} {t : Sd}, ρ[j]? = some t → t.own = true → σ[j]? ≠ some (some (.ref q)) := fun {j t} e o z => by
    obtain ⟨q', e', hq', _⟩ := (S.env.at_ j t e).ref o
    rw [z] at e'
    injection e' with e'
    injection e' with e'
    injection e' with e'
    subst e'
    exact hq' hn
  refine ⟨S1.ent, S1.gd, by simpa using S.env.len, fun j t e => ?_, fun j k t t' h e1 e2 o1 o2 => ?_⟩
  · rcases set_get e with ⟨rfl, rfl, hl⟩ | ⟨ne, e⟩
    · exact ⟨q, vs, List.getElem?_set_self (by rw [S.env.len]; exact hl), h1, hF, hp, h0, r⟩
    · rw [List.getElem?_set_ne ne]; exact S1.env.at_ j t e
  · rcases set_get e1 with ⟨rfl, rfl, hl⟩ | ⟨n1, e1⟩
    · rcases set_get e2 with ⟨e, _, _⟩ | ⟨n2, e2⟩
      · exact absurd e h
      · rw [List.getElem?_set_self (by rw [S.env.len]; exact hl), List.getElem?_set_ne n2]; exact fun z => nq e2 o2 z.symm
    · rcases set_get e2 with ⟨rfl, rfl, hl⟩ | ⟨n2, e2⟩
      · rw [List.getElem?_set_self (by rw [S.env.len]; exact hl), List.getElem?_set_ne n1]; exact nq e1 o1
      · rw [List.getElem?_set_ne n1, List.getElem?_set_ne n2]; exact S.env.ne j k t t' h e1 e2 o1 o2
/-- the owned list of the slot i is changed -/
theorem Sta.put {i : Nat} {q : Addr} {vs : List V} {ds es : List D} (S : Sta c u F H σ ρ) (e : ρ[i]? = some (.ow ds)) (hq : σ[i]? = some (some (.ref q))) (r : Reps c.W c.p F vs es) :
    Sta c u F (upd H q (.lst vs)) σ (ρ.set i (.ow es)) := by
  obtain ⟨q', ws, e1, h1, hf, hp, h0, _⟩ := S.env.at_ i _ e
  rw [hq] at e1
  injection e1 with e1; injection e1 with e1; injection e1 with e1
  subst e1
  have qs : ∀ {j : Nat} {t : Sd} {a : Addr}, i ≠ j → ρ[j]? = some t → t.own = true → σ[j]? = some (some (.ref a)) → a ≠ q := fun {j t a} ne e2 o z h => by
    subst h
    exact S.env.ne i j _ t ne e e2 rfl o (hq.trans z.symm)
  refine ⟨⟨S.ent.ef, fun a o ha e => ?_, S.ent.nw⟩, ⟨fun a o e => ?_, by rw [upd_ne (Ne.symm hp)]; exact S.gd.pu, S.gd.off⟩, by simpa using S.env.len, fun j t e2 => ?_, fun j k t t' h e1 e2 o1 o2 => ?_⟩
  · rw [upd_ne (fun z => by rw [z, h0] at e; cases e)]; exact S.ent.eh a o ha e
  · rw [upd_ne (fun z => by rw [z, hf] at e; cases e)]; exact S.gd.ex a o e
  · rcases set_get e2 with ⟨rfl, rfl, hl⟩ | ⟨ne, e2⟩
    · exact ⟨q, vs, hq, upd_same, hf, hp, h0, r⟩
    · have k := S.env.at_ j t e2
      cases t with
      | un => trivial
      | sh d => exact k
      | ow ds' => obtain ⟨a, xs, z, ha, rest⟩ := k; exact ⟨a, xs, z, by rw [upd_ne (qs ne e2 rfl z)]; exact ha, rest⟩
      | oi kk ks ds' => obtain ⟨dx, xs, z, ha, rest⟩ := k; exact ⟨dx, xs, z, by rw [upd_ne (qs ne e2 rfl z)]; exact ha, rest⟩
  · have back : ∀ {m : Nat} {y : Sd}, (ρ.set i (.ow es))[m]? = some y → y.own = true → ∃ y', ρ[m]? = some y' ∧ y'.own = true := fun {m y} z o => by
      rcases set_get z with ⟨rfl, rfl, _⟩ | ⟨_, z⟩
      · exact ⟨_, e, rfl⟩
      · exact ⟨y, z, o⟩
    obtain ⟨y1, z1, p1⟩ := back e1 o1
    obtain ⟨y2, z2, p2⟩ := back e2 o2
    exact S.env.ne j k y1 y2 h z1 z2 p1 p2
end

/-! ### blocks and small statements -/
def mNext : MS := fun ρ => M.pure (.nx ρ)
def mSeq (m n : MS) : MS := fun ρ => M.bind (m ρ) fun f => match f with
  | .nx ρ' => n ρ'
  | .rt d => M.pure (.rt d)
  | .rl d => M.pure (.rl d)
  | .bk ρ' => M.pure (.bk ρ')
  | .ct ρ' => M.pure (.ct ρ')
def mDrop (m : ME) : MS := fun ρ => M.bind (m ρ) fun _ => M.pure (.nx ρ)
def mRet (m : ME) : MS := fun ρ => M.bind (m ρ) fun d => M.pure (.rt d)
def mIfS (t : MT) (m n : MS) : MS := fun ρ => M.bind (t ρ) fun b => if b = true then m ρ else n ρ
def mSet (i : Nat) (m : ME) : MS := fun ρ => M.bind (m ρ) fun d => M.pure (.nx (ρ.set i (.sh d)))
def mSetO (i : Nat) (m : MA) : MS := fun ρ => M.bind (m ρ) fun ds => M.pure (.nx (ρ.set i (.ow ds)))
def mStuck : MS := fun _ => lft none
section
variable {X : Cx} {c : Cf} {pos : Pos} {st : Stmt} {rest : List Stmt} {e : Expr} {m n : MS} {me : ME} {ml : MA} {t : MT}
theorem flowO.split {F : Hp} {Dn : Ends} {u : PuS} {ρ : Env} (h : flowO c F Dn (mSeq m n ρ u)) : flowO c F { Dn with nx := rdS c n Dn } (m ρ u) := by
  unfold mSeq M.bind at h
  cases e : m ρ u with
  | none => rw [e] at h; exact h
  | some x =>
    obtain ⟨f, u1⟩ := x
    rw [e] at h
    cases f with
    | nx ρ1 =>
      intro σ' F' H' sm S'
      have h2 : flowO c F Dn (n ρ1 u1) := h
      refine ⟨F', u1, ρ1, S', ?_⟩
      cases e2 : n ρ1 u1 with
      | none => rw [e2] at h2; exact h2
      | some y =>
        obtain ⟨f2, u2⟩ := y
        rw [e2] at h2
        cases f2 with
        | nx ρ2 => exact fun σ2 F2 H2 s2 => h2 σ2 F2 H2 (sm.trans s2)
        | bk ρ2 => exact fun σ2 F2 H2 s2 => h2 σ2 F2 H2 (sm.trans s2)
        | ct ρ2 => exact fun σ2 F2 H2 s2 => h2 σ2 F2 H2 (sm.trans s2)
        | rt d => exact h2
        | rl d => exact h2
    | rt d => exact h
    | rl d => exact h
    | bk ρ1 => exact h
    | ct ρ1 => exact h
theorem dBnil : DB X c [] mNext := pss_nil.imp fun Dn σ H ⟨F, u, ρ, S, h⟩ => h σ F H (Same.refl F) S
theorem dBcons (h1 : DS X c st m) (h2 : DB X c rest n) : DB X c (st :: rest) (mSeq m n) := (pss_cons h1 h2).imp fun Dn σ H ⟨F, u, ρ, S, h⟩ => ⟨F, u, ρ, S, h.split⟩
theorem dBone (h1 : DS X c st m) : DB X c [st] m := pss_one h1
theorem dNever : DS X c st mStuck := ps_never.imp fun Dn σ H ⟨F, u, ρ, S, h⟩ => h
/-- an expression's end, from a statement's -/
theorem flowO.after {α : Type} {F H : Hp} {Dn : Ends} {u : PuS} {ρ : Env} {σ : L2.St} {k : M α} {f : α → M Fl} (S : Sta c u F H σ ρ) (h : flowO c F Dn (M.bind k f u)) :
    After c.p F H (k u) fun a u1 F1 H1 => Sta c u1 F1 H1 σ ρ ∧ flowO c F1 Dn (f a u1) := by
  unfold M.bind at h
  cases e : k u with
  | none => rw [e] at h; exact h
  | some x =>
    obtain ⟨a, u1⟩ := x
    rw [e] at h
    intro F1 H1 s g
    refine ⟨S.step s g, ?_⟩
    have h2 : flowO c F Dn (f a u1) := h
    cases e2 : f a u1 with
    | none => rw [e2] at h2; exact h2
    | some y =>
      obtain ⟨f2, u2⟩ := y
      rw [e2] at h2
      cases f2 with
      | nx ρ2 => exact fun σ2 F2 H2 s2 => h2 σ2 F2 H2 (s.ef.trans s2)
      | bk ρ2 => exact fun σ2 F2 H2 s2 => h2 σ2 F2 H2 (s.ef.trans s2)
      | ct ρ2 => exact fun σ2 F2 H2 s2 => h2 σ2 F2 H2 (s.ef.trans s2)
      | rt d => exact h2
      | rl d => exact h2
theorem dExpr (he : DE X c e me) (hs : swapsWith e none pos.line X.env = pure false := by rfl) : DS X c (.Expr e pos) (mDrop me) :=
  (ps_expr he hs).imp fun Dn σ H ⟨F, u, ρ, S, h⟩ => ⟨F, u, ρ, S, (flowO.after S h).imp fun d u1 F1 H1 _ s1 g1 h1 v rv => h1.2 σ F1 H1 (Same.refl _) h1.1⟩
theorem dRet (he : DE X c e me) : DS X c (.Return (some e) pos) (mRet me) :=
  (ps_ret he).imp fun Dn σ H ⟨F, u, ρ, S, h⟩ => ⟨F, u, ρ, S, (flowO.after S h).imp fun d u1 F1 H1 _ s1 g1 h1 v rv => h1.2 v F1 H1 h1.1.ent g1 rv⟩
theorem dIfS {k : Expr} {a b : List Stmt} (hk : DT X c k t) (ha : DB X c a m) (hb : DB X c b n) : DS X c (.If k a b pos) (mIfS t m n) :=
  (ps_if hk ha hb).imp fun Dn σ H ⟨F, u, ρ, S, h⟩ => ⟨F, u, ρ, S, (flowO.after S h).imp fun b u1 F1 H1 _ s1 g1 h1 => by
    cases b with
    | true => exact ⟨F1, u1, ρ, h1.1, h1.2⟩
    | false => exact ⟨F1, u1, ρ, h1.1, h1.2⟩⟩
theorem dSet {i : Nat} {x : Str} {pos' : Pos} (hN : X.N.Nodup) (hi : X.N[i]? = some x) (hx : Loc X.env.scope x) (he : DE X c e me) (hs : swapsWith e (some (.Name x pos')) pos.line X.env = pure false := by rfl)
    (hf : X.fn x = true ∨ X.env.scope.names.lookup x = some .local := by first | exact .inl rfl | exact .inr rfl | assumption) : DS X c (.Assign [.Name x pos'] e pos) (mSet i me) :=
  (ps_set hN hi hx he hs hf).imp fun Dn σ H ⟨F, u, ρ, S, h⟩ => ⟨F, u, ρ, S, (flowO.after S h).imp fun d u1 F1 H1 _ s1 g1 h1 v rv => h1.2 _ F1 H1 (Same.refl _) (h1.1.set rv)⟩
theorem dSetO {i : Nat} {x : Str} {pos' : Pos} (hN : X.N.Nodup) (hi : X.N[i]? = some x) (hx : Loc X.env.scope x) (he : DL X c e ml) (hs : swapsWith e (some (.Name x pos')) pos.line X.env = pure false := by rfl)
    (hf : X.fn x = true ∨ X.env.scope.names.lookup x = some .local := by first | exact .inl rfl | exact .inr rfl | assumption) : DS X c (.Assign [.Name x pos'] e pos) (mSetO i ml) :=
  (ps_set hN hi hx he hs hf).imp fun Dn σ H ⟨F, u, ρ, S, h⟩ => ⟨F, u, ρ, S, (flowO.after S h).imp fun d u1 F1 H1 _ s1 g1 h1 q vs hF hn h3 r => h1.2 _ F1 H1 (Same.refl _) (S.setO s1 g1 hF hn h3 r)⟩
end

/-! ### targets -/
def mGn (i : Nat) : MG := fun d ρ => some (ρ.set i (.sh d))
def mGnil : List D → Env → Option Env := fun ds ρ => match ds with
  | [] => some ρ
  | _ => none
def mGcons (g : MG) (gs : List D → Env → Option Env) : List D → Env → Option Env := fun ds ρ => match ds with
  | d :: r => (g d ρ).bind fun ρ' => gs r ρ'
  | [] => none
def mGt (n : Nat) (gs : List D → Env → Option Env) : MG := fun d ρ => match d with
  | .tup ds => if ds.length = n then gs ds ρ else none
  | _ => none
def mAsg (m : ME) (g : MG) : MS := fun ρ => M.bind (m ρ) fun d => lft ((g d ρ).map Fl.nx)
abbrev DG (X : Cx) (c : Cf) (e : Expr) (is : List Nat) (g : MG) : Prop := PG X e (rdG c is g)
abbrev DGs (X : Cx) (c : Cf) (e : List Expr) (is : List Nat) (g : List D → Env → Option Env) : Prop := PGs X e (rdGs c is g)
section
variable {X : Cx} {c : Cf} {pos : Pos} {e : Expr} {es : List Expr} {g : MG} {gs : List D → Env → Option Env} {is js : List Nat}
theorem Agr.refl {σ : L2.St} : Agr is σ σ := ⟨rfl, fun _ _ => rfl⟩
theorem Agr.trans {σ σ1 σ2 : L2.St} (a : Agr is σ σ1) (b : Agr js σ1 σ2) : Agr (is ++ js) σ σ2 :=
  ⟨b.1.trans a.1, fun j hj => (b.2 j fun z => hj (List.mem_append_right _ z)).trans (a.2 j fun z => hj (List.mem_append_left _ z))⟩
theorem Agr.set {σ : L2.St} {i : Nat} {x : Option V} : Agr [i] σ (σ.set i x) := ⟨by simp, fun j hj => List.getElem?_set_ne (fun z => hj (by simp [z]))⟩
theorem dGn {i : Nat} {x : Str} (hN : X.N.Nodup) (hi : X.N[i]? = some x) (hx : Loc X.env.scope x) (hf : X.fn x = true ∨ X.env.scope.names.lookup x = some .local := by first | exact .inl rfl | exact .inr rfl | assumption) : DG X c (.Name x pos) [i] (mGn i) :=
  (pg_name hN hi hx hf).imp fun v σ H Q ⟨F, u, ρ, d, S, r, h⟩ => h _ (S.set r) Agr.set
theorem dGnil : DGs X c [] [] mGnil := pgs_nil.imp fun vs σ H Q ⟨F, u, ρ, ds, S, r, h⟩ => by
  cases ds with
  | nil => exact ⟨r.none, h σ S Agr.refl⟩
  | cons d ds => exact False.elim h
theorem dGcons (h1 : DG X c e is g) (h2 : DGs X c es js gs) (hs : (assignEach (e :: es) X.env).map (·.2) = assign e X.env :: (assignEach es X.env).map (·.2) := by rfl) : DGs X c (e :: es) (is ++ js) (mGcons g gs) :=
  (pgs_cons h1 h2 hs).imp fun vs σ H Q ⟨F, u, ρ, ds, S, r, h⟩ => by
    cases ds with
    | nil => exact False.elim h
    | cons d ds =>
      obtain ⟨v, vr, rfl, r1, r2⟩ := r.uncons
      refine ⟨v, vr, rfl, F, u, ρ, d, S, r1, ?_⟩
      have h' : match (g d ρ).bind fun ρ' => gs ds ρ' with
        | some ρ' => ∀ σ', Sta c u F H σ' ρ' → Agr (is ++ js) σ σ' → Q σ' H
        | none => False := h
      cases e1 : g d ρ with
      | none => rw [e1] at h'; exact h'
      | some ρ1 =>
        rw [e1] at h'
        intro σ1 S1 a1
        refine ⟨F, u, ρ1, ds, S1, r2, ?_⟩
        have h3 : match gs ds ρ1 with
          | some ρ' => ∀ σ', Sta c u F H σ' ρ' → Agr (is ++ js) σ σ' → Q σ' H
          | none => False := h'
        cases e2 : gs ds ρ1 with
        | none => rw [e2] at h3; exact h3
        | some ρ2 =>
          rw [e2] at h3
          exact fun σ2 S2 a2 => h3 σ2 S2 (a1.trans a2)
theorem dGt {k n : Nat} (hc : X.calm = true) (h : DGs X c es is gs) (hn : (assignEach es X.env).length = n := by rfl) (hst : (assignEach es X.env).findIdx? (·.1) = none := by rfl) (hK : X.K = c.W.K := by rfl) : DG X c (.Tuple es k pos) is (mGt n gs) :=
  (pg_tup hc h hn hst).imp fun v σ H Q ⟨F, u, ρ, d, S, r, h⟩ => by
    cases d with
    | tup ds =>
      obtain ⟨a, vs, rfl, ht, rs⟩ := r.tup_
      have h' : match (if ds.length = n then gs ds ρ else none) with
        | some ρ' => ∀ σ', Sta c u F H σ' ρ' → Agr is σ σ' → Q σ' H
        | none => False := h
      by_cases hl : ds.length = n
      · rw [if_pos hl] at h'
        exact ⟨a, vs, rfl, by rw [hK]; exact sq_t S.gd.ex ht, rs.1.trans hl, F, u, ρ, ds, S, rs, h'⟩
      · rw [if_neg hl] at h'; exact False.elim h'
    | _ => exact False.elim h
theorem dAsg {tg : Expr} {me : ME} (he : DE X c e me) (hg : DG X c tg is g) (hs : swapsWithSole [tg] e pos.line X.env = pure false := by rfl) (hw : swappedStores [tg] e X.env = pure none := by rfl)
    (h1 : (assignEach [tg] X.env).map (·.2) = [assign tg X.env] := by rfl) : DS X c (.Assign [tg] e pos) (mAsg me g) :=
  (ps_asg he hg hs hw h1).imp fun Dn σ H ⟨F, u, ρ, S, h⟩ => ⟨F, u, ρ, S, (flowO.after S h).imp fun d u1 F1 H1 _ s1 g1 h1 v rv => by
    refine ⟨F1, u1, ρ, d, h1.1, rv, ?_⟩
    have h2 := h1.2
    cases e1 : g d ρ with
    | none => rw [e1] at h2; exact h2
    | some ρ1 =>
      rw [e1] at h2
      exact fun σ' S' _ => h2 σ' F1 H1 (Same.refl _) S'⟩
end

/-! ### augmented assignment to a name -/
def IpM (W : Wo) (r : TIp) (f : D → D → Option D) : Prop := OpM W r f
def mAug (i : Nat) (f : D → D → Option D) (m : ME) : MS := fun ρ => M.bind (lft (vSh ρ i)) fun x => M.bind (m ρ) fun y => M.bind (lft (f x y)) fun z => M.pure (.nx (ρ.set i (.sh z)))
section
variable {X : Cx} {c : Cf} {pos : Pos} {e : Expr} {me : ME}
theorem flowO.lft {α : Type} {F H : Hp} {Dn : Ends} {u : PuS} {ρ : Env} {σ : L2.St} {o : Option α} {f : α → M Fl} (S : Sta c u F H σ ρ) (h : flowO c F Dn (M.bind (Mi.lft o) f u)) : ∃ a, o = some a ∧ flowO c F Dn (f a u) := by
  cases o with
  | none => exact False.elim h
  | some a => exact ⟨a, rfl, h⟩
theorem dAug {i : Nat} {x : Str} {op : Operator} {ti : TIp} {f : D → D → Option D} {pos' : Pos} (hm : IpM c.W ti f) (ho : PIp X op ti) (hN : X.N.Nodup) (hi : X.N[i]? = some x) (hx : Loc X.env.scope x) (he : DE X c e me)
    (hf : X.fn x = true ∨ X.env.scope.names.lookup x = some .local := by first | exact .inl rfl | exact .inr rfl | assumption) : DS X c (.AugAssign (.Name x pos') op e pos) (mAug i f me) :=
  (ps_aug hN hi hx he ho hf).imp fun Dn σ H ⟨F, u, ρ, S, h⟩ => by
    obtain ⟨x0, e0, h⟩ := flowO.lft S h
    obtain ⟨v0, e1, r0⟩ := S.var e0
    refine ⟨v0, e1, F, u, ρ, S, (flowO.after S h).imp fun y u1 F1 H1 _ s1 g1 h1 w rw => ?_⟩
    refine hm c.p F1 H1 u1 v0 w x0 y _ g1 (r0.mono s1.ef) rw ((flowO.after h1.1 h1.2).imp fun z u2 F2 H2 _ s2 g2 h2 v rv => ?_)
    exact h2.2 _ F2 H2 (Same.refl _) (h2.1.set rv)
end

/-! ### loops -/
def loopD (g : MG) (mb : MS) : List D → Env → M Fl
  | [], ρ => M.pure (.nx ρ)
  | d :: ds, ρ => M.bind (lft (g d ρ)) fun ρ1 => M.bind (mb ρ1) fun f => match f with
    | .nx ρ2 => loopD g mb ds ρ2
    | .ct ρ2 => loopD g mb ds ρ2
    | .bk ρ2 => M.pure (.nx ρ2)
    | .rt d => M.pure (.rt d)
    | .rl d => M.pure (.rl d)
def mFor (mi : MA) (g : MG) (mb : MS) : MS := fun ρ => M.bind (mi ρ) fun ds => loopD g mb ds ρ
abbrev DI (X : Cx) (c : Cf) (tg e : Expr) (m : MA) : Prop := PI X tg e (rdI c m)
section
variable {X : Cx} {c : Cf} {pos : Pos} {tg iter : Expr} {body : List Stmt} {mi : MA} {g : MG} {mb : MS} {is : List Nat}
theorem flowO.mono {F F' : Hp} {Dn : Ends} {r : Option (Fl × PuS)} (e : Same F F') (h : flowO c F Dn r) : flowO c F' Dn r := by
  cases r with
  | none => exact h
  | some x =>
    obtain ⟨f, u⟩ := x
    cases f with
    | nx ρ2 => exact fun σ2 F2 H2 s2 => h σ2 F2 H2 (e.trans s2)
    | bk ρ2 => exact fun σ2 F2 H2 s2 => h σ2 F2 H2 (e.trans s2)
    | ct ρ2 => exact fun σ2 F2 H2 s2 => h σ2 F2 H2 (e.trans s2)
    | rt d => exact h
    | rl d => exact h
theorem dFor (hp : PassesOwn (model X.prog X.w) X.A X.env X.xe) (hc : X.calm = true) (hi : DI X c tg iter mi) (hg : DG X c tg is g) (hb : DB X c body mb) (hs : ∀ x, foldedSetIterable iter X.env x = pure x := by intro _; rfl) : DS X c (.For tg iter body [] pos) (mFor mi g mb) :=
  (ps_for hp hc hi hg hb hs).imp fun Dn σ H ⟨F, u, ρ, S, h⟩ => ⟨F, u, ρ, S, (flowO.after S h).imp fun ds u1 F1 H1 _ s1 g1 h1 J hJ => by
    obtain ⟨G, Y, w, hG, hY⟩ := hJ
    refine for_it w (fun i σ H => ∃ F' u' ρ', Same F1 F' ∧ Sta c u' F' H σ ρ' ∧ flowO c F' Dn (loopD g mb (ds.drop i) ρ' u')) ⟨F1, u1, ρ, Same.refl _, h1.1, by simpa using h1.2⟩
      (fun i σ H _ ⟨F', u', ρ', e, S', _⟩ => hG H (e.trans S'.gd.ex)) (fun i x σ H H' hi ⟨F', u', ρ', e, S', hf⟩ hy => ?_) (fun σ H ⟨F', u', ρ', e, S', hf⟩ => ?_)
    · have hd : ds[i]? = some ds[i] := List.getElem?_eq_getElem hi
      obtain ⟨F3, s3, g3, r3⟩ := hY i H x H' F' u' _ hd e S'.gd hy
      rw [List.drop_eq_getElem_cons hi] at hf
      unfold loopD at hf
      obtain ⟨ρ1, e1, hf⟩ := flowO.lft S' hf
      have S3 := S'.step s3 g3
      refine ⟨F3, u', ρ', ds[i], S3, r3, ?_⟩
      rw [e1]
      intro σ1 S1 _
      refine ⟨F3, u', ρ1, S1, ?_⟩
      have hf3 := hf.mono s3.ef
      unfold M.bind at hf3
      cases e2 : mb ρ1 u' with
      | none => rw [e2] at hf3; exact hf3
      | some y =>
        obtain ⟨f2, u2⟩ := y
        rw [e2] at hf3
        cases f2 with
        | nx ρ2 => exact fun σ2 F2 H2 sm S2 => ⟨F2, u2, ρ2, (e.trans s3.ef).trans sm, S2, flowO.mono sm hf3⟩
        | ct ρ2 => exact fun σ2 F2 H2 sm S2 => ⟨F2, u2, ρ2, (e.trans s3.ef).trans sm, S2, flowO.mono sm hf3⟩
        | bk ρ2 => exact fun σ2 F2 H2 sm S2 => hf3 σ2 F2 H2 sm S2
        | rt d => exact hf3
        | rl d => exact hf3
    · rw [List.drop_eq_nil_of_le (Nat.le_refl _)] at hf
      exact hf σ F' H (Same.refl _) S'⟩
end
end Mi


set_option Elab.async false
set_option linter.all false
set_option maxRecDepth 100000
set_option maxHeartbeats 2000000
/-! Mi3: what is walked, comprehensions, owned lists, calls, classes, a def's promise. -/
namespace Mi
open PySem PySem.Spec PyProof.Rows L2

/-! ### what is walked -/
section
variable {W : Wo} {p : Addr} {F : Hp}
theorem walkD_at {J : It} {G : Hp → Prop} {vs : List V} {ds : List D} (w : Walk J vs.length G (YAt vs)) (hG : ∀ H, Same F H → G H) (r : Reps W p F vs ds) : WalkD W p J F ds := by
  refine ⟨G, YAt vs, by rw [← r.1]; exact w, hG, fun i H x H' F2 u d hd e g hy => ?_⟩
  obtain ⟨rfl, hx⟩ := hy
  exact ⟨F2, Stp.refl, g, (r.2 i x d hx hd).mono e⟩
theorem walkD_list {a : Addr} {vs : List V} {ds : List D} (h : F a = some (.lst vs)) (r : Reps W p F vs ds) : WalkD W p (Itl W.K a) F ds := walkD_at walk_list (fun H e => SqL.of (e _ _ h)) r
theorem walkD_tup {a : Addr} {vs : List V} {ds : List D} (h : SqT W.K F a vs) (r : Reps W p F vs ds) : WalkD W p (Itt W.K a) F ds := walkD_at walk_tup (fun H e => sq_t e h) r
def rngD (lo : Int) (n : Nat) : List D := (List.range n).map fun i => .int (lo + (i : Nat))
theorem rngD_len (lo : Int) (n : Nat) : (rngD lo n).length = n := by simp [rngD]
theorem rngD_at {lo : Int} {n i : Nat} {d : D} (h : (rngD lo n)[i]? = some d) : d = .int (lo + (i : Nat)) := by
  unfold rngD at h
  rw [List.getElem?_map] at h
  by_cases hi : i < n
  · rw [List.getElem?_range hi] at h
    exact (Option.some.inj h).symm
  · rw [List.getElem?_eq_none (by simpa using hi)] at h; cases h
theorem walkD_range {lo : Int} {n : Nat} : WalkD W p (Itr lo n) F (rngD lo n) := by
  refine ⟨_, _, by rw [rngD_len]; exact walk_range, fun _ _ => trivial, fun i H x H' F2 u d hd e g hy => ?_⟩
  obtain ⟨rfl, rfl⟩ := hy
  exact ⟨F2, Stp.refl, g, by rw [rngD_at hd]; exact .int _⟩
/-- pairs of the items of two walks -/
theorem walkD_pair {J : It} {n : Nat} {G : Hp → Prop} {xs ys : Nat → Option V} {ds : List D} (hn : ds.length = n) (w : Walk J n G (YPair xs ys)) (hG : ∀ H, Same F H → G H)
    (r : ∀ i x y d, xs i = some x → ys i = some y → ds[i]? = some d → ∃ a b, d = .tup [a, b] ∧ Rep W p F x a ∧ Rep W p F y b) : WalkD W p J F ds := by
  refine ⟨G, _, by rw [hn]; exact w, hG, fun i H x H' F2 u d hd e g hy => ?_⟩
  obtain ⟨T, x1, y1, rfl, hT, rfl, hx, hy⟩ := hy
  obtain ⟨a, b, rfl, ra, rb⟩ := r i x1 y1 d hx hy hd
  have e2 := e.trans (Stp.new (o := .tup [x1, y1]) g hT).ef
  exact ⟨_, Stp.new g hT, g.new hT, Rep.mkT upd_same (Reps.cons (ra.mono e2) (Reps.cons (rb.mono e2) Reps.nil))⟩
end
def mIseq (m : ME) : MA := fun ρ => M.bind (m ρ) fun d => lft (match d with
  | .lst ds => some ds
  | _ => none)
def mItup (m : ME) : MA := fun ρ => M.bind (m ρ) fun d => lft (match d with
  | .tup ds => some ds
  | _ => none)
def rng1 : List D → Option (List D) := fun ds => match ds with
  | [.int j] => if -100000 ≤ j ∧ j ≤ 100000 then some (rngD 0 j.toNat) else none
  | _ => none
def rng2 : List D → Option (List D) := fun ds => match ds with
  | [.int i, .int j] => if (-100000 ≤ i ∧ i ≤ 100000) ∧ -100000 ≤ j ∧ j ≤ 100000 then some (rngD i (j - i).toNat) else none
  | _ => none
def mIof (f : List D → Option (List D)) (ms : MA) : MA := fun ρ => M.bind (ms ρ) fun ds => lft (f ds)
def zipD : List D → List D → List D := fun xs ys => (xs.zip ys).map fun q => .tup [q.1, q.2]
def enumD (xs : List D) : List D := xs.mapIdx fun i d => .tup [.int (i : Nat), d]
def enum1 : List D → Option (List D) := fun ds => match ds with
  | [.lst xs] => some (enumD xs)
  | _ => none
theorem zipD_at {xs ys : List D} {i : Nat} {d : D} (h : (zipD xs ys)[i]? = some d) : ∃ x y, xs[i]? = some x ∧ ys[i]? = some y ∧ d = .tup [x, y] := by
  unfold zipD at h
  rw [List.getElem?_map] at h
  cases e : (xs.zip ys)[i]? with
  | none => rw [e] at h; cases h
  | some q =>
    rw [e] at h
    obtain ⟨h1, h2⟩ := List.getElem?_zip_eq_some.mp e
    exact ⟨q.1, q.2, h1, h2, (Option.some.inj h).symm⟩
theorem enumD_at {xs : List D} {i : Nat} {d : D} (h : (enumD xs)[i]? = some d) : ∃ x, xs[i]? = some x ∧ d = .tup [.int (i : Nat), x] := by
  unfold enumD at h
  rw [List.getElem?_mapIdx] at h
  cases e : xs[i]? with
  | none => rw [e] at h; cases h
  | some q =>
    rw [e] at h
    exact ⟨q, rfl, (Option.some.inj h).symm⟩
theorem enumD_len (xs : List D) : (enumD xs).length = xs.length := by simp [enumD]
theorem zipD_len (xs ys : List D) : (zipD xs ys).length = min xs.length ys.length := by simp [zipD]
section
variable {X : Cx} {c : Cf} {tg e a b : Expr} {m : ME} {ms : MA} {pos q : Pos}
theorem dIlist (h : DE X c e m) (hK : X.K = c.W.K := by rfl) : DI X c tg e (mIseq m) :=
  (pi_list h).imp fun σ H R ⟨F, u, ρ, S, h⟩ => ⟨F, u, ρ, S, (After.split h).imp fun d u1 F1 H1 _ s1 g1 h1 v rv => by
    obtain ⟨ds, e1, h2⟩ := lft_some h1
    cases d with
    | lst es =>
      cases e1
      obtain ⟨a, vs, rfl, ha, rs⟩ := rv.lst_
      exact ⟨a, rfl, ⟨vs, SqL.of (g1.ex _ _ ha)⟩, by rw [hK]; exact After.now g1 h2 _ (walkD_list ha rs)⟩
    | _ => cases e1⟩
theorem dItup (h : DE X c e m) (hK : X.K = c.W.K := by rfl) : DI X c tg e (mItup m) :=
  (pi_tup h).imp fun σ H R ⟨F, u, ρ, S, h⟩ => ⟨F, u, ρ, S, (After.split h).imp fun d u1 F1 H1 _ s1 g1 h1 v rv => by
    obtain ⟨ds, e1, h2⟩ := lft_some h1
    cases d with
    | tup es =>
      cases e1
      obtain ⟨a, vs, rfl, ha, rs⟩ := rv.tup_
      exact ⟨a, rfl, ⟨vs, by rw [hK]; exact sq_t g1.ex ha⟩, by rw [hK]; exact After.now g1 h2 _ (walkD_tup ha rs)⟩
    | _ => cases e1⟩
theorem dIrng1 (hg : Gl X "range") (hm : X.mg "range" = none) (ha : DA X c [a] ms) (hs : starEach [a] X.env = [(false, eval a X.env)] := by rfl) : DI X c tg (.Call (.Name "range" q) [a] [] pos) (mIof rng1 ms) :=
  (pi_range1 hg hm ha hs).imp fun σ H R ⟨F, u, ρ, S, h⟩ => ⟨F, u, ρ, S, (After.split h).imp fun ds u1 F1 H1 _ s1 g1 h1 vs rv => by
    obtain ⟨es, e1, h2⟩ := lft_some h1
    unfold rng1 at e1
    split at e1
    · rename_i j _h
      split at e1
      · rename_i hj
        cases e1
        obtain ⟨v, vr, rfl, r1, r2⟩ := rv.uncons
        rw [r2.none, r1.int_]
        exact ⟨j, rfl, by omega, by omega, After.now g1 h2 _ walkD_range⟩
      · cases e1
    · cases e1⟩
theorem dIrng2 (hg : Gl X "range") (hm : X.mg "range" = none) (ha : DA X c [a, b] ms) (hs : starEach [a, b] X.env = [(false, eval a X.env), (false, eval b X.env)] := by rfl) (hs2 : starEach [b] X.env = [(false, eval b X.env)] := by rfl) :
    DI X c tg (.Call (.Name "range" q) [a, b] [] pos) (mIof rng2 ms) :=
  (pi_range2 hg hm ha hs hs2).imp fun σ H R ⟨F, u, ρ, S, h⟩ => ⟨F, u, ρ, S, (After.split h).imp fun ds u1 F1 H1 _ s1 g1 h1 vs rv => by
    obtain ⟨es, e1, h2⟩ := lft_some h1
    unfold rng2 at e1
    split at e1
    · rename_i i j _h
      split at e1
      · rename_i hj
        cases e1
        obtain ⟨v, vr, rfl, r1, r2⟩ := rv.uncons
        obtain ⟨w, wr, rfl, r3, r4⟩ := r2.uncons
        rw [r4.none, r1.int_, r3.int_]
        exact ⟨i, j, rfl, ⟨by omega, by omega, by omega, by omega⟩, After.now g1 h2 _ walkD_range⟩
      · cases e1
    · cases e1⟩
theorem dIenum {elts : List Expr} {kk : Nat} {tpos : Pos} (hg : Gl X "enumerate") (hm : X.mg "enumerate" = none) (ha : DA X c [a] ms) (hs : starEach [a] X.env = [(false, eval a X.env)] := by rfl) (hK : X.K = c.W.K := by rfl) :
    DI X c (.Tuple elts kk tpos) (.Call (.Name "enumerate" q) [a] [] pos) (mIof enum1 ms) :=
  (pi_enum hg hm ha hs).imp fun σ H R ⟨F, u, ρ, S, h⟩ => ⟨F, u, ρ, S, (After.split h).imp fun ds u1 F1 H1 _ s1 g1 h1 vs rv => by
    obtain ⟨es, e1, h2⟩ := lft_some h1
    unfold enum1 at e1
    split at e1
    · rename_i xs _h
      cases e1
      obtain ⟨v, vr, rfl, r1, r2⟩ := rv.uncons
      rw [r2.none]
      obtain ⟨p1, v1, rfl, f1, q1⟩ := r1.lst_
      refine ⟨p1, v1, rfl, SqL.of (g1.ex _ _ f1), After.now g1 h2 _ ?_⟩
      rw [hK]
      refine walkD_pair (n := v1.length) (by rw [enumD_len, q1.1]) walk_enum (fun H e => SqL.of (e _ _ f1)) fun i x y d hx hy hd => ?_
      obtain ⟨y', e2, rfl⟩ := enumD_at hd
      cases hx
      exact ⟨_, y', rfl, .int _, q1.2 i y y' hy e2⟩
    · cases e1⟩
end

/-! ### comprehensions -/
def wipeE (ρ : Env) : List Nat → Env
  | [] => ρ
  | v :: vs => (wipeE ρ vs).set v .un
theorem wipe_get {σ : L2.St} {j : Nat} : ∀ {vs : List Nat}, j ∉ vs → (wipe σ vs)[j]? = σ[j]?
  | [], _ => rfl
  | v :: vs, h => by
    show ((wipe σ vs).set v none)[j]? = _
    rw [List.getElem?_set_ne (fun z => h (by simp [z])), wipe_get (fun z => h (List.mem_cons_of_mem _ z))]
theorem wipeE_len (ρ : Env) : ∀ vs : List Nat, (wipeE ρ vs).length = ρ.length
  | [] => rfl
  | v :: vs => by show ((wipeE ρ vs).set v .un).length = _; rw [List.length_set, wipeE_len ρ vs]
theorem wipeE_get {ρ : Env} {j : Nat} {s : Sd} : ∀ {vs : List Nat}, (wipeE ρ vs)[j]? = some s → s = .un ∨ (j ∉ vs ∧ ρ[j]? = some s)
  | [], h => .inr ⟨by simp, h⟩
  | v :: vs, h => by
    have h' : ((wipeE ρ vs).set v .un)[j]? = some s := h
    rcases set_get h' with ⟨_, e, _⟩ | ⟨ne, h2⟩
    · exact .inl e
    · rcases wipeE_get h2 with e | ⟨a, b⟩
      · exact .inl e
      · exact .inr ⟨fun z => (List.mem_cons.mp z).elim (fun q => ne q.symm) a, b⟩
theorem Sta.wipe {c : Cf} {u : PuS} {F H : Hp} {σ : L2.St} {ρ : Env} (S : Sta c u F H σ ρ) (vs : List Nat) : Sta c u F H (wipe σ vs) (wipeE ρ vs) := by
  refine ⟨S.ent, S.gd, by rw [wipe_length, wipeE_len]; exact S.env.len, fun i s e => ?_, fun i j s t h e1 e2 o1 o2 => ?_⟩
  · rcases wipeE_get e with rfl | ⟨hn, e⟩
    · trivial
    · rw [wipe_get hn]; exact S.env.at_ i s e
  · rcases wipeE_get e1 with rfl | ⟨n1, e1⟩
    · cases o1
    · rcases wipeE_get e2 with rfl | ⟨n2, e2⟩
      · cases o2
      · rw [wipe_get n1, wipe_get n2]; exact S.env.ne i j s t h e1 e2 o1 o2
theorem wipe_in {σ : L2.St} {j : Nat} : ∀ {vs : List Nat}, j ∈ vs → (wipe σ vs)[j]? = if j < σ.length then some none else none
  | [], h => by cases h
  | v :: vs, h => by
    show ((wipe σ vs).set v none)[j]? = _
    by_cases e : v = j
    · subst e
      rw [List.getElem?_set]
      simp [wipe_length]
    · rw [List.getElem?_set_ne e]
      exact wipe_in ((List.mem_cons.mp h).resolve_left fun z => e z.symm)
theorem wipe_agr {σ σ' : L2.St} {is vs : List Nat} (h : ∀ i ∈ is, i ∈ vs) (a : Agr is (wipe σ vs) σ') : wipe σ' vs = wipe σ vs := by
  apply List.ext_getElem?
  intro j
  have hl : σ'.length = σ.length := by rw [a.1, wipe_length]
  by_cases hj : j ∈ vs
  · rw [wipe_in hj, wipe_in hj, hl]
  · rw [wipe_get hj, a.2 j (fun z => hj (h j z))]
theorem bind_some {α β : Type} {m : M α} {f : α → M β} {u : PuS} {r : β × PuS} (h : M.bind m f u = some r) : ∃ a u1, m u = some (a, u1) ∧ f a u1 = some r := by
  unfold M.bind at h
  cases e : m u with
  | none => rw [e] at h; cases h
  | some x =>
    obtain ⟨a, u1⟩ := x
    rw [e] at h
    exact ⟨a, u1, rfl, h⟩
def lcD (g : MG) (mt : MT) (me : ME) (ρ : Env) : List D → M (List D)
  | [] => M.pure []
  | d :: ds => M.bind (lft (g d ρ)) fun ρ1 => M.bind (mt ρ1) fun b =>
    if b = true then M.bind (me ρ1) fun y => M.bind (lcD g mt me ρ ds) fun ys => M.pure (y :: ys) else lcD g mt me ρ ds
def mLcO (vs : List Nat) (mi : MA) (g : MG) (mt : MT) (me : ME) : MA := fun ρ => M.bind (mi ρ) fun ds => if ds.length ≤ 100000 then lcD g mt me (wipeE ρ vs) ds else lft none
/-- a fresh list, frozen -/
def mFz (m : MA) : ME := fun ρ => M.bind (m ρ) fun ds => M.pure (.lst ds)
theorem dFz {X : Cx} {c : Cf} {e : Expr} {m : MA} (h : DL X c e m) : DE X c e (mFz m) := h.imp fun σ H Q ⟨F, u, ρ, S, h⟩ => by
  refine ⟨F, u, ρ, S, ?_⟩
  have h' : After c.p F H (M.bind (m ρ) (fun ds => M.pure (.lst ds)) u) fun d _ F' H' => ∀ v, Rep c.W c.p F' v d → Q v H' := h
  unfold M.bind at h'
  cases e1 : m ρ u with
  | none => rw [e1] at h'; exact h'
  | some x =>
    obtain ⟨ds, u1⟩ := x
    rw [e1] at h'
    intro F1 H1 s1 g1 q ws hF hn hq r
    have h2 : After c.p F H (some (D.lst ds, u1)) (fun d _ F' H' => ∀ v, Rep c.W c.p F' v d → Q v H') := h'
    have hsm : Same F1 (upd F1 q (.lst ws)) := fun a o e => by rw [upd_ne (fun z => by rw [z, hF] at e; cases e)]; exact e
    have hpq : c.p ≠ q := fun z => S.gd.ne (z ▸ hn)
    refine h2 (upd F1 q (.lst ws)) H1 ⟨s1.ef.trans hsm, s1.eh, fun a o e => ?_⟩ ⟨fun a o e => ?_, g1.pu, fun l e => by rw [upd_ne hpq]; exact g1.off l e⟩ (.ref q) (Rep.mkL upd_same (r.mono hsm))
    · by_cases ha : a = q
      · subst ha; exact .inr hn
      · rw [upd_ne ha] at e; exact s1.nw a o e
    · by_cases ha : a = q
      · subst ha; rw [upd_same] at e; cases e; exact hq
      · rw [upd_ne ha] at e; exact g1.ex a o e
def mYes : MT := fun _ => M.pure true
section
variable {c : Cf} {is vs : List Nat} {mi : MA} {g : MG} {mt : MT} {me : ME}
/-- the reading of a comprehension, from its mirror: the new list is handed over, not frozen -/
theorem rdLc (his : ∀ i ∈ is, i ∈ vs) (σ : L2.St) (H : Hp) (Q : VK) (F : Hp) (u : PuS) (ρ : Env) (S : Sta c u F H σ ρ)
    (h : After c.p F H (mLcO vs mi g mt me ρ u) fun ds _ F' H' => ∀ q ws, F' q = none → H q = none → H' q = some (.lst ws) → Reps c.W c.p F' ws ds → Q (.ref q) H') : tLc (rdI c mi) (rdG c is g) (rdT c mt) (rdE c me) vs σ H Q := by
  refine ⟨F, u, ρ, S, (After.split h).imp fun ds u1 F1 H1 _ s1 g1 h1 J hJ Dl hD => ?_⟩
  have S1 := S.step s1 g1
  by_cases hlen : ds.length ≤ 100000
  case neg => rw [if_neg hlen] at h1; exact False.elim h1
  rw [if_pos hlen] at h1
  obtain ⟨G, Y, w, hG, hY⟩ := hJ
  -- what is wanted at the end
  cases hr : lcD g mt me (wipeE ρ vs) ds u1 with
  | none => rw [hr] at h1; exact False.elim h1
  | some out =>
    obtain ⟨out, uf⟩ := out
    rw [hr] at h1
    refine lc_it w (fun i H' => ∃ F' u' done acc rest, Stp c.p F1 H1 F' H' ∧ Gd c.p u' F' H' ∧ F' Dl = none ∧ H' Dl = some (.lst acc) ∧ Reps c.W c.p F' acc done ∧ done.length ≤ i ∧
      lcD g mt me (wipeE ρ vs) (ds.drop i) u' = some (rest, uf) ∧ done ++ rest = out) ?_ ?_ ?_ ?_
    · exact ⟨F1, u1, [], [], out, Stp.own hD, g1.own hD, g1.fresh hD, upd_same, Reps.nil, Nat.le_refl _, by simpa using hr, rfl⟩
    · rintro i H' _ ⟨F', u', done, acc, rest, s', g', _⟩
      exact hG H' (s'.ef.trans g'.ex)
    · rintro i x H2 H3 hi ⟨F', u', done, acc, rest, s', g', hf, ha, ra, hl, hd, ho⟩ hy
      have hdi : ds[i]? = some ds[i] := List.getElem?_eq_getElem hi
      obtain ⟨F3, s3, g3, r3⟩ := hY i H2 x H3 F' u' _ hdi s'.ef g' hy
      rw [List.drop_eq_getElem_cons hi] at hd
      unfold lcD at hd
      have S3 : Sta c u' F3 H3 (wipe σ vs) (wipeE ρ vs) := ((S1.step s' g').step s3 g3).wipe vs
      refine ⟨F3, u', wipeE ρ vs, ds[i], S3, r3, ?_⟩
      cases eg : g ds[i] (wipeE ρ vs) with
      | none => rw [eg] at hd; cases hd
      | some ρ1 =>
        rw [eg] at hd
        intro σ2 S2 a2
        refine ⟨wipe_agr his a2, F3, u', ρ1, S2, ?_⟩
        have hd2 : M.bind (mt ρ1) (fun b => if b = true then M.bind (me ρ1) fun y => M.bind (lcD g mt me (wipeE ρ vs) (ds.drop (i + 1))) fun ys => M.pure (y :: ys) else lcD g mt me (wipeE ρ vs) (ds.drop (i + 1))) u' = some (rest, uf) := hd
        unfold M.bind at hd2
        have s13 := s'.trans g'.ne s3
        cases et : mt ρ1 u' with
        | none => rw [et] at hd2; cases hd2
        | some bt =>
          obtain ⟨bt, u2⟩ := bt
          rw [et] at hd2
          intro F4 H4 s4 g4
          have s14 := s13.trans g3.ne s4
          have hf4 : F4 Dl = none := s4.off (s3.off hf (by rw [ha]; simp)) (by rw [s3.eh Dl _ (fun z => g1.ne (z ▸ hD)) ha]; simp)
          have ha4 : H4 Dl = some (.lst acc) := s4.eh Dl _ (fun z => g1.ne (z ▸ hD)) (s3.eh Dl _ (fun z => g1.ne (z ▸ hD)) ha)
          have hpd : Dl ≠ c.p := fun z => g1.ne (z ▸ hD)
          cases bt with
          | false =>
            show ∃ F' u' done acc rest, _
            exact ⟨F4, u2, done, acc, rest, s14, g4, hf4, ha4, ra.mono (s3.ef.trans s4.ef), by omega, hd2, ho⟩
          | true =>
            show rdE c me σ2 H4 _
            refine ⟨F4, u2, ρ1, S2.step s4 g4, ?_⟩
            have hd3 : M.bind (me ρ1) (fun y => M.bind (lcD g mt me (wipeE ρ vs) (ds.drop (i + 1))) fun ys => M.pure (y :: ys)) u2 = some (rest, uf) := hd2
            unfold M.bind at hd3
            cases ee : me ρ1 u2 with
            | none => rw [ee] at hd3; cases hd3
            | some y =>
              obtain ⟨y, u3⟩ := y
              rw [ee] at hd3
              intro F5 H5 s5 g5 v rv
              have ha5 := s5.eh Dl _ hpd ha4
              have hf5 : F5 Dl = none := s5.off hf4 (by rw [ha4]; simp)
              refine ⟨acc, ha5, sz5l (by have := ra.1; omega), ?_⟩
              obtain ⟨ys, u4, el, e5⟩ := bind_some (m := lcD g mt me (wipeE ρ vs) (ds.drop (i + 1))) (f := fun ys => M.pure (y :: ys)) (u := u3) (r := (rest, uf)) hd3
              have e5 : some (y :: ys, u4) = some (rest, uf) := e5
              injection e5 with e5
              injection e5 with e6 e7
              subst e6 e7
              have s15 := s14.trans g4.ne s5
              refine ⟨F5, u3, done ++ [y], acc ++ [v], ys, ⟨s15.ef, fun a o hap e => ?_, s15.nw⟩, ⟨fun a o e => ?_, ?_, g5.off⟩, hf5, upd_same, ?_, by simp; omega, el, by simpa using ho⟩
              · rw [upd_ne (ne_of_none e hD)]; exact s15.eh a o hap e
              · rw [upd_ne (fun z => by rw [z, hf5] at e; cases e)]; exact g5.ex a o e
              · rw [upd_ne (Ne.symm hpd)]; exact g5.pu
              · exact (ra.mono ((s3.ef.trans s4.ef).trans s5.ef)).append (Reps.cons rv Reps.nil)
    · rintro H' ⟨F', u', done, acc, rest, s', g', hf, ha, ra, hl, hd, ho⟩
      rw [List.drop_eq_nil_of_le (Nat.le_refl _)] at hd
      have hd' : some (([] : List D), u') = some (rest, uf) := hd
      injection hd' with hd'
      injection hd' with e1 e2
      subst e1 e2
      rw [List.append_nil] at ho
      subst ho
      exact h1 F' H' s' g' Dl acc hf (s1.back g1.ne hD) ha ra
end
section
variable {X : Cx} {c : Cf} {elt tg iter : Expr} {ifs : List Expr} {scope : Scope} {own : List (Str × Nat)} {pos : Pos} {is : List Nat} {mi : MA} {g : MG} {mt : MT} {me : ME}
theorem dYes : PTs X [] (rdT c mYes) := pts_nil.imp fun σ H Q ⟨F, u, ρ, S, h⟩ => After.now S.gd h
theorem dLcO (hc : X.calm = true) (hN : X.N.Nodup) (hi : DI X c tg iter mi) (ok : BlkOk X.N X.env.scope scope own) (hg : ∀ (s : Shared) (H : Hp) (C : Addr) (cl : List (Str × Addr)) (fp : List Addr), DG (X.blk s H scope (compEnvC scope cl C X.env) fp) c tg is g)
    (ht : ∀ (s : Shared) (H : Hp) (C : Addr) (cl : List (Str × Addr)) (fp : List Addr), PTs (X.blk s H scope (compEnvC scope cl C X.env) fp) ifs (rdT c mt)) (he : ∀ (s : Shared) (H : Hp) (C : Addr) (cl : List (Str × Addr)) (fp : List Addr), DE (X.blk s H scope (compEnvC scope cl C X.env) fp) c elt me)
    (his : ∀ i ∈ is, i ∈ own.map (·.2) := by decide) (hs : ∀ x, foldedSetIterable iter X.env x = pure x := by intro _; rfl) : DL X c (.ListComp elt [⟨tg, iter, ifs, 0⟩] scope pos) (mLcO (own.map (·.2)) mi g mt me) :=
  (pe_lc hc hN hi ok hg ht he hs).imp fun σ H Q ⟨F, u, ρ, S, h⟩ => rdLc his σ H Q F u ρ S h
end
end Mi


set_option Elab.async false
set_option linter.all false
set_option maxRecDepth 100000
set_option maxHeartbeats 2000000
/-! Mi4: owned lists, calls, classes, a def's promise. -/
namespace Mi
open PySem PySem.Spec PyProof.Rows L2

/-! ### owned lists -/
def vOw (ρ : Env) (i : Nat) : Option (List D) := match ρ[i]? with
  | some (.ow ds) => some ds
  | _ => none
def mApp (i : Nat) (m : ME) : MS := fun ρ => M.bind (m ρ) fun d => M.bind (lft (vOw ρ i)) fun ds => M.bind (lft (if ds.length < 100000 then some () else none)) fun _ => M.pure (.nx (ρ.set i (.ow (ds ++ [d]))))
def mPut (i : Nat) (m mi : ME) : MS := fun ρ => M.bind (m ρ) fun d => M.bind (mi ρ) fun k => M.bind (lft (vOw ρ i)) fun ds => M.bind (lft (match k with
  | .int j => ixN ds.length j
  | _ => none)) fun n => M.pure (.nx (ρ.set i (.ow (ds.set n d))))
def mIxO (i : Nat) (mi : ME) : ME := fun ρ => M.bind (mi ρ) fun k => M.bind (lft (vOw ρ i)) fun ds => lft (match k with
  | .int j => atI ds j
  | _ => none)
def frz (i : Nat) (ρ : Env) : Env := match vOw ρ i with
  | some ds => ρ.set i (.sh (.lst ds))
  | none => ρ
def mFrz (i : Nat) (m : MS) : MS := fun ρ => m (frz i ρ)
section
variable {X : Cx} {c : Cf} {pos : Pos} {e ie : Expr} {m mi : ME} {i : Nat} {x : Str}
theorem vOw_at {ρ : Env} {ds : List D} (h : vOw ρ i = some ds) : ρ[i]? = some (.ow ds) := by
  unfold vOw at h
  split at h
  · rename_i z; cases h; exact z
  · cases h
theorem Sta.ow {u : PuS} {F H : Hp} {σ : L2.St} {ρ : Env} {ds : List D} (S : Sta c u F H σ ρ) (h : vOw ρ i = some ds) :
    ∃ q vs, σ[i]? = some (some (.ref q)) ∧ H q = some (.lst vs) ∧ F q = none ∧ q ≠ c.p ∧ c.H0 q = none ∧ Reps c.W c.p F vs ds := S.env.at_ i _ (vOw_at h)
theorem lft_some' {α β : Type} {o : Option α} {f : α → M β} {u : PuS} {p : Addr} {F H : Hp} {Φ : β → PuS → Hp → Hp → Prop} (h : After p F H (M.bind (lft o) f u) Φ) : ∃ a, o = some a ∧ After p F H (f a u) Φ := by
  cases o with
  | none => exact False.elim h
  | some a => exact ⟨a, rfl, h⟩
theorem dApp (i : Nat) {x : Str} {p0 apos cpos : Pos} (he : DE X c e m) (hN : X.N[i]? = some x := by rfl) (hv : Vis X.env.scope x := by first | exact Or.inl rfl | exact Or.inr (Or.inl rfl) | exact Or.inr (Or.inr rfl)) (hd : (x == ("__debug__" : Str)) = false := by decide)
    (hcd : (x == ("__classdict__" : Str)) = false := by decide) (hbase : attributeBase (.Name x p0) "append" X.env (eval (.Name x p0) X.env) = eval (.Name x p0) X.env := by rfl)
    (hfew : ((backTo cpos (starEach [e] X.env)).all (fun x => !x.1) && (backToKw cpos (keywordEach [] X.env)).all (fun x => x.1.isSome)
      && decide (([e] : List Expr).length + ([] : List Keyword).length + (if ([] : List Keyword).isEmpty then 0 else 1) < 30)) = true := by rfl)
    (hline : (apos.endLine == cpos.line) = true := by rfl) (hst : starEach [e] X.env = (false, eval e X.env) :: starEach [] X.env := by rfl) (hplain : (backTo cpos (starEach [] X.env)).any (·.1) = false := by rfl)
    (hs : swapsWith (.Call (.Attribute (.Name x p0) "append" apos) [e] [] cpos) none pos.line X.env = pure false := by rfl) :
    DS X c (.Expr (.Call (.Attribute (.Name x p0) "append" apos) [e] [] cpos) pos) (mApp i m) :=
  (ps_expr (pe_bm PySem.F.plainAttrs_list PySem.F.slot_list_append PySem.F.type_list_append mt_append (pe_var (i := i) hN hv hd hcd) (pa_cons he pa_nil hst) hbase hfew hline hst hplain) hs).imp fun Dn σ H ⟨F, u, ρ, S, h⟩ => by
    unfold mApp at h
    have key : ∀ ds, vOw ρ i = some ds → tDrop (tBM X.K "list" rAppend (tVar i) (tCons (rdE c m) tNil)) Dn σ H := fun ds hds => by
      obtain ⟨q, vs, e1, hq, _⟩ := S.ow hds
      refine ⟨.ref q, e1, .inl ⟨rfl, vs, SqL.of hq⟩, F, u, ρ, S, (flowO.after S h).imp fun d u1 F1 H1 _ s1 g1 h1 v rv => ?_⟩
      obtain ⟨ds', e2, h2⟩ := flowO.lft h1.1 h1.2
      rw [hds] at e2
      cases e2
      obtain ⟨_, e3, h3⟩ := flowO.lft h1.1 h2
      obtain ⟨q', vs', e1', hq', _, _, _, r'⟩ := h1.1.ow hds
      rw [e1] at e1'
      cases e1'
      split at e3
      · rename_i hl
        refine ⟨q, vs', v, rfl, rfl, hq', sz5l (by rw [r'.1]; omega), h3 σ F1 _ (Same.refl _) ?_⟩
        exact h1.1.put (vOw_at hds) e1 (r'.append (Reps.cons rv Reps.nil))
      · cases e3
    cases ho : vOw ρ i with
    | some ds => exact key ds ho
    | none =>
      exfalso
      cases e1 : m ρ u with
      | none =>
        unfold M.bind at h
        rw [e1] at h
        exact h
      | some y =>
        unfold M.bind at h
        rw [e1, ho] at h
        exact h
theorem dPut (i : Nat) {x : Str} {p0 tp : Pos} (he : DE X c e m) (hk : DE X c ie mi) (hN : X.N[i]? = some x := by rfl) (hv : Vis X.env.scope x := by first | exact Or.inl rfl | exact Or.inr (Or.inl rfl) | exact Or.inr (Or.inr rfl)) (hd : (x == ("__debug__" : Str)) = false := by decide)
    (hcd : (x == ("__classdict__" : Str)) = false := by decide)
    (ha : ∀ v, assign (.Subscript (.Name x p0) ie tp) X.env v = (do
      let ov ← holding [v] (eval (.Name x p0) X.env)
      let iv ← holding [v, ov] (eval ie X.env)
      standAt tp
      holding [v, ov, iv] (setItem ov iv v)
      release [v, ov, iv] []) := by intro _; rfl)
    (hs : swapsWithSole [.Subscript (.Name x p0) ie tp] e pos.line X.env = pure false := by rfl) (hw : swappedStores [.Subscript (.Name x p0) ie tp] e X.env = pure none := by rfl)
    (h1 : (assignEach [.Subscript (.Name x p0) ie tp] X.env).map (·.2) = [assign (.Subscript (.Name x p0) ie tp) X.env] := by rfl) : DS X c (.Assign [.Subscript (.Name x p0) ie tp] e pos) (mPut i m mi) :=
  (ps_asg he (pg_sub (pe_var (i := i) hN hv hd hcd) hk set_list ha) hs hw h1).imp fun Dn σ H ⟨F, u, ρ, S, h⟩ => ⟨F, u, ρ, S, (flowO.after S h).imp fun d u1 F1 H1 _ s1 g1 h1 v rv => by
    have key : ∀ ds, vOw ρ i = some ds → ∃ w, σ[i]? = some (some w) ∧ rdE c mi σ H1 fun i' H3 => rSetL w i' v H3 fun H4 => Dn.nx σ H4 := fun ds hds => by
      obtain ⟨q, vs, e1, _⟩ := h1.1.ow hds
      refine ⟨.ref q, e1, F1, u1, ρ, h1.1, (flowO.after h1.1 h1.2).imp fun k u2 F2 H2 _ s2 g2 h2 w rw => ?_⟩
      obtain ⟨ds', e2, h3⟩ := flowO.lft h2.1 h2.2
      rw [hds] at e2
      cases e2
      obtain ⟨n, e3, h4⟩ := flowO.lft h2.1 h3
      obtain ⟨q', vs', e1', hq', _, _, _, r'⟩ := h2.1.ow hds
      rw [e1] at e1'
      cases e1'
      cases k with
      | int j =>
        refine ⟨q, vs', j, n, rfl, rw.int_, hq', by rw [r'.1]; exact e3, h4 σ F2 _ (Same.refl _) (h2.1.put (vOw_at hds) e1 ⟨by simp [r'.1], fun a v' d' ea eb => ?_⟩)⟩
        rcases set_get eb with ⟨rfl, rfl, _⟩ | ⟨ne, eb⟩
        · rcases set_get ea with ⟨_, rfl, _⟩ | ⟨ne, _⟩
          · exact rv.mono s2.ef
          · exact absurd rfl ne
        · rw [List.getElem?_set_ne ne] at ea
          exact r'.2 a v' d' ea eb
      | _ => cases e3
    cases ho : vOw ρ i with
    | some ds => exact key ds ho
    | none =>
      exfalso
      have h2 := h1.2
      unfold M.bind at h2
      cases e1 : mi ρ u1 with
      | none => rw [e1] at h2; exact h2
      | some y => rw [e1, ho] at h2; exact h2⟩
theorem dIxO (i : Nat) {x : Str} {p0 : Pos} (hk : DE X c ie mi) (hN : X.N[i]? = some x := by rfl) (hv : Vis X.env.scope x := by first | exact Or.inl rfl | exact Or.inr (Or.inl rfl) | exact Or.inr (Or.inr rfl)) (hd : (x == ("__debug__" : Str)) = false := by decide)
    (hcd : (x == ("__classdict__" : Str)) = false := by decide) (hs : PlainIx ie := by exact fun _ _ => rfl) : DE X c (.Subscript (.Name x p0) ie pos) (mIxO i mi) :=
  (pe_ix ix_list (pe_var (i := i) hN hv hd hcd) hk hs).imp fun σ H Q ⟨F, u, ρ, S, h⟩ => by
    have key : ∀ ds, vOw ρ i = some ds → ∃ w, σ[i]? = some (some w) ∧ rdE c mi σ H fun y H2 => rIxL X.K w y H2 Q := fun ds hds => by
      obtain ⟨q, vs, e1, _⟩ := S.ow hds
      refine ⟨.ref q, e1, F, u, ρ, S, (After.split h).imp fun k u2 F2 H2 _ s2 g2 h2 w rw => ?_⟩
      obtain ⟨ds', e2, h3⟩ := lft_some' h2
      rw [hds] at e2
      cases e2
      obtain ⟨d, e3, h4⟩ := lft_some h3
      obtain ⟨q', vs', e1', hq', _, _, _, r'⟩ := (S.step s2 g2).ow hds
      rw [e1] at e1'
      cases e1'
      cases k with
      | int j =>
        have e4 : atI ds j = some d := e3
        unfold atI at e4
        cases hj : ixN ds.length j with
        | none => rw [hj] at e4; cases e4
        | some n =>
          rw [hj] at e4
          obtain ⟨v, ev, rv⟩ := r'.get e4
          refine ⟨q, vs', j, v, rfl, rw.int_, SqL.of hq', by unfold atI; rw [r'.1, hj]; exact ev, After.now g2 h4 v rv⟩
      | _ => cases e3
    cases ho : vOw ρ i with
    | some ds => exact key ds ho
    | none =>
      exfalso
      unfold mIxO M.bind at h
      cases e1 : mi ρ u with
      | none => rw [e1] at h; exact h
      | some y => rw [e1, ho] at h; exact h
theorem Sta.frz {u : PuS} {F H : Hp} {σ : L2.St} {ρ : Env} (S : Sta c u F H σ ρ) (i : Nat) : ∃ F', Same F F' ∧ Sta c u F' H σ (frz i ρ) := by
  unfold Mi.frz
  cases ho : vOw ρ i with
  | none => exact ⟨F, Same.refl F, S⟩
  | some ds =>
    obtain ⟨q, vs, e1, hq, hf, hp, h0, r⟩ := S.ow ho
    have hsm : Same F (upd F q (.lst vs)) := fun a o e => by rw [upd_ne (fun z => by rw [z, hf] at e; cases e)]; exact e
    have qs : ∀ {j : Nat} {t : Sd} {a : Addr}, i ≠ j → ρ[j]? = some t → t.own = true → σ[j]? = some (some (.ref a)) → a ≠ q := fun {j t a} ne e2 o z h => by
      subst h
      exact S.env.ne i j _ t ne (vOw_at ho) e2 rfl o (e1.trans z.symm)
    refine ⟨upd F q (.lst vs), hsm, ⟨S.ent.ef.trans hsm, S.ent.eh, fun a o e => ?_⟩, ⟨fun a o e => ?_, S.gd.pu, fun l e => by rw [upd_ne (Ne.symm hp)]; exact S.gd.off l e⟩, by simpa using S.env.len, fun j t e => ?_, fun j k t t' h ea eb o1 o2 => ?_⟩
    · by_cases ha : a = q
      · subst ha; exact .inr h0
      · rw [upd_ne ha] at e; exact S.ent.nw a o e
    · by_cases ha : a = q
      · subst ha; rw [upd_same] at e; cases e; exact hq
      · rw [upd_ne ha] at e; exact S.gd.ex a o e
    · rcases set_get e with ⟨rfl, rfl, _⟩ | ⟨ne, e⟩
      · exact ⟨.ref q, e1, Rep.mkL upd_same (r.mono hsm)⟩
      · have k := S.env.at_ j t e
        cases t with
        | un => trivial
        | sh d => obtain ⟨v, z, r'⟩ := k; exact ⟨v, z, r'.mono hsm⟩
        | ow es => obtain ⟨a, xs, z, ha, hfa, w1, w2, r'⟩ := k; exact ⟨a, xs, z, ha, by rw [upd_ne (qs ne e rfl z)]; exact hfa, w1, w2, r'.mono hsm⟩
        | oi kk ks es => obtain ⟨dx, xs, z, ha, hfa, w1, w2, w3, r'⟩ := k; exact ⟨dx, xs, z, ha, by rw [upd_ne (qs ne e rfl z)]; exact hfa, w1, w2, w3, r'.mono hsm⟩
    · rcases set_get ea with ⟨rfl, rfl, _⟩ | ⟨n1, ea⟩
      · cases o1
      · rcases set_get eb with ⟨rfl, rfl, _⟩ | ⟨n2, eb⟩
        · cases o2
        · exact S.env.ne j k t t' h ea eb o1 o2
theorem dFrzS (i : Nat) {st : Stmt} {ms : MS} (h : DS X c st ms) : DS X c st (mFrz i ms) := h.imp fun Dn σ H ⟨F, u, ρ, S, h⟩ => by
  obtain ⟨F', sm, S'⟩ := S.frz i
  exact ⟨F', u, _, S', flowO.mono sm h⟩
end

/-! ### a def's promise -/
def startE (n : Nat) (ds : List D) : Env := ds.map Sd.sh ++ List.replicate (n - ds.length) Sd.un
def mFn (n : Nat) (mb : MS) : List D → M D := fun ds u => match mb (startE n ds) u with
  | some (.rt d, u') => some (d, u')
  | some (.nx _, u') => some (.non, u')
  | _ => none
theorem env_start {c : Cf} {F H : Hp} {N : List Str} {vs : List V} {ds : List D} (r : Reps c.W c.p F vs ds) : EnvOk c F H (L2.start N vs) (startE N.length ds) := by
  have hl := r.1
  have nown : ∀ {i : Nat} {s : Sd}, (startE N.length ds)[i]? = some s → s.own = false := fun {i s} e => by
    unfold startE at e
    by_cases hi : i < (ds.map Sd.sh).length
    · rw [List.getElem?_append_left hi, List.getElem?_map] at e
      cases q : ds[i]? with
      | none => rw [q] at e; cases e
      | some d => rw [q] at e; cases e; rfl
    · rw [List.getElem?_append_right (by omega), List.getElem?_replicate] at e
      split at e
      · cases e; rfl
      · cases e
  refine ⟨?_, fun i s e => ?_, fun i j s t _ e1 _ o1 _ => by rw [nown e1] at o1; cases o1⟩
  · unfold L2.start startE
    simp [hl]
  · unfold startE at e
    by_cases hi : i < (ds.map Sd.sh).length
    · rw [List.getElem?_append_left hi, List.getElem?_map] at e
      cases q : ds[i]? with
      | none => rw [q] at e; cases e
      | some d =>
        rw [q] at e
        cases e
        obtain ⟨v, ev, rv⟩ := r.get q
        refine ⟨v, ?_, rv⟩
        unfold L2.start
        rw [List.getElem?_append_left (by simpa [hl] using hi), List.getElem?_map, ev]
        rfl
    · rw [List.getElem?_append_right (by omega), List.getElem?_replicate] at e
      split at e
      · cases e; trivial
      · cases e
section
variable {P : Program} {w : World} {K : PySem.W.Frag} {mg : Str → Option Value} {base : Heap} {x qual : Str} {params : Arguments} {body : List Stmt} {scope : Scope} {dvs : List V} {kws : List (Str × V)} {f : Addr} {fd : FuncData} {W : Wo} {N ps : List Str} {k : Nat} {mb : MS}
/-- a def by its body's mirror -/
theorem fn_mir (F : FunD K x qual params body scope dvs kws f fd) (S : FnScope N ps scope)
    (hb : ∀ (cdv : Value) (A : Around) (outer : List PySem.Env) (s : Shared) (H : Hp) (E : XK) (p : Addr) (F0 : Hp), Room k (A.deeper (envOfC qual scope s.heap.objs.size f cdv)) → DB (cxOf CX0 P w K mg base N qual scope f cdv A outer s H E).nox ⟨W, p, F0, H, 0⟩ body mb) :
    FnOk P w K mg base CX0 (k + 1) f fd ps (spM W ps.length (mFn N.length mb)) := by
  refine F.ok S (fun vs H Q E h => h.1) (fun cdv A outer s H vs Q E hr h => ?_)
  obtain ⟨hl, p, F0, u, ds, g, r, h⟩ := h
  refine ⟨_, PSs.nox (hb cdv A outer s H E p F0 hr), F0, u, startE N.length ds, ⟨Stp.refl, g, env_start r⟩, ?_⟩
  unfold mFn at h
  cases e : mb (startE N.length ds) u with
  | none => rw [e] at h; exact h
  | some y =>
    obtain ⟨fl, u1⟩ := y
    rw [e] at h
    cases fl with
    | rt d =>
      intro v F' H' s' g' rv
      have h2 : After p F0 H (some (d, u1)) (fun d _ F' H' => ∀ v, Rep W p F' v d → Q v H') := h
      exact h2 F' H' s' g' v rv
    | rl ds' => exact False.elim h
    | nx ρ' =>
      intro σ' F' H' _ S'
      have h2 : After p F0 H (some (D.non, u1)) (fun d _ F' H' => ∀ v, Rep W p F' v d → Q v H') := h
      exact h2 F' H' S'.ent S'.gd .non .non
    | bk ρ' => exact False.elim h
    | ct ρ' => exact False.elim h
end

/-! ### calls -/
def mCall (n : Nat) (mf : List D → M D) (ms : MA) : ME := fun ρ => M.bind (ms ρ) fun ds => if ds.length = n then mf ds else lft none
section
variable {X : Cx} {c : Cf} {CX : CXT} {k n : Nat} {f : Addr} {fd : FuncData} {ps : List Str} {x m : Str} {p pos apos : Pos} {e o : Expr} {es : List Expr} {ms : MA} {mo : ME} {mf : List D → M D}
theorem call_ok {p : Addr} {F H : Hp} {u : PuS} {vs : List V} {ds : List D} {W : Wo} {Q : VK} {E : XK} (g : Gd p u F H) (r : Reps W p F vs ds) (h : After p F H ((if ds.length = n then mf ds else lft none) u) fun d _ F' H' => ∀ v, Rep W p F' v d → Q v H') : spM W n mf vs H Q E := by
  by_cases hl : ds.length = n
  · rw [if_pos hl] at h
    exact ⟨r.1.trans hl, p, F, u, ds, g, r, h⟩
  · rw [if_neg hl] at h; exact False.elim h
theorem dCall (G : FnOk X.prog X.w X.K X.mg X.base CX0 k f fd ps (spM c.W n mf)) (hr : Room k X.A) (hg : Gl X x) (hm : X.mg x = some (.ref f)) (hk : PySem.W.keepIn X.K (.ref f) = true) (hb : Binds X.K fd ps [])
    (ha : DA X c (e :: es) ms) (hdb : (x == ("__debug__" : Str)) = false := by decide) (he : starEach (e :: es) X.env = (false, eval e X.env) :: starEach es X.env := by rfl) (hpl : (backTo pos (starEach es X.env)).any (·.1) = false := by rfl) :
    DE X c (.Call (.Name x p) (e :: es) [] pos) (mCall n mf ms) :=
  (pe_call G hr hg hm hk hb .nil pass0 ha hdb he hpl).imp fun σ H Q ⟨F, u, ρ, S, h⟩ => ⟨F, u, ρ, S, (After.split h).imp fun ds u1 F1 H1 _ s1 g1 h1 vs rvs => by
    show spM c.W n mf (vs ++ []) H1 Q E0
    rw [List.append_nil]
    exact call_ok g1 rvs h1⟩
/-! ### fields, properties, methods -/
/-- the field number i of an object of the class k with the fields ks -/
def fldD (k : Str) (ks : List Str) (i : Nat) : D → Option D := fun d => match d with
  | .obj c ks' ds => if c = k ∧ ks' = ks then ds[i]? else none
  | _ => none
theorem zip_lookup {ks : List Str} {vs : List V} {i : Nat} {f : Str} {v : V} (nd : ks.Nodup) (hk : ks[i]? = some f) (hv : vs[i]? = some v) : (ks.zip vs).lookup f = some v := by
  induction ks generalizing vs i with
  | nil => cases hk
  | cons a ks ih =>
    cases vs with
    | nil => cases hv
    | cons b vs =>
      cases i with
      | zero =>
        simp at hk hv
        subst hk hv
        simp [List.lookup]
      | succ i =>
        simp at hk hv
        have hne : (f == a) = false := by
          rw [beq_eq_false_iff_ne]
          rintro rfl
          exact (List.nodup_cons.mp nd).1 (List.mem_of_getElem? hk)
        show (match f == a with | true => some b | false => (ks.zip vs).lookup f) = some v
        rw [hne]
        exact ih (List.nodup_cons.mp nd).2 hk hv
theorem dFld {ck f : Str} {ks : List Str} (i : Nat) (hi : ks[i]? = some f) (nd : ks.Nodup) (hc : Cls X.K (c.W.cl ck)) (hn : NoAttr X.K (c.W.cl ck) f) (he : DE X c e mo) (hb : attributeBase e f X.env (eval e X.env) = eval e X.env := by rfl) : DE X c (.Attribute e f pos) (mUn (fldD ck ks i) mo) :=
  (pe_fld he hb).imp fun σ H Q ⟨F, u, ρ, S, h⟩ => ⟨F, u, ρ, S, (After.split h).imp fun d u1 F1 H1 _ s1 g1 h1 v rv => by
    obtain ⟨y, e1, h2⟩ := lft_some h1
    unfold fldD at e1
    split at e1
    · rename_i c' ks' ds _h
      split at e1
      · rename_i hh
        obtain ⟨rfl, rfl⟩ := hh
        obtain ⟨a, dx, vs, rfl, ha, lk, r⟩ := rv.obj_
        obtain ⟨w, ew, rw⟩ := r.get e1
        exact ⟨a, _, dx, _, w, rfl, g1.ex _ _ ha, hc, hn, zip_lookup nd hi ew, After.now g1 h2 w rw⟩
      · cases e1
    · cases e1⟩
def mSelf (k : Str) (mf : List D → M D) (mo : ME) : ME := fun ρ => M.bind (mo ρ) fun d => match d with
  | .obj c ks ds => if c = k then mf [.obj c ks ds] else lft none
  | _ => lft none
theorem dProp {ck f : Str} {pr g : Addr} (he : DE X c e mo) (hc : Cls X.K (c.W.cl ck)) (hp : PropOf X.K (c.W.cl ck) f pr g) (G : FnOk X.prog X.w X.K X.mg X.base CX0 k g fd ps (spM c.W 1 mf)) (hr : Room (k + 1) X.A) (hb : Binds X.K fd ps [])
    (hab : attributeBase e f X.env (eval e X.env) = eval e X.env := by rfl) : DE X c (.Attribute e f pos) (mSelf ck mf mo) :=
  (pe_prop he hc hp G hr hb .nil pass0 hab).imp fun σ H Q ⟨F, u, ρ, S, h⟩ => ⟨F, u, ρ, S, (After.split h).imp fun d u1 F1 H1 _ s1 g1 h1 v rv => by
    split at h1
    · rename_i c' ks' ds _h
      split at h1
      · rename_i hh
        subst hh
        obtain ⟨a, dx, vs, rfl, ha, lk, r⟩ := id rv.obj_
        exact ⟨a, dx, _, rfl, g1.ex _ _ ha, rfl, c.p, F1, u1, [_], g1, Reps.cons rv Reps.nil, h1⟩
      · exact False.elim h1
    · exact False.elim h1⟩
end
end Mi


set_option Elab.async false
set_option linter.all false
set_option maxRecDepth 100000
set_option maxHeartbeats 2000000
/-! Mi5: mirrors of operators and built-ins. -/
namespace Mi
open PySem PySem.Spec PyProof.Rows L2

section
variable {W : Wo} {p : Addr} {F H : Hp} {u : PuS}
theorem OpM.ret {Q : VK} {d : D} {o : Option D} {v : V} (g : Gd p u F H) (h : After p F H (lft o u) fun d _ F' H' => ∀ v, Rep W p F' v d → Q v H') (e : o = some d) (r : Rep W p F v d) : Q v H := by
  subst e
  exact After.now g h v r
theorem OpM.new {Q : VK} {d : D} {o : Option D} {q : Addr} {ob : HO} (g : Gd p u F H) (h : After p F H (lft o u) fun d _ F' H' => ∀ v, Rep W p F' v d → Q v H') (e : o = some d) (hq : H q = none) (r : Same F (upd F q ob) → Rep W p (upd F q ob) (.ref q) d) : Q (.ref q) (upd H q ob) := by
  subst e
  exact h _ _ (Stp.new g hq) (g.new hq) _ (r (Stp.new g hq).ef)
end

/-! ### ints -/
def int2 (f : Int → Int → Option D) : D → D → Option D
  | .int a, .int b => f a b
  | _, _ => none
theorem int2_some {f : Int → Int → Option D} {a b d : D} (h : int2 f a b = some d) : ∃ i j, a = .int i ∧ b = .int j ∧ f i j = some d := by
  unfold int2 at h
  split at h
  · exact ⟨_, _, rfl, rfl, h⟩
  · cases h
/-- an operator on ints with a condition C, mirrored by the decidable condition c -/
theorem opm_I {W : Wo} {C : Int → Int → Prop} {g : Int → Int → V} {c : Int → Int → Bool} {f : Int → Int → D} (hc : ∀ i j, c i j = true → C i j) (hg : ∀ p F i j, Rep W p F (g i j) (f i j)) : OpM W (rI C g) (int2 fun i j => if c i j = true then some (f i j) else none) := by
  intro p F H u x y a b Q gd rx ry h
  obtain ⟨d, e, _⟩ := lft_some h
  obtain ⟨i, j, rfl, rfl, e2⟩ := int2_some e
  split at e2
  · rename_i hcc
    cases e2
    exact ⟨i, j, rx.int_, ry.int_, hc i j hcc, OpM.ret gd h e (hg p F i j)⟩
  · cases e2
theorem opm_I0 {W : Wo} {g : Int → Int → V} {f : Int → Int → D} (hg : ∀ p F i j, Rep W p F (g i j) (f i j)) : OpM W (rI0 g) (int2 fun i j => some (f i j)) := by
  intro p F H u x y a b Q gd rx ry h
  obtain ⟨d, e, _⟩ := lft_some h
  obtain ⟨i, j, rfl, rfl, e2⟩ := int2_some e
  cases e2
  exact ⟨i, j, rx.int_, ry.int_, OpM.ret gd h e (hg p F i j)⟩
def subD : D → D → Option D := int2 fun i j => some (.int (i - j))
def ltD : D → D → Option D := int2 fun i j => some (.bl (decide (i < j)))
def leD : D → D → Option D := int2 fun i j => some (.bl (decide (i ≤ j)))
def gtD : D → D → Option D := int2 fun i j => some (.bl (decide (j < i)))
def geD : D → D → Option D := int2 fun i j => some (.bl (decide (j ≤ i)))
def fdivC (_ j : Int) : Bool := decide (0 < j ∧ j.natAbs.log2 < 9000)
def fdivD : D → D → Option D := int2 fun i j => if fdivC i j = true then some (.int (i / j)) else none
def modD : D → D → Option D := int2 fun i j => if decide (0 < j) = true then some (.int (i % j)) else none
def powC (i j : Int) : Bool := decide (0 ≤ j ∧ j ≤ 1000000 ∧ i.natAbs < 18446744073709551616)
def powD : D → D → Option D := int2 fun i j => if powC i j = true then some (.int (i ^ j.toNat)) else none
def CMulA (i j : Int) : Prop := CMul i j ∨ CMulW i j
def mulC (i j : Int) : Bool := decide ((-(2 ^ 64) < i ∧ i < 2 ^ 64) ∨ (-(2 ^ 64) < j ∧ j < 2 ^ 64)) || decide (i.natAbs.log2 + j.natAbs.log2 < 1000000)
theorem mulC_ok {i j : Int} (h : mulC i j = true) : CMulA i j := by
  unfold mulC at h
  rcases Bool.or_eq_true_iff.mp h with h | h
  · exact .inl (of_decide_eq_true (p := (-(2 ^ 64) < i ∧ i < 2 ^ 64) ∨ (-(2 ^ 64) < j ∧ j < 2 ^ 64)) h)
  · exact .inr (of_decide_eq_true (p := i.natAbs.log2 + j.natAbs.log2 < 1000000) h)
theorem CMulA.ok {i j : Int} (h : CMulA i j) : IntMulOk i j := h.elim CMul.ok CMulW.ok
theorem op_mulB {X : Cx} : OpR X (binaryOp .Mult) (rI CMulA fun i j => .int (i * j)) := opI fun _ _ _ _ _ _ _ hc q => mul_int q hc.ok
theorem m_sub {W : Wo} : OpM W (rI0 fun i j => .int (i - j)) subD := opm_I0 fun _ _ _ _ => .int _
theorem m_lt {W : Wo} : OpM W (rI0 fun i j => .bl (decide (i < j))) ltD := opm_I0 fun _ _ _ _ => .bl _
theorem m_le {W : Wo} : OpM W (rI0 fun i j => .bl (decide (i ≤ j))) leD := opm_I0 fun _ _ _ _ => .bl _
theorem m_gt {W : Wo} : OpM W (rI0 fun i j => .bl (decide (j < i))) gtD := opm_I0 fun _ _ _ _ => .bl _
theorem m_ge {W : Wo} : OpM W (rI0 fun i j => .bl (decide (j ≤ i))) geD := opm_I0 fun _ _ _ _ => .bl _
theorem m_fdiv {W : Wo} : OpM W (rI CDivW fun i j => .int (i / j)) fdivD := opm_I (fun i j h => of_decide_eq_true (p := 0 < j ∧ j.natAbs.log2 < 9000) h) fun _ _ _ _ => .int _
theorem m_mod {W : Wo} : OpM W (rI (fun _ j => 0 < j) fun i j => .int (i % j)) modD := opm_I (fun i j h => of_decide_eq_true h) fun _ _ _ _ => .int _
theorem m_pow {W : Wo} : OpM W (rI CPow fun i j => .int (i ^ j.toNat)) powD := opm_I (fun i j h => by
  have := of_decide_eq_true h
  exact ⟨this.1, this.2.1, by have e : (2 : Nat) ^ 64 = 18446744073709551616 := by decide
                              rw [e]; exact this.2.2⟩) fun _ _ _ _ => .int _
def negD : D → Option D
  | .int i => some (.int (-i))
  | _ => none
theorem m_neg {W : Wo} : UnM W (rU fun i => .int (-i)) negD := by
  intro p F H u x a Q gd rx h
  obtain ⟨d, e, _⟩ := lft_some h
  cases a with
  | int i => cases e; exact ⟨i, rx.int_, OpM.ret gd h rfl (.int _)⟩
  | _ => cases e

/-! ### + and * -/
def addD : D → D → Option D
  | .int a, .int b => some (.int (a + b))
  | .str a, .str b => if a.length + b.length ≤ 10000000 then some (.str (a ++ b)) else none
  | .lst a, .lst b => if a.length + b.length ≤ 100000 then some (.lst (a ++ b)) else none
  | .tup a, .tup b => if a.length + b.length ≤ 100000 then some (.tup (a ++ b)) else none
  | _, _ => none
def rAddA (K : PySem.W.Frag) : R2 := fun x y H Q => rI0 (fun i j => .int (i + j)) x y H Q ∨ (∃ i j, x = .str i ∧ y = .str j ∧ i.length + j.length ≤ sizeLine ∧ Q (.str (i ++ j)) H) ∨ rCat x y H Q ∨ rCatA K x y H Q
theorem op_addA {X : Cx} : OpR X (binaryOp .Add) (rAddA X.K) := op_add.or (op_add_str.or (op_cat.or op_catA))
theorem m_add {W : Wo} : OpM W (rAddA W.K) addD := by
  intro p F H u x y a b Q gd rx ry h
  obtain ⟨d, e, _⟩ := lft_some h
  unfold addD at e
  split at e
  · cases e
    exact .inl ⟨_, _, rx.int_, ry.int_, OpM.ret gd h rfl (.int _)⟩
  · rename_i i j
    split at e
    · rename_i hl
      cases e
      exact .inr (.inl ⟨i, j, rx.str_, ry.str_, Nat.le_trans hl (by decide), OpM.ret gd h (if_pos hl) (.str _)⟩)
    · cases e
  · rename_i xs ys
    split at e
    · rename_i hl
      cases e
      obtain ⟨a, vs, rfl, ha, ra⟩ := rx.lst_
      obtain ⟨b, ws, rfl, hb, rb⟩ := ry.lst_
      exact .inr (.inr (.inl ⟨a, b, vs, ws, rfl, rfl, gd.ex _ _ ha, gd.ex _ _ hb, sz5 (by rw [ra.1, rb.1]; exact hl), fun q hq => OpM.new gd h (if_pos hl) hq fun sm => Rep.mkL upd_same ((ra.mono sm).append (rb.mono sm))⟩))
    · cases e
  · rename_i xs ys
    split at e
    · rename_i hl
      cases e
      obtain ⟨a, vs, rfl, ha, ra⟩ := id rx.tup_
      obtain ⟨b, ws, rfl, hb, rb⟩ := id ry.tup_
      refine .inr (.inr (.inr ⟨a, b, vs, ws, rfl, rfl, sq_t gd.ex ha, sq_t gd.ex hb, sz5 (by rw [ra.1, rb.1]; exact hl), fun z => ?_, fun z z2 => ?_, fun z z2 q hq => OpM.new gd h (if_pos hl) hq fun sm => Rep.mkT upd_same ((ra.mono sm).append (rb.mono sm))⟩))
      · have e0 : xs = [] := List.eq_nil_of_length_eq_zero (by rw [← ra.1, z]; rfl)
        exact OpM.ret gd h (if_pos hl) (by rw [e0]; exact ry)
      · have e0 : ys = [] := List.eq_nil_of_length_eq_zero (by rw [← rb.1, z2]; rfl)
        exact OpM.ret gd h (if_pos hl) (by rw [e0, List.append_nil]; exact rx)
    · cases e
  · cases e
theorem Reps.rep {W : Wo} {p : Addr} {F : Hp} {vs : List V} {ds : List D} (r : Reps W p F vs ds) : ∀ n : Nat, Reps W p F (List.replicate n vs).flatten (List.replicate n ds).flatten
  | 0 => Reps.nil
  | n + 1 => by
    rw [List.replicate_succ, List.replicate_succ, List.flatten_cons, List.flatten_cons]
    exact r.append (Reps.rep r n)
def mulD : D → D → Option D
  | .int a, .int b => if mulC a b = true then some (.int (a * b)) else none
  | .lst a, .int k => if k ≤ 100000 ∧ -100000 ≤ k ∧ a.length * k.toNat ≤ 100000 then some (.lst (List.replicate k.toNat a).flatten) else none
  | _, _ => none
def rMulA : R2 := fun x y H Q => rI CMulA (fun i j => .int (i * j)) x y H Q ∨ rRep x y H Q
theorem op_mulA {X : Cx} : OpR X (binaryOp .Mult) rMulA := op_mulB.or op_rep
theorem m_mul {W : Wo} : OpM W rMulA mulD := by
  intro p F H u x y a b Q gd rx ry h
  obtain ⟨d, e, _⟩ := lft_some h
  unfold mulD at e
  split at e
  · split at e
    · rename_i hc
      cases e
      exact .inl ⟨_, _, rx.int_, ry.int_, mulC_ok hc, OpM.ret gd h (if_pos hc) (.int _)⟩
    · cases e
  · rename_i xs k
    split at e
    · rename_i hl
      cases e
      obtain ⟨a, vs, rfl, ha, ra⟩ := rx.lst_
      refine .inr ⟨a, k, vs, rfl, ry.int_, gd.ex _ _ ha, by omega, by omega, sz5 (by rw [ra.1]; exact hl.2.2), fun q hq => OpM.new gd h (if_pos hl) hq fun sm => Rep.mkL upd_same ((ra.mono sm).rep _)⟩
    · cases e
  · cases e

/-! ### == and != of plain data -/
mutual
def toPD : D → Option PyData
  | .non => some .none
  | .bl b => some (.bool b)
  | .int i => some (.int i)
  | .str x => some (.str x)
  | .tup ds => (toPDs ds).map .tuple
  | .lst ds => (toPDs ds).map .list
  | _ => none
def toPDs : List D → Option (List PyData)
  | [] => some []
  | d :: ds => match toPD d, toPDs ds with
    | some a, some as => some (a :: as)
    | _, _ => none
end
mutual
theorem dp_of {W : Wo} {p : Addr} {F H : Hp} (sm : Same F H) : ∀ (d : D) (v : V) (a : PyData), Rep W p F v d → toPD d = some a → Dp W.K H v a
  | .non, v, a, r, e => by cases e; cases r; exact .non
  | .bl b, v, a, r, e => by cases e; cases r; exact .bl b
  | .int i, v, a, r, e => by cases e; cases r; exact .int i
  | .str x, v, a, r, e => by cases e; cases r; exact .str x
  | .tup ds, v, a, r, e => by
    obtain ⟨q, vs, rfl, h, rs⟩ := r.tup_
    unfold toPD at e
    cases e1 : toPDs ds with
    | none => rw [e1] at e; cases e
    | some as => rw [e1] at e; cases e; exact .tup (sq_t sm h) (dps_of sm ds vs as rs e1)
  | .lst ds, v, a, r, e => by
    obtain ⟨q, vs, rfl, h, rs⟩ := r.lst_
    unfold toPD at e
    cases e1 : toPDs ds with
    | none => rw [e1] at e; cases e
    | some as => rw [e1] at e; cases e; exact .lst (SqL.of (sm _ _ h)) (dps_of sm ds vs as rs e1)
  | .obj _ _ _, v, a, r, e => by cases e
  | .pur, v, a, r, e => by cases e
  | .ty _, v, a, r, e => by cases e
  | .cls _, v, a, r, e => by cases e
theorem dps_of {W : Wo} {p : Addr} {F H : Hp} (sm : Same F H) : ∀ (ds : List D) (vs : List V) (as : List PyData), Reps W p F vs ds → toPDs ds = some as → DpAll W.K H vs as
  | [], vs, as, r, e => by cases e; rw [r.none]; exact .nil
  | d :: ds, vs, as, r, e => by
    obtain ⟨v, vr, rfl, r1, r2⟩ := r.uncons
    unfold toPDs at e
    cases e1 : toPD d with
    | none => rw [e1] at e; cases e
    | some a =>
      cases e2 : toPDs ds with
      | none => rw [e1, e2] at e; cases e
      | some as' =>
        rw [e1, e2] at e
        cases e
        exact .cons (dp_of sm d v a r1 e1) (dps_of sm ds vr as' r2 e2)
end
def eqD : D → D → Option Bool := fun x y => match toPD x, toPD y with
  | some a, some b => if SeqAt.shaped a = true ∧ SeqAt.shaped b = true then some (PyData.eqv a b) else none
  | _, _ => none
def eqMD : D → D → Option D := fun x y => (eqD x y).map .bl
def neMD : D → D → Option D := fun x y => (eqD x y).map fun b => .bl (!b)
theorem eqD_some {W : Wo} {p : Addr} {F H : Hp} {x y : V} {a b : D} {r : Bool} (sm : Same F H) (rx : Rep W p F x a) (ry : Rep W p F y b) (e : eqD a b = some r) : ∃ d d', Dp W.K H x d ∧ Dp W.K H y d' ∧ SeqAt.shaped d = true ∧ SeqAt.shaped d' = true ∧ PyData.eqv d d' = r := by
  unfold eqD at e
  split at e
  · rename_i d d' e1 e2
    split at e
    · rename_i hs
      cases e
      exact ⟨d, d', dp_of sm a x d rx e1, dp_of sm b y d' ry e2, hs.1, hs.2, rfl⟩
    · cases e
  · cases e
theorem m_eq {W : Wo} : OpM W (rEqD W.K) eqMD := by
  intro p F H u x y a b Q gd rx ry h
  obtain ⟨d, e, _⟩ := lft_some h
  unfold eqMD at e
  cases e1 : eqD a b with
  | none => rw [e1] at e; cases e
  | some r =>
    obtain ⟨d1, d2, h1, h2, h3, h4, h5⟩ := eqD_some gd.ex rx ry e1
    refine ⟨d1, d2, h1, h2, h3, h4, ?_⟩
    rw [h5]
    exact OpM.ret gd h (by unfold eqMD; rw [e1]; rfl) (.bl r)
theorem m_ne {W : Wo} : OpM W (rNeD W.K) neMD := by
  intro p F H u x y a b Q gd rx ry h
  obtain ⟨d, e, _⟩ := lft_some h
  unfold neMD at e
  cases e1 : eqD a b with
  | none => rw [e1] at e; cases e
  | some r =>
    obtain ⟨d1, d2, h1, h2, h3, h4, h5⟩ := eqD_some gd.ex rx ry e1
    refine ⟨d1, d2, h1, h2, h3, h4, ?_⟩
    rw [h5]
    exact OpM.ret gd h (by unfold neMD; rw [e1]; rfl) (.bl !r)

/-! ### is, items, slices -/
def isNonD : D → Bool
  | .non => true
  | _ => false
def isD : D → D → Option D := fun x y => match y with
  | .non => some (.bl (isNonD x))
  | .bl b => match x with
    | .bl a => some (.bl (decide (a = b)))
    | _ => none
  | _ => none
def isntD : D → D → Option D := fun x y => match y with
  | .non => some (.bl (!isNonD x))
  | .bl b => match x with
    | .bl a => some (.bl (!decide (a = b)))
    | _ => none
  | _ => none
theorem Rep.isNon {W : Wo} {p : Addr} {F : Hp} {v : V} {d : D} (r : Rep W p F v d) : decide (v = .non) = isNonD d := by
  cases r <;> rfl
def rIsA : R2 := fun x y H Q => (y = .non ∧ Q (.bl (decide (x = .non))) H) ∨ rIsB x y H Q
def rIsntA : R2 := fun x y H Q => (y = .non ∧ Q (.bl (!decide (x = .non))) H) ∨ rNotB x y H Q
theorem op_isA {X : Cx} : OpR X (compareOp .Is) rIsA := op_isN.or op_isBl
theorem op_isntA {X : Cx} : OpR X (compareOp .IsNot) rIsntA := op_notN.or op_notBl
theorem m_is {W : Wo} : OpM W rIsA isD := by
  intro p F H u x y a b Q gd rx ry h
  obtain ⟨d, e, _⟩ := lft_some h
  unfold isD at e
  split at e
  · cases e
    exact .inl ⟨ry.non_, by rw [rx.isNon]; exact OpM.ret gd h rfl (.bl _)⟩
  · split at e
    · rename_i k l
      cases e
      exact .inr ⟨_, _, rx.bl_, ry.bl_, OpM.ret gd h rfl (.bl _)⟩
    · cases e
  · cases e
theorem m_isnt {W : Wo} : OpM W rIsntA isntD := by
  intro p F H u x y a b Q gd rx ry h
  obtain ⟨d, e, _⟩ := lft_some h
  unfold isntD at e
  split at e
  · cases e
    exact .inl ⟨ry.non_, by rw [rx.isNon]; exact OpM.ret gd h rfl (.bl _)⟩
  · split at e
    · rename_i k l
      cases e
      exact .inr ⟨_, _, rx.bl_, ry.bl_, OpM.ret gd h rfl (.bl _)⟩
    · cases e
  · cases e
def ixD : D → D → Option D
  | .lst ds, .int i => atI ds i
  | .tup ds, .int i => atI ds i
  | .scr ns, .int i => (atI ns i).map .int
  | .str x, .int i => if x.length ≤ 10000000 then (atI x.cps.toList i).map fun c => .str ⟨#[c]⟩ else none
  | _, _ => none
theorem atI_map {α β : Type} (f : α → β) (l : List α) (i : Int) : L2.atI (l.map f) i = (L2.atI l i).map f := by
  unfold L2.atI
  rw [List.length_map]
  cases ixN l.length i with
  | none => rfl
  | some n => show (l.map f)[n]? = (l[n]?).map f; rw [List.getElem?_map]
theorem Reps.atI {W : Wo} {p : Addr} {F : Hp} {vs : List V} {ds : List D} {i : Int} {d : D} (r : Reps W p F vs ds) (h : atI ds i = some d) : ∃ v, L2.atI vs i = some v ∧ Rep W p F v d := by
  unfold L2.atI at h ⊢
  rw [r.1]
  cases hj : ixN ds.length i with
  | none => rw [hj] at h; cases h
  | some n =>
    rw [hj] at h
    obtain ⟨v, ev, rv⟩ := r.get h
    exact ⟨v, ev, rv⟩
theorem m_ix {W : Wo} : OpM W (rIx W.K) ixD := by
  intro p F H u x y a b Q gd rx ry h
  obtain ⟨d, e, _⟩ := lft_some h
  unfold ixD at e
  split at e
  · obtain ⟨q, vs, rfl, hq, r⟩ := rx.lst_
    obtain ⟨v, ev, rv⟩ := r.atI e
    exact .inl ⟨q, vs, _, v, rfl, ry.int_, SqL.of (gd.ex _ _ hq), ev, OpM.ret gd h e rv⟩
  · obtain ⟨q, vs, rfl, hq, r⟩ := rx.tup_
    obtain ⟨v, ev, rv⟩ := r.atI e
    exact .inr (.inl ⟨q, vs, _, v, rfl, ry.int_, sq_t gd.ex hq, ev, OpM.ret gd h e rv⟩)
  · rename_i ns i
    obtain ⟨q, rfl, hq⟩ := rx.scr_
    cases e1 : L2.atI ns i with
    | none => rw [e1] at e; cases e
    | some n =>
      rw [e1] at e
      cases e
      exact .inl ⟨q, _, _, .int n, rfl, ry.int_, sq_l gd.ex hq, by rw [atI_map, e1]; rfl, OpM.ret gd h (show (L2.atI ns i).map D.int = some (.int n) by rw [e1]; rfl) (.int n)⟩
  · rename_i z i
    split at e
    · rename_i hl
      cases e1 : L2.atI z.cps.toList i with
      | none => rw [e1] at e; cases e
      | some k =>
        rw [e1] at e
        cases e
        exact .inr (.inr ⟨z, i, k, rx.str_, ry.int_, Nat.le_trans hl (by decide), e1, OpM.ret gd h (show (if z.length ≤ 10000000 then (L2.atI z.cps.toList i).map fun c => D.str ⟨#[c]⟩ else none) = some (.str ⟨#[k]⟩) by rw [if_pos hl, e1]; rfl) (.str _)⟩)
    · cases e
  · cases e
end Mi


set_option Elab.async false
set_option linter.all false
set_option maxRecDepth 100000
set_option maxHeartbeats 2000000
/-! Mi6: mirrors of built-ins, slices, in, isinstance. -/
namespace Mi
open PySem PySem.Spec PyProof.Rows L2

/-! ### flat data -/
def flatD : D → Option V
  | .non => some .non
  | .bl b => some (.bl b)
  | .int i => some (.int i)
  | .str x => some (.str x)
  | _ => none
theorem flatD_rep {W : Wo} {p : Addr} {F : Hp} {v w : V} {d : D} (r : Rep W p F v d) (h : flatD d = some w) : v = w ∧ flatV w = true := by
  cases r <;> first | (cases h; exact ⟨rfl, rfl⟩) | cases h
def flatDs : List D → Option (List V)
  | [] => some []
  | d :: ds => match flatD d, flatDs ds with
    | some a, some as => some (a :: as)
    | _, _ => none
theorem flatDs_rep {W : Wo} {p : Addr} {F : Hp} : ∀ {vs ws : List V} {ds : List D}, Reps W p F vs ds → flatDs ds = some ws → vs = ws ∧ ws.all flatV = true
  | vs, ws, [], r, h => by cases h; rw [r.none]; exact ⟨rfl, rfl⟩
  | vs, ws, d :: ds, r, h => by
    obtain ⟨v, vr, rfl, r1, r2⟩ := r.uncons
    unfold flatDs at h
    split at h
    · rename_i a as e1 e2
      cases h
      obtain ⟨h1, h2⟩ := flatD_rep r1 e1
      obtain ⟨h3, h4⟩ := flatDs_rep r2 e2
      subst h1 h3
      exact ⟨rfl, by rw [List.all_cons, h2, h4]; rfl⟩
    · cases h
def inS (x y : D) : Option Bool := match x, y with
  | .str a, .str z => match a.cps.toList with
    | [c] => some (decide (c ∈ z.cps.toList))
    | _ => none
  | _, _ => none
def inB (x y : D) : Option Bool := match flatD x with
  | some a => match y with
    | .lst ds => (flatDs ds).map fun ws => inV a ws
    | .tup ds => (flatDs ds).map fun ws => inV a ws
    | _ => none
  | none => none
def inA (x y : D) : Option Bool := match y with
  | .str _ => inS x y
  | _ => inB x y
def inD : D → D → Option D := fun x y => (inA x y).map .bl
def ninD : D → D → Option D := fun x y => (inA x y).map fun b => .bl (!b)
theorem inB_some {W : Wo} {p : Addr} {F H : Hp} {x y : V} {a b : D} {r : Bool} (sm : Same F H) (rx : Rep W p F x a) (ry : Rep W p F y b) (e : inB a b = some r) :
    ∃ q xs, y = .ref q ∧ (SqL W.K H q xs ∨ SqT W.K H q xs) ∧ flatV x = true ∧ xs.all flatV = true ∧ inV x xs = r := by
  unfold inB at e
  split at e
  · rename_i v hv
    obtain ⟨h1, h2⟩ := flatD_rep rx hv
    subst h1
    split at e
    · rename_i ds
      obtain ⟨q, vs, rfl, hq, rs⟩ := ry.lst_
      cases e1 : flatDs ds with
      | none => rw [e1] at e; cases e
      | some ws =>
        rw [e1] at e
        cases e
        obtain ⟨h3, h4⟩ := flatDs_rep rs e1
        subst h3
        exact ⟨q, vs, rfl, .inl (SqL.of (sm _ _ hq)), h2, h4, rfl⟩
    · rename_i ds
      obtain ⟨q, vs, rfl, hq, rs⟩ := ry.tup_
      cases e1 : flatDs ds with
      | none => rw [e1] at e; cases e
      | some ws =>
        rw [e1] at e
        cases e
        obtain ⟨h3, h4⟩ := flatDs_rep rs e1
        subst h3
        exact ⟨q, vs, rfl, .inr (sq_t sm hq), h2, h4, rfl⟩
    · cases e
  · cases e
theorem inS_some {W : Wo} {p : Addr} {F : Hp} {x y : V} {a b : D} {r : Bool} (rx : Rep W p F x a) (ry : Rep W p F y b) (e : inS a b = some r) :
    ∃ (c : Nat) (z : Str), x = .str ⟨#[c]⟩ ∧ y = .str z ∧ decide (c ∈ z.cps.toList) = r := by
  unfold inS at e
  split at e
  · rename_i i z
    split at e
    · rename_i c hc
      cases e
      refine ⟨c, z, ?_, ry.str_, rfl⟩
      rw [rx.str_]
      congr 1
      cases i with
      | mk cps =>
        have : cps = #[c] := by
          apply Array.toList_inj.mp
          simpa using hc
        rw [this]
    · cases e
  · cases e
def rInA (K : PySem.W.Frag) : R2 := fun x y H Q => rIn K false x y H Q ∨ ∃ (c : Nat) (z : Str), x = .str ⟨#[c]⟩ ∧ y = .str z ∧ Q (.bl (decide (c ∈ z.cps.toList))) H
def rNinA (K : PySem.W.Frag) : R2 := fun x y H Q => rIn K true x y H Q ∨ ∃ (c : Nat) (z : Str), x = .str ⟨#[c]⟩ ∧ y = .str z ∧ Q (.bl (!decide (c ∈ z.cps.toList))) H
theorem op_inA {X : Cx} : OpR X (compareOp .In) (rInA X.K) := op_in_seq.or op_in_sign
theorem op_ninA {X : Cx} : OpR X (compareOp .NotIn) (rNinA X.K) := op_notIn_seq.or op_notIn_sign
theorem inA_some {x y : D} {b : Bool} (h : inA x y = some b) : inS x y = some b ∨ inB x y = some b := by
  unfold inA at h
  split at h
  · exact .inl h
  · exact .inr h
theorem m_in {W : Wo} : OpM W (rInA W.K) inD := by
  intro p F H u x y a b Q gd rx ry h
  obtain ⟨d, e, _⟩ := lft_some h
  have e0 := e
  unfold inD at e
  cases e1 : inA a b with
  | none => rw [e1] at e; cases e
  | some r =>
    rw [e1] at e
    cases e
    rcases inA_some e1 with e1 | e1
    · obtain ⟨c, z, rfl, rfl, hr⟩ := inS_some rx ry e1
      exact .inr ⟨c, z, rfl, rfl, by rw [hr]; exact OpM.ret gd h e0 (.bl r)⟩
    · obtain ⟨q, xs, rfl, hq, h1, h2, h3⟩ := inB_some gd.ex rx ry e1
      exact .inl ⟨q, xs, rfl, hq, h1, h2, by rw [h3]; exact OpM.ret gd h e0 (.bl r)⟩
theorem m_nin {W : Wo} : OpM W (rNinA W.K) ninD := by
  intro p F H u x y a b Q gd rx ry h
  obtain ⟨d, e, _⟩ := lft_some h
  have e0 := e
  unfold ninD at e
  cases e1 : inA a b with
  | none => rw [e1] at e; cases e
  | some r =>
    rw [e1] at e
    cases e
    rcases inA_some e1 with e1 | e1
    · obtain ⟨c, z, rfl, rfl, hr⟩ := inS_some rx ry e1
      exact .inr ⟨c, z, rfl, rfl, by rw [hr]; exact OpM.ret gd h e0 (.bl (!r))⟩
    · obtain ⟨q, xs, rfl, hq, h1, h2, h3⟩ := inB_some gd.ex rx ry e1
      exact .inl ⟨q, xs, rfl, hq, h1, h2, by rw [h3]; exact OpM.ret gd h e0 (.bl (!r))⟩

/-! ### slices -/
abbrev MO := Env → M (Option Int)
def rdO (c : Cf) (m : MO) : TO := fun σ H Q => ∃ F u ρ, Sta c u F H σ ρ ∧ After c.p F H (m ρ u) fun o _ _ H' => Q o H'
def mOn : MO := fun _ => M.pure none
def mOs (m : ME) : MO := fun ρ => M.bind (m ρ) fun d => match d with
  | .int i => M.pure (some i)
  | _ => lft none
def cutD (xs : List D) (lo hi : Option Int) : List D := (xs.drop (HT.sIx xs.length 0 lo)).take (HT.sIx xs.length xs.length hi - HT.sIx xs.length 0 lo)
def slD (d : D) (lo hi : Option Int) : Option D := match d with
  | .lst ds => some (.lst (cutD ds lo hi))
  | .tup ds => some (.tup (cutD ds lo hi))
  | .scr ns => some (.lst (cutD (ns.map .int) lo hi))
  | .str x => if x.length ≤ 10000000 then some (.str (cutS x lo hi)) else none
  | _ => none
def mSl (m : ME) (ml mh : MO) : ME := fun ρ => M.bind (m ρ) fun d => M.bind (ml ρ) fun lo => M.bind (mh ρ) fun hi => lft (slD d lo hi)
theorem Reps.drop {W : Wo} {p : Addr} {F : Hp} {vs : List V} {ds : List D} (r : Reps W p F vs ds) (n : Nat) : Reps W p F (vs.drop n) (ds.drop n) :=
  ⟨by simp [r.1], fun i v d h1 h2 => r.2 (n + i) v d (by rw [List.getElem?_drop] at h1; exact h1) (by rw [List.getElem?_drop] at h2; exact h2)⟩
theorem Reps.take {W : Wo} {p : Addr} {F : Hp} {vs : List V} {ds : List D} (r : Reps W p F vs ds) (n : Nat) : Reps W p F (vs.take n) (ds.take n) := by
  refine ⟨by simp [r.1], fun i v d h1 h2 => ?_⟩
  by_cases hi : i < n
  · rw [List.getElem?_take_of_lt hi] at h1 h2
    exact r.2 i v d h1 h2
  · rw [List.getElem?_eq_none (by simp; omega)] at h1
    cases h1
theorem Reps.cut {W : Wo} {p : Addr} {F : Hp} {vs : List V} {ds : List D} (r : Reps W p F vs ds) (lo hi : Option Int) : Reps W p F (cutV vs lo hi) (cutD ds lo hi) := by
  unfold cutV cutD
  rw [r.1]
  exact (r.drop _).take _
theorem Reps.reverse {W : Wo} {p : Addr} {F : Hp} {vs : List V} {ds : List D} (r : Reps W p F vs ds) : Reps W p F vs.reverse ds.reverse := by
  refine ⟨by simp [r.1], fun i v d h1 h2 => ?_⟩
  have hi : i < vs.length := by
    have := (List.getElem?_eq_some_iff.mp h1).1
    simpa using this
  rw [List.getElem?_reverse hi] at h1
  rw [List.getElem?_reverse (by rw [← r.1]; exact hi), ← r.1] at h2
  exact r.2 _ v d h1 h2
theorem reps_ints {W : Wo} {p : Addr} {F : Hp} (ns : List Int) : Reps W p F (ns.map V.int) (ns.map D.int) := by
  induction ns with
  | nil => exact Reps.nil
  | cons n ns ih => exact Reps.cons (.int n) ih
def rSlAll (K : PySem.W.Frag) : V → Option Int → Option Int → Hp → VK → Prop := fun x lo hi H Q => rSlL K x lo hi H Q ∨ rSlA K x lo hi H Q ∨ rSlS x lo hi H Q
theorem cutD_whole {xs : List D} {lo hi : Option Int} (h : HT.sIx xs.length 0 lo = 0 ∧ HT.sIx xs.length xs.length hi = xs.length) : cutD xs lo hi = xs := by
  unfold cutD
  rw [h.1, h.2]
  simp
section
variable {X : Cx} {c : Cf} {e : Expr} {lo hi : Option Expr} {m : ME} {ml mh : MO} {pos p2 : Pos}
theorem dOn : PO X none (rdO c mOn) := by
  have h := po_none (X := X)
  exact ⟨fun pins s σ H Q I ⟨F, u, ρ, S, q⟩ => h.run pins s σ H Q I (After.now S.gd q)⟩
theorem dOs (he : DE X c e m) : PO X (some e) (rdO c (mOs m)) := by
  have h := po_some he
  refine ⟨fun pins s σ H Q I ⟨F, u, ρ, S, q⟩ => h.run pins s σ H Q I ⟨F, u, ρ, S, (After.split q).imp fun d u1 F1 H1 _ s1 g1 h1 v rv => ?_⟩⟩
  cases d with
  | int i =>
    have h2 : After c.p F1 H1 (some (some i, u1)) (fun o _ _ H' => Q o H') := h1
    exact ⟨i, rv.int_, After.now g1 h2⟩
  | _ => exact False.elim h1
theorem sl_all : SlR X (rSlAll X.K) := sl_list.or (sl_tupA.or sl_str)
theorem dSl (he : DE X c e m) (hl : PO X lo (rdO c ml)) (hh : PO X hi (rdO c mh)) (hK : X.K = c.W.K := by rfl) : DE X c (.Subscript e (.Slice lo hi none p2) pos) (mSl m ml mh) :=
  (pe_slice sl_all he hl hh).imp fun σ H Q ⟨F, u, ρ, S, h⟩ => ⟨F, u, ρ, S, (After.split h).imp fun d u1 F1 H1 _ s1 g1 h1 v rv => ⟨F1, u1, ρ, S.step s1 g1, (After.split h1).imp fun l u2 F2 H2 _ s2 g2 h2 => ⟨F2, u2, ρ, (S.step s1 g1).step s2 g2, (After.split h2).imp fun r u3 F3 H3 _ s3 g3 h3 => by
    have rv := rv.mono (s2.ef.trans s3.ef)
    obtain ⟨z, e1, _⟩ := lft_some h3
    rw [hK]
    unfold slD at e1
    split at e1
    · cases e1
      obtain ⟨a, vs, rfl, ha, ra⟩ := rv.lst_
      exact .inl ⟨a, vs, rfl, SqL.of (g3.ex _ _ ha), fun q hq => OpM.new g3 h3 rfl hq fun sm => Rep.mkL upd_same ((ra.mono sm).cut l r)⟩
    · cases e1
      obtain ⟨a, vs, rfl, ha, ra⟩ := id rv.tup_
      refine .inr (.inl ⟨a, vs, rfl, sq_t g3.ex ha, fun hw => ?_, fun _ q hq => OpM.new g3 h3 rfl hq fun sm => Rep.mkT upd_same ((ra.mono sm).cut l r)⟩)
      rw [ra.1] at hw
      exact OpM.ret g3 h3 rfl (by rw [cutD_whole hw]; exact rv)
    · rename_i ns _h _h2
      cases e1
      obtain ⟨a, rfl, ha⟩ := rv.scr_
      exact .inl ⟨a, _, rfl, sq_l g3.ex ha, fun q hq => OpM.new g3 h3 rfl hq fun sm => Rep.mkL upd_same ((reps_ints ns).cut l r)⟩
    · rename_i x _h _h2
      split at e1
      · rename_i hl
        cases e1
        exact .inr (.inr ⟨x, rv.str_, Nat.le_trans hl (by decide), OpM.ret g3 h3 (if_pos hl) (.str _)⟩)
      · cases e1
    · cases e1⟩⟩⟩
def revD : D → Option D
  | .lst ds => some (.lst ds.reverse)
  | _ => none
theorem dRevL {k : Nat} {p1 p3 : Pos} (he : DE X c e m) (hK : X.K = c.W.K := by rfl) : DE X c (.Subscript e (.Slice none none (some (.UnaryOp .USub (.Constant (.int 1) k p1) p2)) p3) pos) (mUn revD m) :=
  (pe_revL he).imp fun σ H Q ⟨F, u, ρ, S, h⟩ => ⟨F, u, ρ, S, (After.split h).imp fun d u1 F1 H1 _ s1 g1 h1 v rv => by
    obtain ⟨z, e1, _⟩ := lft_some h1
    cases d with
    | lst ds =>
      cases e1
      obtain ⟨a, vs, rfl, ha, ra⟩ := rv.lst_
      exact ⟨a, vs, rfl, SqL.of (g1.ex _ _ ha), fun q hq => OpM.new g1 h1 rfl hq fun sm => Rep.mkL upd_same (ra.mono sm).reverse⟩
    | _ => cases e1⟩
end

/-! ### built-ins -/
def lenD : List D → Option D := fun ds => match ds with
  | [.lst xs] => some (.int xs.length)
  | [.tup xs] => some (.int xs.length)
  | [.scr ns] => some (.int ns.length)
  | [.str x] => if x.length ≤ 10000000 then some (.int x.length) else none
  | _ => none
def rLenA (K : PySem.W.Frag) : List V → Hp → VK → Prop := fun xs H Q => (∃ p ys, xs = [.ref p] ∧ (SqL K H p ys ∨ SqT K H p ys) ∧ Q (.int ys.length) H) ∨ ∃ z, xs = [.str z] ∧ z.length ≤ sizeLine ∧ Q (.int z.length) H
theorem call_lenA {X : Cx} : CallR X (.builtin "len") (rLenA X.K) := call_len_seq.or call_len_str
theorem Reps.one {W : Wo} {p : Addr} {F : Hp} {vs : List V} {d : D} (r : Reps W p F vs [d]) : ∃ v, vs = [v] ∧ Rep W p F v d := by
  obtain ⟨v, vr, rfl, h, r2⟩ := r.uncons
  rw [r2.none]
  exact ⟨v, rfl, h⟩
theorem Reps.two {W : Wo} {p : Addr} {F : Hp} {vs : List V} {a b : D} (r : Reps W p F vs [a, b]) : ∃ v w, vs = [v, w] ∧ Rep W p F v a ∧ Rep W p F w b := by
  obtain ⟨v, vr, rfl, h, r2⟩ := r.uncons
  obtain ⟨w, rfl, h2⟩ := r2.one
  exact ⟨v, w, rfl, h, h2⟩
theorem m_len {W : Wo} : CallM W (rLenA W.K) lenD := by
  intro p F H u xs as Q gd r h
  obtain ⟨d, e, _⟩ := lft_some h
  unfold lenD at e
  split at e
  · cases e
    obtain ⟨v, rfl, rv⟩ := r.one
    obtain ⟨q, vs, rfl, hq, rs⟩ := rv.lst_
    exact .inl ⟨q, vs, rfl, .inl (SqL.of (gd.ex _ _ hq)), OpM.ret gd h rfl (by rw [rs.1]; exact .int _)⟩
  · cases e
    obtain ⟨v, rfl, rv⟩ := r.one
    obtain ⟨q, vs, rfl, hq, rs⟩ := rv.tup_
    exact .inl ⟨q, vs, rfl, .inr (sq_t gd.ex hq), OpM.ret gd h rfl (by rw [rs.1]; exact .int _)⟩
  · rename_i ns
    cases e
    obtain ⟨v, rfl, rv⟩ := r.one
    obtain ⟨q, rfl, hq⟩ := rv.scr_
    exact .inl ⟨q, _, rfl, .inl (sq_l gd.ex hq), OpM.ret gd h rfl (by rw [List.length_map]; exact .int _)⟩
  · rename_i x
    split at e
    · rename_i hl
      cases e
      obtain ⟨v, rfl, rv⟩ := r.one
      exact .inr ⟨x, by rw [rv.str_], Nat.le_trans hl (by decide), OpM.ret gd h (if_pos hl) (.int _)⟩
    · cases e
  · cases e
/-- ints out of data -/
def intsD : List D → Option (List Int)
  | [] => some []
  | .int i :: ds => (intsD ds).map (i :: ·)
  | _ => none
theorem intsD_rep {W : Wo} {p : Addr} {F : Hp} : ∀ {vs : List V} {ds : List D} {ns : List Int}, Reps W p F vs ds → intsD ds = some ns → vs = ns.map V.int
  | vs, [], ns, r, h => by cases h; exact r.none
  | vs, d :: ds, ns, r, h => by
    obtain ⟨v, vr, rfl, r1, r2⟩ := r.uncons
    cases d with
    | int i =>
      have h' : (intsD ds).map (i :: ·) = some ns := h
      cases e : intsD ds with
      | none => rw [e] at h'; cases h'
      | some ms =>
        rw [e] at h'
        cases h'
        rw [r1.int_, intsD_rep r2 e]
        rfl
    | _ => cases h
theorem intsD_map (ns : List Int) : intsD (ns.map D.int) = some ns := by
  induction ns with
  | nil => rfl
  | cons n ns ih => show (intsD (ns.map D.int)).map (n :: ·) = _; rw [ih]; rfl
def rSumT (K : PySem.W.Frag) : List V → Hp → VK → Prop := fun vs H Q => ∃ (a : Addr) (ns : List Int), vs = [V.ref a] ∧ SqT K H a (ns.map V.int) ∧ Q (.int ns.sum) H
theorem cr_sumT {X : Cx} (hc : X.calm = true) : CallR X (.builtin "sum") (rSumT X.K) := by
  intro pins s σ H vs us Q I r h
  obtain ⟨a, ns, rfl, hq, q⟩ := h
  obtain ⟨u1, rfl, ru⟩ := Vals.one r
  cases ru
  obtain ⟨its, rv, ht, hz⟩ := I.tuple hq
  have hi := Vals.ints rv
  obtain ⟨xs, e⟩ := hi.allInts.items
  have hn : numsOf (intItems xs).toList = ns := by rw [← e]; exact hi.numsOf
  rw [nums_intItems] at hn
  rw [e] at ht
  refine PySem.W.ktm_sumG (I.ok.hd hc) ht fun h' tk t' hk => ?_
  rw [preSum_eq, List.take_of_length_le (by simp), hn]
  exact ⟨.int ns.sum, H, I.kept (t' := tk) hk, ⟨_, rfl⟩, q⟩
def sumD : List D → Option D := fun ds => match ds with
  | [.lst xs] => (intsD xs).map fun ns => .int ns.sum
  | [.tup xs] => (intsD xs).map fun ns => .int ns.sum
  | _ => none
def rSumA (K : PySem.W.Frag) : List V → Hp → VK → Prop := fun vs H Q => rSum K vs H Q ∨ rSumT K vs H Q
theorem cr_sumA {X : Cx} (hc : X.calm = true) : CallR X (.builtin "sum") (rSumA X.K) := (cr_sum hc).or (cr_sumT hc)
theorem m_sum {W : Wo} : CallM W (rSumA W.K) sumD := by
  intro p F H u xs as Q gd r h
  obtain ⟨d, e, _⟩ := lft_some h
  unfold sumD at e
  split at e
  · rename_i ds
    obtain ⟨v, rfl, rv⟩ := r.one
    obtain ⟨q, vs, rfl, hq, rs⟩ := rv.lst_
    cases e1 : intsD ds with
    | none => rw [e1] at e; cases e
    | some ns =>
      rw [e1] at e
      cases e
      refine .inl ⟨q, ns, rfl, SqL.of (by rw [← intsD_rep rs e1]; exact gd.ex _ _ hq), OpM.ret gd h (show (intsD ds).map (fun ns => D.int ns.sum) = some (.int ns.sum) by rw [e1]; rfl) (.int _)⟩
  · rename_i ds
    obtain ⟨v, rfl, rv⟩ := r.one
    obtain ⟨q, vs, rfl, hq, rs⟩ := rv.tup_
    cases e1 : intsD ds with
    | none => rw [e1] at e; cases e
    | some ns =>
      rw [e1] at e
      cases e
      refine .inr ⟨q, ns, rfl, by rw [← intsD_rep rs e1]; exact sq_t gd.ex hq, OpM.ret gd h (show (intsD ds).map (fun ns => D.int ns.sum) = some (.int ns.sum) by rw [e1]; rfl) (.int _)⟩
  · cases e
/-- the greatest, the least of a list -/
def maxL : List Int → Int
  | [] => 0
  | [a] => a
  | a :: b :: r => max a (maxL (b :: r))
def minL : List Int → Int
  | [] => 0
  | [a] => a
  | a :: b :: r => min a (minL (b :: r))
theorem maxL_mem : ∀ {ns : List Int}, ns ≠ [] → maxL ns ∈ ns ∧ ∀ y ∈ ns, y ≤ maxL ns
  | [], h => absurd rfl h
  | [a], _ => by simp [maxL]
  | a :: b :: r, _ => by
    obtain ⟨h1, h2⟩ := maxL_mem (ns := b :: r) (by simp)
    refine ⟨?_, fun y hy => ?_⟩
    · show max a (maxL (b :: r)) ∈ a :: b :: r
      by_cases hm : a ≤ maxL (b :: r)
      · rw [Int.max_eq_right hm]; exact List.mem_cons_of_mem _ h1
      · rw [Int.max_eq_left (by omega)]; exact List.mem_cons_self ..
    · show y ≤ max a (maxL (b :: r))
      rcases List.mem_cons.mp hy with rfl | hy
      · exact Int.le_max_left ..
      · exact Int.le_trans (h2 y hy) (Int.le_max_right ..)
theorem minL_mem : ∀ {ns : List Int}, ns ≠ [] → minL ns ∈ ns ∧ ∀ y ∈ ns, minL ns ≤ y
  | [], h => absurd rfl h
  | [a], _ => by simp [minL]
  | a :: b :: r, _ => by
    obtain ⟨h1, h2⟩ := minL_mem (ns := b :: r) (by simp)
    refine ⟨?_, fun y hy => ?_⟩
    · show min a (minL (b :: r)) ∈ a :: b :: r
      by_cases hm : minL (b :: r) ≤ a
      · rw [Int.min_eq_right hm]; exact List.mem_cons_of_mem _ h1
      · rw [Int.min_eq_left (by omega)]; exact List.mem_cons_self ..
    · show min a (minL (b :: r)) ≤ y
      rcases List.mem_cons.mp hy with rfl | hy
      · exact Int.min_le_left ..
      · exact Int.le_trans (Int.min_le_right ..) (h2 y hy)
theorem maxL_is {ns : List Int} {m : Int} (h1 : m ∈ ns) (h2 : ∀ y ∈ ns, y ≤ m) : maxL ns = m := by
  have hne : ns ≠ [] := fun e => by rw [e] at h1; cases h1
  obtain ⟨h3, h4⟩ := maxL_mem hne
  have := h2 _ h3
  have := h4 _ h1
  omega
theorem minL_is {ns : List Int} {m : Int} (h1 : m ∈ ns) (h2 : ∀ y ∈ ns, m ≤ y) : minL ns = m := by
  have hne : ns ≠ [] := fun e => by rw [e] at h1; cases h1
  obtain ⟨h3, h4⟩ := minL_mem hne
  have := h2 _ h3
  have := h4 _ h1
  omega
def maxD : List D → Option D := fun ds => match ds with
  | [.lst xs] => match intsD xs with
    | some (n :: ns) => some (.int (maxL (n :: ns)))
    | _ => none
  | [.int a, .int b] => some (.int (if b > a then b else a))
  | _ => none
def minD : List D → Option D := fun ds => match ds with
  | [.lst xs] => match intsD xs with
    | some (n :: ns) => some (.int (minL (n :: ns)))
    | _ => none
  | [.int a, .int b] => some (.int (if b < a then b else a))
  | _ => none
def rMaxA (K : PySem.W.Frag) : List V → Hp → VK → Prop := fun vs H Q => rMax K vs H Q ∨ ∃ i j, vs = [.int i, .int j] ∧ Q (.int (if j > i then j else i)) H
def rMinA (K : PySem.W.Frag) : List V → Hp → VK → Prop := fun vs H Q => rMin K vs H Q ∨ ∃ i j, vs = [.int i, .int j] ∧ Q (.int (if j < i then j else i)) H
theorem cr_maxA {X : Cx} (hc : X.calm = true) : CallR X (.builtin "max") (rMaxA X.K) := (cr_max hc).or (call_max2 hc)
theorem cr_minA {X : Cx} (hc : X.calm = true) : CallR X (.builtin "min") (rMinA X.K) := (cr_min hc).or (call_min2 hc)
theorem m_max {W : Wo} : CallM W (rMaxA W.K) maxD := by
  intro p F H u xs as Q gd r h
  obtain ⟨d, e, _⟩ := lft_some h
  have e0 := e
  unfold maxD at e
  split at e
  · rename_i ds
    split at e
    · rename_i n ns e1
      cases e
      obtain ⟨v, rfl, rv⟩ := r.one
      obtain ⟨q, vs, rfl, hq, rs⟩ := rv.lst_
      refine .inl ⟨q, n :: ns, rfl, SqL.of (by rw [← intsD_rep rs e1]; exact gd.ex _ _ hq), by simp, fun m hm hle => ?_⟩
      rw [← maxL_is hm hle]
      exact OpM.ret gd h e0 (.int _)
    · cases e
  · rename_i i j
    cases e
    obtain ⟨v, w, rfl, rv, rw⟩ := r.two
    exact .inr ⟨i, j, by rw [rv.int_, rw.int_], OpM.ret gd h e0 (.int _)⟩
  · cases e
theorem m_min {W : Wo} : CallM W (rMinA W.K) minD := by
  intro p F H u xs as Q gd r h
  obtain ⟨d, e, _⟩ := lft_some h
  have e0 := e
  unfold minD at e
  split at e
  · rename_i ds
    split at e
    · rename_i n ns e1
      cases e
      obtain ⟨v, rfl, rv⟩ := r.one
      obtain ⟨q, vs, rfl, hq, rs⟩ := rv.lst_
      refine .inl ⟨q, n :: ns, rfl, SqL.of (by rw [← intsD_rep rs e1]; exact gd.ex _ _ hq), by simp, fun m hm hle => ?_⟩
      rw [← minL_is hm hle]
      exact OpM.ret gd h e0 (.int _)
    · cases e
  · rename_i i j
    cases e
    obtain ⟨v, w, rfl, rv, rw⟩ := r.two
    exact .inr ⟨i, j, by rw [rv.int_, rw.int_], OpM.ret gd h e0 (.int _)⟩
  · cases e
def blsD : List D → Option (List Bool)
  | [] => some []
  | .bl i :: ds => (blsD ds).map (i :: ·)
  | _ => none
theorem blsD_rep {W : Wo} {p : Addr} {F : Hp} : ∀ {vs : List V} {ds : List D} {ns : List Bool}, Reps W p F vs ds → blsD ds = some ns → vs = ns.map V.bl
  | vs, [], ns, r, h => by cases h; exact r.none
  | vs, d :: ds, ns, r, h => by
    obtain ⟨v, vr, rfl, r1, r2⟩ := r.uncons
    cases d with
    | bl i =>
      have h' : (blsD ds).map (i :: ·) = some ns := h
      cases e : blsD ds with
      | none => rw [e] at h'; cases h'
      | some ms =>
        rw [e] at h'
        cases h'
        rw [r1.bl_, blsD_rep r2 e]
        rfl
    | _ => cases h
theorem blsD_map (ns : List Bool) : blsD (ns.map D.bl) = some ns := by
  induction ns with
  | nil => rfl
  | cons n ns ih => show (blsD (ns.map D.bl)).map (n :: ·) = _; rw [ih]; rfl
def allD : List D → Option D := fun ds => match ds with
  | [.lst xs] => (blsD xs).map fun bs => .bl (bs.all id)
  | _ => none
theorem m_all {W : Wo} : CallM W (rAll W.K) allD := by
  intro p F H u xs as Q gd r h
  obtain ⟨d, e, _⟩ := lft_some h
  have e0 := e
  unfold allD at e
  split at e
  · rename_i ds
    cases e1 : blsD ds with
    | none => rw [e1] at e; cases e
    | some bs =>
      rw [e1] at e
      cases e
      obtain ⟨v, rfl, rv⟩ := r.one
      obtain ⟨q, vs, rfl, hq, rs⟩ := rv.lst_
      exact ⟨q, bs, rfl, SqL.of (by rw [← blsD_rep rs e1]; exact gd.ex _ _ hq), OpM.ret gd h e0 (.bl _)⟩
  · cases e
def absD : List D → Option D := fun ds => match ds with
  | [.int i] => some (.int (if i < 0 then -i else i))
  | _ => none
theorem m_abs {W : Wo} : CallM W (fun xs H Q => ∃ i, xs = [.int i] ∧ Q (.int (if i < 0 then -i else i)) H) absD := by
  intro p F H u xs as Q gd r h
  obtain ⟨d, e, _⟩ := lft_some h
  have e0 := e
  unfold absD at e
  split at e
  · rename_i i
    cases e
    obtain ⟨v, rfl, rv⟩ := r.one
    exact ⟨i, by rw [rv.int_], OpM.ret gd h e0 (.int _)⟩
  · cases e
/-- int(n) of an int -/
def int1D : List D → Option D := fun ds => match ds with
  | [.int i] => some (.int i)
  | _ => none
theorem m_int1 {W : Wo} : CallM W (fun xs H Q => (∃ i, xs = [.int i] ∧ Q (.int i) H) ∨ ∃ k, xs = [.bl k] ∧ Q (.int (if k then 1 else 0)) H) int1D := by
  intro p F H u xs as Q gd r h
  obtain ⟨d, e, _⟩ := lft_some h
  have e0 := e
  unfold int1D at e
  split at e
  · rename_i i
    cases e
    obtain ⟨v, rfl, rv⟩ := r.one
    exact .inl ⟨i, by rw [rv.int_], OpM.ret gd h e0 (.int _)⟩
  · cases e
def strID : List D → Option D := fun ds => match ds with
  | [.int i] => if i.natAbs.log2 < 1920 then some (.str (toString i)) else none
  | _ => none
theorem m_strI {W : Wo} : CallM W (fun xs H Q => ∃ i, xs = [.int i] ∧ i.natAbs.log2 < 1920 ∧ Q (.str (toString i)) H) strID := by
  intro p F H u xs as Q gd r h
  obtain ⟨d, e, _⟩ := lft_some h
  have e0 := e
  unfold strID at e
  split at e
  · rename_i i
    split at e
    · rename_i hl
      cases e
      obtain ⟨v, rfl, rv⟩ := r.one
      exact ⟨i, by rw [rv.int_], hl, OpM.ret gd h e0 (.str _)⟩
    · cases e
  · cases e
def tupD : List D → Option D := fun ds => match ds with
  | [.lst xs] => some (.tup xs)
  | [.tup xs] => some (.tup xs)
  | _ => none
theorem m_tup {W : Wo} : CallM W (fun xs H Q => ∃ p ys, xs = [.ref p] ∧ ((SqL W.K H p ys ∧ ∀ l, H l = none → Q (.ref l) (upd H l (.tup ys))) ∨ (SqT W.K H p ys ∧ Q (.ref p) H))) tupD := by
  intro p F H u xs as Q gd r h
  obtain ⟨d, e, _⟩ := lft_some h
  have e0 := e
  unfold tupD at e
  split at e
  · cases e
    obtain ⟨v, rfl, rv⟩ := r.one
    obtain ⟨q, vs, rfl, hq, rs⟩ := rv.lst_
    exact ⟨q, vs, rfl, .inl ⟨SqL.of (gd.ex _ _ hq), fun l hl => OpM.new gd h e0 hl fun sm => Rep.mkT upd_same (rs.mono sm)⟩⟩
  · cases e
    obtain ⟨v, rfl, rv⟩ := r.one
    obtain ⟨q, vs, rfl, hq, rs⟩ := id rv.tup_
    exact ⟨q, vs, rfl, .inr ⟨sq_t gd.ex hq, OpM.ret gd h e0 rv⟩⟩
  · cases e
def dmC (i j : Int) : Bool := decide (0 < j) && !Builtin.divisionGoesByPylong i j
def dmD : List D → Option D := fun ds => match ds with
  | [.int i, .int j] => if dmC i j = true then some (.tup [.int (i / j), .int (i % j)]) else none
  | _ => none
theorem m_dm {W : Wo} : CallM W (fun xs H Q => ∃ i j, xs = [.int i, .int j] ∧ CDivP i j ∧ ∀ p, H p = none → Q (.ref p) (upd H p (.tup [.int (i / j), .int (i % j)]))) dmD := by
  intro p F H u xs as Q gd r h
  obtain ⟨d, e, _⟩ := lft_some h
  have e0 := e
  unfold dmD at e
  split at e
  · rename_i i j
    split at e
    · rename_i hc
      cases e
      obtain ⟨v, w, rfl, rv, rw⟩ := r.two
      have hcc := Bool.and_eq_true_iff.mp (show (decide (0 < j) && !Builtin.divisionGoesByPylong i j) = true from hc)
      exact ⟨i, j, by rw [rv.int_, rw.int_], ⟨of_decide_eq_true hcc.1, by have := hcc.2; simpa using this⟩, fun l hl => OpM.new gd h e0 hl fun sm => Rep.mkT upd_same (Reps.cons (.int _) (Reps.cons (.int _) Reps.nil))⟩
    · cases e
  · cases e

/-! ### isinstance -/
def tyN : D → Option String
  | .non => some "NoneType"
  | .bl _ => some "bool"
  | .int _ => some "int"
  | .str _ => some "str"
  | .tup _ => some "tuple"
  | .lst _ => some "list"
  | _ => none
/-- the package's classes: which is under which -/
def subC (c k : Str) : Bool := decide (c = k) || (decide (k = "Rule") && (decide (c = "Drain") || decide (c = "Units") || decide (c = "Spare")))
/-- what isinstance asks of the classes -/
structure IsiOk (W : Wo) : Prop where
  ty : ∀ c ∈ W.cs, ∀ (H : Hp) (a dx : Addr) (fs : List (Str × V)), H a = some (.ins (W.cl c) dx fs) → TyOf W.K H (.ref a) (.ref (W.cl c))
  own : ∀ c ∈ W.cs, ∀ k ∈ W.cs, PySem.W.kitOne W.K (.ref (W.cl c)) (.ref (W.cl k)) = some (subC c k)
  bi : ∀ a ∈ ["NoneType", "bool", "int", "str", "tuple", "list"], ∀ k ∈ W.cs, PySem.W.kitOne W.K (.type a) (.ref (W.cl k)) = some false
  ob : ∀ c ∈ W.cs, ∀ n ∈ ["int", "bool", "str", "tuple", "list"], PySem.W.kitOne W.K (.ref (W.cl c)) (.type n) = some false
def isiB (x y : D) : Option Bool := match y with
  | .ty n => match tyN x with
    | some a => if decide (n ∈ ["int", "bool", "str", "tuple", "list"]) = true then kitB a n else none
    | none => match x with
      | .obj _ _ _ => if n ∈ ["int", "bool", "str", "tuple", "list"] then some false else none
      | _ => none
  | .cls k => match tyN x with
    | some _ => some false
    | none => match x with
      | .obj c _ _ => some (subC c k)
      | _ => none
  | _ => none
def isiD : List D → Option D := fun ds => match ds with
  | [x, y] => (isiB x y).map .bl
  | _ => none
theorem tyN_mem {x : D} {a : String} (h : tyN x = some a) : a ∈ ["NoneType", "bool", "int", "str", "tuple", "list"] := by
  cases x <;> first | (cases h; decide) | cases h
theorem tyN_ty {W : Wo} {p : Addr} {F H : Hp} {v : V} {x : D} {a : String} (sm : Same F H) (r : Rep W p F v x) (h : tyN x = some a) : TyX W.K H v (.type a) := by
  cases r with
  | non => cases h; exact .base .non
  | bl b => cases h; exact .base (.bl b)
  | int i => cases h; exact .base (.int i)
  | str i => cases h; exact .base (.str i)
  | tup ht _ _ =>
    cases h
    rcases ht with (ht | ⟨o, ht⟩) | ⟨o, its, n, hk, hc, _⟩
    · exact .base (.tup (sm _ _ ht))
    · exact .fTuple (sm _ _ ht)
    · exact .kTuple hk hc
  | lst ht _ _ => cases h; exact .base (.lst (sm _ _ ht))
  | _ => cases h
theorem m_isi {W : Wo} (I : IsiOk W) : CallM W (rIsi W.K) isiD := by
  intro p F H u xs as Q gd r h
  obtain ⟨d, e, _⟩ := lft_some h
  have e0 := e
  unfold isiD at e
  split at e
  case h_2 => cases e
  rename_i x y
  obtain ⟨v, w, rfl, rv, rw⟩ := r.two
  cases e1 : isiB x y with
  | none => rw [e1] at e; cases e
  | some b =>
    rw [e1] at e
    cases e
    have fin : Q (.bl b) H := OpM.ret gd h e0 (.bl b)
    unfold isiB at e1
    split at e1
    · rename_i n
      have hw := rw.ty_
      subst hw
      split at e1
      · rename_i a ha
        split at e1
        · exact ⟨v, .ty n, .type a, .type n, b, rfl, .ty n, tyN_ty gd.ex rv ha, kit_ty e1, fin⟩
        · cases e1
      · split at e1
        · rename_i c ks ds _
          split at e1
          · rename_i hh
            cases e1
            have hcc := rv.objc
            obtain ⟨a, dx, vs, rfl, ha, _⟩ := rv.obj_
            exact ⟨_, .ty n, _, .type n, false, rfl, .ty n, .base (I.ty c hcc H a dx _ (gd.ex _ _ ha)), I.ob c hcc n hh, fin⟩
          · cases e1
        · cases e1
    · rename_i k
      obtain ⟨hw, hk⟩ := rw.cls_
      subst hw
      split at e1
      · rename_i a ha
        cases e1
        exact ⟨v, .ref (W.cl k), .type a, .ref (W.cl k), false, rfl, .own _, tyN_ty gd.ex rv ha, I.bi a (tyN_mem ha) k hk, fin⟩
      · split at e1
        · rename_i c ks ds _
          cases e1
          have hcc := rv.objc
          obtain ⟨a, dx, vs, rfl, ha, _⟩ := rv.obj_
          exact ⟨_, .ref (W.cl k), _, .ref (W.cl k), _, rfl, .own _, .base (I.ty c hcc H a dx _ (gd.ex _ _ ha)), I.own c hcc k hk, fin⟩
        · cases e1
    · cases e1
end Mi



set_option Elab.async false
set_option linter.all false
set_option maxRecDepth 100000
set_option maxHeartbeats 4000000
/-! Mi8: objects made, == and != by an own __eq__, len by an own __len__, static methods. -/
namespace Mi
open PySem PySem.Spec PyProof.Rows L2

/-! ### a def called from within a built-in -/
section
variable {X : Cx} {k : Nat} {f : Addr} {fd : FuncData} {ps : List Str} {sp : Sp}
theorem call_at {A : Around} {pins : List (Addr × Obj)} {σ : L2.St} {H : Hp} {s : Shared} {us : List Value} {vs : List V} {Q : VK} {E' : Value → Shared → Prop} (G : FnOk X.prog X.w X.K X.mg X.base CX0 k f fd ps sp) (hr : Room k A) (hfr : A.frames = X.A.frames) (hb : Binds X.K fd ps [])
    (I : Inv X pins σ H s) (r : Vals vs us) (h : sp vs H Q E0) : wpAny (model X.prog X.w) A (call (.ref f) us) (EP X pins σ Q) E' s := by
  have hl := G.len _ _ _ _ h
  have e0 : Env0 X.prog X.w X.K X.mg X.base A X.stack s H := by
    have e := I.env0
    exact ⟨by rw [hfr]; exact e.frames, e.mod, e.bs, e.bsz, e.funs, e.frf, e.hok, e.bare⟩
  refine wpAny_call (codeAny_mono (G.run A X.stack s H ⟨us, []⟩ us vs Q E0 hr e0 (by
    have := hb s us I.kIn (by simpa [← r.length] using hl)
    simpa using this) r h) fun r s' hq => ?_)
  cases r with
  | error e => exact False.elim hq
  | ok fl =>
    cases fl with
    | ret u => exact I.after hq
    | next => exact False.elim hq
    | brk => exact False.elim hq
    | cont => exact False.elim hq
end

/-! ### == and != of two objects of one class -/
section
variable {X : Cx} {k : Nat} {f C : Addr} {fd : FuncData} {ps : List Str} {sp : Sp}
end
section
variable {X : Cx} {c : Cf} {k : Nat} {f : Addr} {fd : FuncData} {ps : List Str} {mf : List D → M D} {ck : Str} {a b : Expr} {ma mb : ME} {pos : Pos}
/-! ### len of an object -/
end

/-! ### static methods called off the class -/
section
variable {X : Cx} {c : Cf} {k n : Nat} {C q g : Addr} {mc : Value} {sp : Sp} {fd : FuncData} {ps ks : List Str} {o e : Expr} {es : List Expr} {kws : List Keyword} {m : Str} {pos apos : Pos} {ta : TE} {t tk : TA} {pl : Sem Bool}
end

/-! ### objects made -/
def spI (W : Wo) (ck : Str) (n : Nat) (mf : List D → M (List Str × List D)) : Sp := fun vs H Q _ => vs.length = n + 1 ∧ ∃ p F u H1 x dx ws ds, vs = .ref x :: ws ∧ H1 x = none ∧ H1 dx = none ∧ dx ≠ x ∧
  H = upd (upd H1 dx (.own x)) x (.ins (W.cl ck) dx []) ∧ Gd p u F H1 ∧ Reps W p F ws ds ∧ After p F H1 (mf ds u) fun r _ F' H' => ∀ dx' vs', F' x = none → H' x = some (.ins (W.cl ck) dx' (r.1.zip vs')) → r.1.length = vs'.length → Reps W p F' vs' r.2 → Q .non H'
def startI (n : Nat) (ck : Str) (ds : List D) : Env := .oi ck [] [] :: startE (n - 1) ds
def mInit (n : Nat) (ck : Str) (mb : MS) : List D → M (List Str × List D) := fun ds u => match mb (startI n ck ds) u with
  | some (.nx ρ', u') => match (ρ'[0]? : Option Sd) with
    | some (Sd.oi k ks es) => if k = ck then some ((ks, es), u') else none
    | _ => none
  | _ => none
section
variable {P : Program} {w : World} {K : PySem.W.Frag} {mg : Str → Option Value} {base : Heap} {x qual : Str} {params : Arguments} {body : List Stmt} {scope : Scope} {dvs : List V} {kws : List (Str × V)} {f : Addr} {fd : FuncData} {W : Wo} {N ps : List Str} {k n : Nat} {mb : MS} {ck nm : Str}
theorem fn_init (F : FunD K x qual params body scope dvs kws f fd) (S : FnScope (nm :: N) ps scope) (hl : ps.length = n + 1)
    (hb : ∀ (cdv : Value) (A : Around) (outer : List PySem.Env) (s : Shared) (H : Hp) (E : XK) (p : Addr) (F0 H0 : Hp) (sf : Addr), Room k (A.deeper (envOfC qual scope s.heap.objs.size f cdv)) → DB (cxOf CX0 P w K mg base (nm :: N) qual scope f cdv A outer s H E).nox ⟨W, p, F0, H0, sf⟩ body mb) :
    FnOk P w K mg base CX0 (k + 1) f fd ps (spI W ck n (mInit (N.length + 1) ck mb)) := by
  refine F.ok S (fun vs H Q E h => h.1.trans hl.symm) (fun cdv A outer s H vs Q E hr h => ?_)
  obtain ⟨hlen, p, F0, u, H1, x, dx, ws, ds, rfl, hx, hdx, hne, rfl, g, r, h⟩ := h
  have hpx : p ≠ x := fun z => g.ne (z ▸ hx)
  have hpd : p ≠ dx := fun z => g.ne (z ▸ hdx)
  have s1 : Stp p F0 H1 F0 (upd (upd H1 dx (.own x)) x (.ins (W.cl ck) dx [])) := ⟨fun _ _ e => e, fun a o _ e => by rw [upd_ne (ne_of_none e hx), upd_ne (ne_of_none e hdx)]; exact e, fun _ _ e => .inl e⟩
  have g1 : Gd p u F0 (upd (upd H1 dx (.own x)) x (.ins (W.cl ck) dx [])) := ⟨fun a o e => by rw [upd_ne (ne_of_none (g.ex a o e) hx), upd_ne (ne_of_none (g.ex a o e) hdx)]; exact g.ex a o e, by rw [upd_ne hpx, upd_ne hpd]; exact g.pu, g.off⟩
  have hFx : F0 x = none := g.fresh hx
  refine ⟨_, PSs.nox (hb cdv A outer s _ E p F0 H1 x hr), F0, u, startI (N.length + 1) ck ds, ⟨s1, g1, ?_⟩, ?_⟩
  · have e0 := env_start (c := ⟨W, p, F0, H1, x⟩) (H := upd (upd H1 dx (.own x)) x (.ins (W.cl ck) dx [])) (N := N) r
    have es : L2.start (nm :: N) (.ref x :: ws) = some (.ref x) :: L2.start N ws := by
      unfold L2.start
      rw [List.length_cons, List.length_cons, Nat.add_sub_add_right]
      rfl
    have er : startI (N.length + 1) ck ds = .oi ck [] [] :: startE N.length ds := rfl
    rw [es, er]
    have nown : ∀ {i : Nat} {s : Sd}, (startE N.length ds)[i]? = some s → s.own = false := fun {i s} e => by
      unfold startE at e
      by_cases hi : i < (ds.map Sd.sh).length
      · rw [List.getElem?_append_left hi, List.getElem?_map] at e
        cases q : ds[i]? with
        | none => rw [q] at e; cases e
        | some d => rw [q] at e; cases e; rfl
      · rw [List.getElem?_append_right (by omega), List.getElem?_replicate] at e
        split at e
        · cases e; rfl
        · cases e
    refine ⟨by simp [e0.len], fun i t e => ?_, fun i j t t' hij e1 e2 o1 o2 => ?_⟩
    · cases i with
      | zero =>
        simp at e
        subst e
        exact ⟨dx, [], rfl, upd_same, hFx, Ne.symm hpx, hx, rfl, Reps.nil⟩
      | succ i => exact e0.at_ i t (by simpa using e)
    · cases i with
      | zero =>
        cases j with
        | zero => exact absurd rfl hij
        | succ j => rw [nown (by simpa using e2)] at o2; cases o2
      | succ i => rw [nown (by simpa using e1)] at o1; cases o1
  · unfold mInit at h
    cases e : mb (startI (N.length + 1) ck ds) u with
    | none => rw [e] at h; exact h
    | some y =>
      obtain ⟨fl, u1⟩ := y
      rw [e] at h
      cases fl with
      | nx ρ' =>
        intro σ' F' H' _ S'
        have h' : After p F0 H1 (match (ρ'[0]? : Option Sd) with
          | some (Sd.oi k ks es) => if k = ck then some ((ks, es), u1) else none
          | _ => none) fun r _ F' H' => ∀ dx' vs', F' x = none → H' x = some (.ins (W.cl ck) dx' (r.1.zip vs')) → r.1.length = vs'.length → Reps W p F' vs' r.2 → Q .non H' := h
        split at h'
        · rename_i k' ks es e0
          split at h'
          · rename_i hk
            subst hk
            obtain ⟨dx', vs', _, h2, h3, _, _, h5, h6⟩ := S'.env.at_ 0 _ e0
            exact h' F' H' S'.ent S'.gd dx' vs' h3 h2 h5 h6
          · exact False.elim h'
        · exact False.elim h'
      | _ => exact False.elim h
end
/-- self.f = e -/
def mSelfSet (i : Nat) (ck fn : Str) (m : ME) : MS := fun ρ => M.bind (m ρ) fun d => M.bind (lft (match (ρ[i]? : Option Sd) with
  | some (Sd.oi k ks es) => if k = ck ∧ fn ∉ ks ∧ ks.length < 900 then some (ks, es) else none
  | _ => none)) fun q => M.pure (.nx (ρ.set i (.oi ck (q.1 ++ [fn]) (q.2 ++ [d]))))
theorem putF_zip {fn : Str} {y : V} : ∀ {ks : List Str} {vs : List V}, fn ∉ ks → ks.length = vs.length → putF fn y (ks.zip vs) = (ks ++ [fn]).zip (vs ++ [y])
  | [], vs, _, hl => by
    have : vs = [] := List.eq_nil_of_length_eq_zero (by simpa using hl.symm)
    subst this
    rfl
  | a :: ks, [], _, hl => by simp at hl
  | a :: ks, b :: vs, h, hl => by
    show (if a = fn then _ else (a, b) :: putF fn y (ks.zip vs)) = _
    rw [if_neg (fun z => h (by simp [z])), putF_zip (fun z => h (List.mem_cons_of_mem _ z)) (by simpa using hl)]
    rfl
section
variable {X : Cx} {c : Cf} {pos p0 tp : Pos} {e : Expr} {m : ME} {ck fn x : Str}
theorem dSelfSet (i : Nat) (hc : Cls X.K (c.W.cl ck)) (hn : NoAttr X.K (c.W.cl ck) fn) (he : DE X c e m) (hN : X.N[i]? = some x := by rfl) (hv : Vis X.env.scope x := by first | exact Or.inl rfl | exact Or.inr (Or.inl rfl) | exact Or.inr (Or.inr rfl)) (hd : (x == ("__debug__" : Str)) = false := by decide)
    (hcd : (x == ("__classdict__" : Str)) = false := by decide) (hs : swapsWith e (some (.Attribute (.Name x p0) fn tp)) pos.line X.env = pure false := by rfl) : DS X c (.Assign [.Attribute (.Name x p0) fn tp] e pos) (mSelfSet i ck fn m) :=
  (ps_fld (pe_var (i := i) hN hv hd hcd) he hs).imp fun Dn σ H ⟨F, u, ρ, S, h⟩ => ⟨F, u, ρ, S, (flowO.after S h).imp fun d u1 F1 H1 _ s1 g1 h1 v rv => by
    obtain ⟨⟨ks, es⟩, e1, h2⟩ := flowO.lft h1.1 h1.2
    split at e1
    · rename_i k' ks' es' e0
      split at e1
      · rename_i hh
        obtain ⟨rfl, hf, hl⟩ := hh
        cases e1
        have S1 := h1.1
        obtain ⟨dx, vs, q1, q2, q3, q4, q5, q6, q7⟩ := id (S1.env.at_ i _ e0)
        refine ⟨.ref c.sf, q1, c.sf, _, dx, _, rfl, q2, hc, hn, by rw [List.length_zip]; omega, h2 σ F1 _ (Same.refl _) ?_⟩
        rw [putF_zip hf q6]
        have qs : ∀ {j : Nat} {t : Sd} {a : Addr}, i ≠ j → ρ[j]? = some t → t.own = true → σ[j]? = some (some (.ref a)) → a ≠ c.sf := fun {j t a} ne e2 o z h => by
          subst h
          exact S1.env.ne i j _ t ne e0 e2 rfl o (q1.trans z.symm)
        refine ⟨⟨S1.ent.ef, fun a o ha e => ?_, S1.ent.nw⟩, ⟨fun a o e => ?_, by rw [upd_ne (Ne.symm q4)]; exact S1.gd.pu, S1.gd.off⟩, by simpa using S1.env.len, fun j t e2 => ?_, fun j k t t' h e1 e2 o1 o2 => ?_⟩
        · rw [upd_ne (fun z => by rw [z, q5] at e; cases e)]; exact S1.ent.eh a o ha e
        · rw [upd_ne (fun z => by rw [z, q3] at e; cases e)]; exact S1.gd.ex a o e
        · rcases set_get e2 with ⟨rfl, rfl, _⟩ | ⟨ne, e2⟩
          · exact ⟨dx, vs ++ [v], q1, upd_same, q3, q4, q5, by simp [q6], q7.append (Reps.cons rv Reps.nil)⟩
          · have k := S1.env.at_ j t e2
            cases t with
            | un => trivial
            | sh d => exact k
            | ow ds' => obtain ⟨a, xs, z, ha, rest⟩ := k; exact ⟨a, xs, z, by rw [upd_ne (qs ne e2 rfl z)]; exact ha, rest⟩
            | oi kk ks' ds' => obtain ⟨dx', xs, z, ha, rest⟩ := k; exact absurd rfl (qs ne e2 rfl z)
        · have back : ∀ {m : Nat} {y : Sd}, (ρ.set i (Sd.oi k' (ks ++ [fn]) (es ++ [d])))[m]? = some y → y.own = true → ∃ y', ρ[m]? = some y' ∧ y'.own = true := fun {m y} z o => by
            rcases set_get z with ⟨rfl, rfl, _⟩ | ⟨_, z⟩
            · exact ⟨_, e0, rfl⟩
            · exact ⟨y, z, o⟩
          obtain ⟨y1, z1, p1⟩ := back e1 o1
          obtain ⟨y2, z2, p2⟩ := back e2 o2
          exact S1.env.ne j k y1 y2 h z1 z2 p1 p2
      · cases e1
    · cases e1⟩
end
/-- C(e, ..) -/
def mMake (ck : Str) (n : Nat) (mf : List D → M (List Str × List D)) (ms : MA) : ME := fun ρ => M.bind (ms ρ) fun ds => if ds.length = n then M.bind (mf ds) fun r => M.pure (.obj ck r.1 r.2) else lft none
section
variable {X : Cx} {c : Cf} {k n : Nat} {f : Addr} {fd : FuncData} {ps : List Str} {x ck : Str} {p pos : Pos} {e : Expr} {es : List Expr} {ms : MA} {mf : List D → M (List Str × List D)}
theorem make_ok {p : Addr} {F1 H1 : Hp} {u1 : PuS} {vs : List V} {ds : List D} {W : Wo} {Q : VK} (hc : ck ∈ W.cs) (g1 : Gd p u1 F1 H1) (rvs : Reps W p F1 vs ds) (h1 : After p F1 H1 ((if ds.length = n then M.bind (mf ds) fun r => M.pure (D.obj ck r.1 r.2) else lft none) u1) fun d _ F' H' => ∀ v, Rep W p F' v d → Q v H')
    (a dx : Addr) (ha : H1 a = none) (hdx : H1 dx = none) (hne : dx ≠ a) : spI W ck n mf (.ref a :: vs) (upd (upd H1 dx (.own a)) a (.ins (W.cl ck) dx [])) (fun v H2 => v = .non ∧ Q (.ref a) H2) E0 := by
  split at h1
  · rename_i hl
    refine ⟨by simp [rvs.1, hl], p, F1, u1, H1, a, dx, vs, ds, rfl, ha, hdx, hne, rfl, g1, rvs, ?_⟩
    unfold M.bind at h1
    cases e1 : mf ds u1 with
    | none => rw [e1] at h1; exact h1
    | some y =>
      obtain ⟨r, u2⟩ := y
      rw [e1] at h1
      have h2 : After p F1 H1 (some (D.obj ck r.1 r.2, u2)) fun d _ F' H' => ∀ v, Rep W p F' v d → Q v H' := h1
      intro F' H' s' g' dx' vs' hF hH hlk hr
      have hsm : Same F' (upd F' a (.ins (W.cl ck) dx' (r.1.zip vs'))) := fun b o e => by rw [upd_ne (fun z => by rw [z, hF] at e; cases e)]; exact e
      have hpa : p ≠ a := fun z => g1.ne (z ▸ ha)
      refine ⟨rfl, h2 (upd F' a (.ins (W.cl ck) dx' (r.1.zip vs'))) H' ⟨s'.ef.trans hsm, s'.eh, fun b o e => ?_⟩ ⟨fun b o e => ?_, g'.pu, fun l e => by rw [upd_ne hpa]; exact g'.off l e⟩ (.ref a) (.obj hc upd_same hlk hr.1 fun i v d x y => (hr.2 i v d x y).mono hsm)⟩
      · by_cases hb : b = a
        · subst hb; exact .inr ha
        · rw [upd_ne hb] at e; exact s'.nw b o e
      · by_cases hb : b = a
        · subst hb; rw [upd_same] at e; cases e; exact hH
        · rw [upd_ne hb] at e; exact g'.ex b o e
  · exact False.elim h1
theorem dMake (hc : ck ∈ c.W.cs) (Mk' : Mk X.K (c.W.cl ck) f) (G : FnOk X.prog X.w X.K X.mg X.base CX0 k f fd ps (spI c.W ck n mf)) (hr : Room (k + 1) X.A) (hg : Gl X x) (hm : X.mg x = some (.ref (c.W.cl ck))) (hb : Binds X.K fd ps [])
    (ha : DA X c (e :: es) ms) (hdb : (x == ("__debug__" : Str)) = false := by decide) (he : starEach (e :: es) X.env = (false, eval e X.env) :: starEach es X.env := by rfl) (hpl : (backTo pos (starEach es X.env)).any (·.1) = false := by rfl) :
    DE X c (.Call (.Name x p) (e :: es) [] pos) (mMake ck n mf ms) :=
  (pe_make Mk' G hr hg hm hb .nil pass0 ha hdb he hpl).imp fun σ H Q ⟨F, u, ρ, S, h⟩ => ⟨F, u, ρ, S, (After.split h).imp fun ds u1 F1 H1 _ s1 g1 h1 vs rvs => by
    intro a dx ha hdx hne
    show spI c.W ck n mf (.ref a :: (vs ++ [])) _ _ _
    rw [List.append_nil]
    exact make_ok hc g1 rvs h1 a dx ha hdx hne⟩
end
end Mi


set_option Elab.async false
set_option linter.all false
set_option maxRecDepth 100000
set_option maxHeartbeats 4000000
/-! Mi9: enumerate and zip of tuples. -/
namespace PySem
theorem mi_meets_enum1 {v : Value} {o : Obj} {H : Heap → Prop} (B : Begins v o H) :
    Meets (Builtin.«enumerate.__new__» ⟨[.type "enumerate", v], []⟩) (fun _ R s => H s.heap ∧
      R (.ok (.ret (.ref (s.heap.push o).objs.size))) { s with heap := (s.heap.push o).push { cls := .type "enumerate", data := .fields #[.none, .bool false, .ref s.heap.objs.size, rawInt 0, .none, .none] } }) :=
  .of_wp fun prog w A R s h => by
    obtain ⟨hp, g, d, tk, os⟩ := s; obtain ⟨h1, h⟩ := h
    have hsub := sub_enumerate
    have q1 : ∀ {A' : Around} {E : Value → Shared → Prop} {Q : Value → Shared → Prop}, Q (.ref hp.objs.size) ⟨hp.push o, g, d, tk, os⟩ → wpAny (model prog w) A' (pyIter v) Q E ⟨hp, g, d, tk, os⟩ :=
      fun q => B.iter prog w _ _ ⟨hp, g, d, tk, os⟩ _ h1 q
    wp_walk using q1
    refine wpAny_stack_any fun st => wpAny_pure ?_
    split
    · rename_i c _ _ _ _ _
      cases (c == Value.type "enumerate")
      · wp_walk using q1
        exact ⟨_, rfl, h⟩
      · wp_walk using q1
        exact ⟨_, rfl, h⟩
    · wp_walk using q1
      exact ⟨_, rfl, h⟩
theorem mi_enum_begins1 {prog : Program} {w : World} {A : Around} {E : Value → Shared → Prop} {s : Shared} {v : Value} {o : Obj} {H : Heap → Prop} {Q : Value → Shared → Prop} (B : Begins v o H) (h1 : H s.heap)
    (h : ∀ h', IsEnum h' (s.heap.objs.size + 1) s.heap.objs.size 0 .none → h'.get? s.heap.objs.size = some o → h'.objs.size = s.heap.objs.size + 2 →
      (∀ b o, s.heap.get? b = some o → h'.get? b = some o) → Q (.ref (s.heap.objs.size + 1)) { s with heap := h' }) :
    wpAny (model prog w) A (call (.type "enumerate") [v]) Q E s := by
  refine callType_new F.called_enumerate (by decide) (F.typeCall_enumerate_1 _) (F.newCall_enumerate_1 _) (fun obj => F.args_object_init_2 obj _) F.entry_enumerate_new
    (mi_meets_enum1 B) ⟨h1, ?_⟩
  have hz : (s.heap.push o).objs.size = s.heap.objs.size + 1 := Heap.size_push ..
  show _ ∧ _
  rw [hz]
  have he : IsEnum ((s.heap.push o).push { cls := .type "enumerate", data := .fields #[.none, .bool false, .ref s.heap.objs.size, rawInt 0, .none, .none] }) (s.heap.objs.size + 1) s.heap.objs.size 0 .none := by
    have := Heap.get?_push_size (s.heap.push o) (o := { cls := .type "enumerate", data := .fields #[.none, .bool false, .ref s.heap.objs.size, rawInt 0, .none, .none] }) rfl
    rw [hz] at this; exact this
  refine ⟨⟨_, he, rfl⟩, h _ he (Heap.get?_push_of_some _ (Heap.get?_push_size _ B.free)) (by rw [Heap.size_push, hz]) fun b o x => Heap.get?_push_of_some _ (Heap.get?_push_of_some _ x)⟩
end PySem

namespace Mi
open PySem PySem.Spec PyProof.Rows L2
/-- the tuple at a, each item in a new pair -/
def IteT (K : PySem.W.Frag) (a : Addr) : It :=
  ⟨fun i H => ∃ (xs : List V) (x : V), SqT K H a xs ∧ xs[i]? = some x, fun i H v H' => ∃ T x, v = .ref T ∧ H T = none ∧ H' = upd H T (.tup [.int (i : Nat), x]) ∧ ∀ xs, SqT K H a xs → xs[i]? = some x, fun i H => ∃ xs : List V, SqT K H a xs ∧ xs.length ≤ i⟩
theorem turn_enumT {P : Program} {w : World} {K : PySem.W.Frag} {elts : List Expr} {kk : Nat} {tpos : Pos} (a e it : Addr) (hai : a ≠ it) (hae : a ≠ e) :
    Turn P w K (.Tuple elts kk tpos) (IteT K a) [e, it] e (fun i h => (∃ old, IsEnum h e it ((i : Nat) : Int) old) ∧ h.IsTupleIter it a i ∧ e ≠ it) where
  mem := by simp
  obj := fun i h st b hb => by
    obtain ⟨⟨old, he⟩, ⟨o, ho, hc, hd⟩, _⟩ := st
    have e' : b = e ∨ b = it := by simpa using hb
    rcases e' with z | z
    · rw [z]; exact ⟨_, he, fun v q => nomatch q⟩
    · rw [z]; exact ⟨o, ho, fun v q => by rw [hd] at q; cases q⟩
  keep := fun i h h' st k => let ⟨⟨old, he⟩, hi, hne⟩ := st; ⟨⟨old, k e (by simp) _ he⟩, hi.at fun o q => k it (by simp) o q, hne⟩
  item := by
    intro X hP hw hK hc i pins s σ H E I hf st hg
    subst hP hw hK
    obtain ⟨⟨old, he⟩, hit, hne⟩ := st
    obtain ⟨xs, x, hq, hx⟩ := hg
    obtain ⟨its, rv, p, hz⟩ := I.tuple hq
    obtain ⟨u, hu, ru⟩ := rv.get hx
    have hel : e < s.heap.objs.size := Heap.lt_size he
    have hil : it < s.heap.objs.size := by obtain ⟨_, q, _⟩ := hit; exact Heap.lt_size q
    have hlt : i < its.toArray.size := by
      have := (List.getElem?_eq_some_iff.mp hu).1
      simpa using this
    have hnf : e ∉ [it, a] := by simp [hne, Ne.symm hae]
    refine wpAny_pyNext_enum_itemD (Draws.tuple (A := X.A.in1) (I.ok.hd hc) it a hai its.toArray) he ⟨hit, p⟩ hlt hne hnf fun x' h' tk hP ho hst' hT hsz hk => ?_
    have ex : x' = u := by
      have e1 : its[i]? = some x' := by simpa using hP
      rw [hu] at e1
      exact (Option.some.inj e1).symm
    subst ex
    refine ⟨_, rfl, wpAny_letOwnedTupleGo_enum (s := { s with heap := h', toks := tk + 1 }) ho fun h'' he' sb => ?_⟩
    have hT2 : h''.get? s.heap.objs.size = some { cls := .type "tuple", data := .seq #[.int i tk, x'] } := (sb.2 _ (Nat.ne_of_gt hel)).trans hT
    have new : ObjOk X.prog X.w (upd H s.heap.objs.size (.tup [.int (i : Nat), x])) h'' s.heap.objs.size (.tup [.int (i : Nat), x]) :=
      ⟨by show 2 ≤ sizeLine; decide, [.int i tk, x'], .cons ⟨_, rfl⟩ (.cons ru .nil), ⟨_, hT2, rfl, _, rfl⟩⟩
    have I1 : Inv X pins σ (upd H s.heap.objs.size (.tup [.int (i : Nat), x])) { s with heap := h'', toks := tk + 1 } :=
      I.turnedNew (ch := [e, it]) (fun b ob hb q => (sb.2 b (fun z => hb (by simp [z]))).trans (hk b ob (fun z => hb (by simp [z])) (fun z => hb (by simp [z])) q)) hf (Nat.le_refl _) new
    refine ⟨.ref s.heap.objs.size, _, I1, rfl, ⟨_, x, rfl, I.hok.fresh (Nat.le_refl _), rfl, fun ys hy => by rw [I.tuple_inj hy hq]; exact hx⟩, ⟨⟨x', ?_⟩, hst'.1.at fun o q => (sb.2 it (Ne.symm hne)).trans q, hne⟩, fun b hb => ?_⟩
    · have e1 : ((i + 1 : Nat) : Int) = (i : Int) + 1 := by omega
      rw [e1]; exact he'
    · have hb' : b < s.heap.objs.size := by
        have e' : b = e ∨ b = it := by simpa using hb
        rcases e' with z | z
        · rw [z]; exact hel
        · rw [z]; exact hil
      rw [upd_ne (Nat.ne_of_lt hb')]
      exact (hf b hb).1
  done := by
    intro X hP hw hK hc i pins s σ H E I hf st hg
    subst hP hw hK
    obtain ⟨⟨old, he⟩, hit, hne⟩ := st
    obtain ⟨xs, hq, hx⟩ := hg
    obtain ⟨its, rv, p, hz⟩ := I.tuple hq
    obtain ⟨f0, f1, f2, f3, f4, f5⟩ := hf it (by simp)
    have hl := rv.length
    have hT : s.TypeIs (.ref e) "enumerate" := ⟨_, he, rfl⟩
    unfold pyNext
    refine wpAny_bind (wpAny_attempt (wpAny_callSpecial?_slot (name := Str.ofString "__next__") hT F.slot_enumerate_next
      (wpAny_call_entry F.slot_enumerate_next hT F.entry_enumerate_next ?_ (F.args_enumerate_next_1 _))))
    show wpAny _ _ (field (.ref e) 2 >>= _) _ _ _
    refine wpAny_bind (wpAny_field he rfl (x := .ref it) rfl ?_)
    refine wpAny_bind (wpAny_nextOf_tuple_end (I.ok.hd hc) hit p (by simp; omega) fun h' x' he' hx' => ?_)
    obtain ⟨o, ho, hcc⟩ := hx'
    refine wpAny_bind (wpAny_isInstance (T := "StopIteration") (b := true) ⟨o, ho, hcc⟩ isSubtype_stop ?_)
    exact wpAny_pure ⟨rfl, I.turned (t' := s.toks) (fun b o hb q => he' b o hb q) f0 f1 f3 f4 f5⟩
  self := fun A i s Q E st h => let ⟨⟨_, he⟩, _⟩ := st; wpAny_pyIter_enum he h
def iEnumT (K : PySem.W.Frag) (ta : TA) : TI := fun σ H R => ta σ H fun vs H1 => ∃ a xs, vs = [.ref a] ∧ SqT K H1 a xs ∧ R (IteT K a) H1
theorem pi_enumT {X : Cx} {e : Expr} {ta : TA} {p pos tpos : Pos} {elts : List Expr} {kk : Nat} (hg : Gl X "enumerate") (hm : X.mg "enumerate" = none) (ha : PA X [e] ta) (hs : starEach [e] X.env = [(false, eval e X.env)] := by rfl) :
    PI X (.Tuple elts kk tpos) (.Call (.Name "enumerate" p) [e] [] pos) (iEnumT X.K ta) := by
  refine ⟨fun pins s σ H R I h => ?_⟩
  refine Call_ (ld_blt I hg hm boot_enumerate (PyProof.Rows.callWith_type1 (thn (ha.run pos pins s σ H _ I h) fun us s1 ⟨vs, H1, I1, r1, q1⟩ => ?_) hs rfl))
  obtain ⟨a, xs, ex, hq, q⟩ := q1
  subst ex
  cases r1 with
  | cons r rr =>
    cases rr
    cases r
    obtain ⟨its, rv, p', hz⟩ := I1.tuple hq
    have la : a < s1.heap.objs.size := p'.lt
    refine mi_enum_begins1 (begins_tuple a its.toArray) p' fun h' he hit hsz hk => wpAny_pyIter_enum he ?_
    have I2 : Inv X pins σ H1 { s1 with heap := h' } := I1.kept (t' := s1.toks) hk
    refine ⟨s1.heap.objs.size + 1, [s1.heap.objs.size + 1, s1.heap.objs.size], _, _, H1, rfl, I2, turn_enumT a (s1.heap.objs.size + 1) s1.heap.objs.size (Nat.ne_of_lt la) (Nat.ne_of_lt (Nat.lt_succ_of_lt la)), ⟨⟨.none, he⟩, ⟨_, hit, rfl, rfl⟩, Nat.succ_ne_self _⟩, fun b hb => ?_, q⟩
    have e' : b = s1.heap.objs.size + 1 ∨ b = s1.heap.objs.size := by simpa using hb
    have hle : s1.heap.objs.size ≤ b := by
      rcases e' with z | z
      · rw [z]; exact Nat.le_add_right _ _
      · rw [z]; exact Nat.le_refl _
    exact I1.fpOk hle (I1.hok.fresh hle)
theorem walk_enumT {K : PySem.W.Frag} {a : Addr} {xs : List V} : Walk (IteT K a) xs.length (fun H => SqT K H a xs) (YPair (fun i => some (.int (i : Nat))) (fun i => xs[i]?)) := by
  refine ⟨fun i _ hi q => ⟨xs, xs[i], q, by simp [hi]⟩, fun _ q => ⟨xs, q, Nat.le_refl _⟩, fun i H v H' _ q y => ?_⟩
  obtain ⟨T, x, h1, h2, h3, h4⟩ := y
  exact ⟨T, .int (i : Nat), x, h1, h2, h3, rfl, h4 xs q⟩
theorem walk_zipT {K : PySem.W.Frag} {a b : Addr} {xs ys : List V} {n : Nat} (hn : n = min xs.length ys.length) : Walk (RZ.ItzT K a b) n (fun H => SqT K H a xs ∧ SqT K H b ys) (YPair (fun i => xs[i]?) (fun i => ys[i]?)) := by
  subst hn
  refine ⟨fun i _ hi q => ?_, fun _ q => ⟨xs, ys, q.1, q.2, by omega⟩, fun i H v H' _ q y => ?_⟩
  · have h1 : i < xs.length := by omega
    have h2 : i < ys.length := by omega
    exact ⟨xs, ys, xs[i], ys[i], q.1, q.2, by simp [h1], by simp [h2]⟩
  · obtain ⟨T, x, z, h1, h2, h3, h4, h5⟩ := y
    exact ⟨T, x, z, h1, h2, h3, h4 xs q.1, h5 ys q.2⟩
def enumT1 : List D → Option (List D) := fun ds => match ds with
  | [.tup xs] => some (enumD xs)
  | _ => none
def zipA2 : List D → Option (List D) := fun ds => match ds with
  | [.lst xs, .lst ys] => some (zipD xs ys)
  | [.tup xs, .tup ys] => some (zipD xs ys)
  | _ => none
section
variable {X : Cx} {c : Cf} {a b : Expr} {ms : MA} {pos q tpos : Pos} {elts : List Expr} {kk : Nat}
theorem dIenumT (hg : Gl X "enumerate") (hm : X.mg "enumerate" = none) (ha : DA X c [a] ms) (hs : starEach [a] X.env = [(false, eval a X.env)] := by rfl) (hK : X.K = c.W.K := by rfl) :
    DI X c (.Tuple elts kk tpos) (.Call (.Name "enumerate" q) [a] [] pos) (mIof enumT1 ms) :=
  (pi_enumT hg hm ha hs).imp fun σ H R ⟨F, u, ρ, S, h⟩ => ⟨F, u, ρ, S, (After.split h).imp fun ds u1 F1 H1 _ s1 g1 h1 vs rv => by
    obtain ⟨es, e1, h2⟩ := lft_some h1
    unfold enumT1 at e1
    split at e1
    · rename_i xs _h
      cases e1
      obtain ⟨v, vr, rfl, r1, r2⟩ := rv.uncons
      rw [r2.none]
      obtain ⟨p1, v1, rfl, f1, q1⟩ := r1.tup_
      refine ⟨p1, v1, rfl, by rw [hK]; exact sq_t g1.ex f1, After.now g1 h2 _ ?_⟩
      rw [hK]
      refine walkD_pair (n := v1.length) (by rw [enumD_len, q1.1]) walk_enumT (fun H e => sq_t e f1) fun i x y d hx hy hd => ?_
      obtain ⟨y', e2, rfl⟩ := enumD_at hd
      cases hx
      exact ⟨_, y', rfl, .int _, q1.2 i y y' hy e2⟩
    · cases e1⟩
theorem dIzipA (hg : Gl X "zip") (hm : X.mg "zip" = none) (ha : DA X c [a, b] ms) (hs : starEach [a, b] X.env = (false, eval a X.env) :: starEach [b] X.env := by rfl) (hpl : (backTo pos (starEach [b] X.env)).any (·.1) = false := by rfl) (hK : X.K = c.W.K := by rfl) :
    DI X c (.Tuple elts kk tpos) (.Call (.Name "zip" q) [a, b] [] pos) (mIof zipA2 ms) :=
  (RZ.pi_zipA hg hm ha hs hpl).imp fun σ H R ⟨F, u, ρ, S, h⟩ => ⟨F, u, ρ, S, (After.split h).imp fun ds u1 F1 H1 _ s1 g1 h1 vs rv => by
    obtain ⟨es, e1, h2⟩ := lft_some h1
    unfold zipA2 at e1
    split at e1
    · rename_i xs ys _h
      cases e1
      obtain ⟨v, vr, rfl, r1, r2⟩ := rv.uncons
      obtain ⟨w, wr, rfl, r3, r4⟩ := r2.uncons
      rw [r4.none]
      obtain ⟨p1, v1, rfl, f1, q1⟩ := r1.lst_
      obtain ⟨p2, v2, rfl, f2, q2⟩ := r3.lst_
      refine ⟨p1, p2, v1, v2, rfl, .inl ⟨SqL.of (g1.ex _ _ f1), SqL.of (g1.ex _ _ f2), After.now g1 h2 _ ?_⟩⟩
      rw [hK]
      refine walkD_pair (n := min v1.length v2.length) (by rw [zipD_len, q1.1, q2.1]) (walk_zip rfl) (fun H e => ⟨SqL.of (e _ _ f1), SqL.of (e _ _ f2)⟩) fun i x y d hx hy hd => ?_
      obtain ⟨x', y', e1, e2, rfl⟩ := zipD_at hd
      exact ⟨x', y', rfl, q1.2 i x x' hx e1, q2.2 i y y' hy e2⟩
    · rename_i xs ys _h
      cases e1
      obtain ⟨v, vr, rfl, r1, r2⟩ := rv.uncons
      obtain ⟨w, wr, rfl, r3, r4⟩ := r2.uncons
      rw [r4.none]
      obtain ⟨p1, v1, rfl, f1, q1⟩ := r1.tup_
      obtain ⟨p2, v2, rfl, f2, q2⟩ := r3.tup_
      refine ⟨p1, p2, v1, v2, rfl, .inr ⟨by rw [hK]; exact sq_t g1.ex f1, by rw [hK]; exact sq_t g1.ex f2, After.now g1 h2 _ ?_⟩⟩
      rw [hK]
      refine walkD_pair (n := min v1.length v2.length) (by rw [zipD_len, q1.1, q2.1]) (walk_zipT rfl) (fun H e => ⟨sq_t e f1, sq_t e f2⟩) fun i x y d hx hy hd => ?_
      obtain ⟨x', y', e1, e2, rfl⟩ := zipD_at hd
      exact ⟨x', y', rfl, q1.2 i x x' hx e1, q2.2 i y y' hy e2⟩
    · cases e1⟩
end
end Mi


set_option Elab.async false
set_option linter.all false
set_option maxRecDepth 100000
set_option maxHeartbeats 4000000
/-! MiA: parallel assignment with fresh lists, keyword calls, fresh slices. -/
namespace Mi
open PySem PySem.Spec PyProof.Rows L2

/-! ### lists of values, some of them fresh lists -/
abbrev MM := Env → M (List Sd)
structure Mats (W : Wo) (p : Addr) (F H H00 : Hp) (vs : List V) (sds : List Sd) : Prop where
  len : vs.length = sds.length
  at_ : ∀ (i : Nat) (v : V) (sd : Sd), vs[i]? = some v → sds[i]? = some sd → match sd with
    | .sh d => Rep W p F v d
    | .ow ds => ∃ q ws, v = .ref q ∧ H q = some (.lst ws) ∧ F q = none ∧ H00 q = none ∧ Reps W p F ws ds
    | _ => False
  ne : ∀ (i j : Nat) (s t : Sd), i ≠ j → sds[i]? = some s → sds[j]? = some t → s.own = true → t.own = true → vs[i]? ≠ vs[j]?
def rdM (c : Cf) (m : MM) : TA := fun σ H Q => ∃ F u ρ, Sta c u F H σ ρ ∧ After c.p F H (m ρ u) fun sds _ F' H' => ∀ vs, Mats c.W c.p F' H' H vs sds → Q vs H'
abbrev DM (X : Cx) (c : Cf) (es : List Expr) (m : MM) : Prop := PA X es (rdM c m)
def mMnil : MM := fun _ => M.pure []
def mMsh (m : ME) (ms : MM) : MM := fun ρ => M.bind (m ρ) fun d => M.bind (ms ρ) fun ds => M.pure (.sh d :: ds)
def mMow (m : MA) (ms : MM) : MM := fun ρ => M.bind (m ρ) fun d => M.bind (ms ρ) fun ds => M.pure (.ow d :: ds)
section
variable {X : Cx} {c : Cf} {pos : Pos} {e a b : Expr} {es : List Expr} {m : ME} {ml : MA} {ms : MM}
theorem dMnil : DM X c [] mMnil := pa_nil.imp fun σ H Q ⟨F, u, ρ, S, h⟩ => After.now S.gd h [] ⟨rfl, fun i v sd a _ => by simp at a, fun i j s t _ a _ => by simp at a⟩
theorem dMsh (ha : DE X c e m) (hr : DM X c es ms) (hs : starEach (e :: es) X.env = (false, eval e X.env) :: starEach es X.env := by rfl) : DM X c (e :: es) (mMsh m ms) :=
  (pa_cons ha hr hs).imp fun σ H Q ⟨F, u, ρ, S, h⟩ => ⟨F, u, ρ, S, (After.split h).imp fun d u1 F1 H1 _ s1 g1 h1 v rv => ⟨F1, u1, ρ, S.step s1 g1, (After.split h1).imp fun ds u2 F2 H2 _ s2 g2 h2 vs R => by
    refine After.now (p := c.p) (F := F2) (H := H2) (u := u2) g2 h2 (v :: vs) ⟨by simp [R.len], fun i w sd ea eb => ?_, fun i j s t hij ea eb o1 o2 => ?_⟩
    · cases i with
      | zero => simp at ea eb; subst ea; subst eb; exact rv.mono s2.ef
      | succ i =>
        simp at ea eb
        have := R.at_ i w sd ea eb
        cases sd with
        | sh d => exact this
        | ow ds => obtain ⟨q, ws, h1, h2, h3, h4, h5⟩ := this; exact ⟨q, ws, h1, h2, h3, s1.back g1.ne h4, h5⟩
        | _ => exact this
    · cases i with
      | zero => simp at ea; subst ea; cases o1
      | succ i =>
        cases j with
        | zero => simp at eb; subst eb; cases o2
        | succ j => simp at ea eb ⊢; exact R.ne i j s t (fun z => hij (by rw [z])) ea eb o1 o2⟩⟩
end
section
variable {c : Cf} {u : PuS} {F H : Hp} {σ : L2.St} {ρ : Env}
theorem Sta.setS {i : Nat} {v : V} {sd : Sd} (S : Sta c u F H σ ρ) (ok : SdOk c F H (some (some v)) sd) (far : sd.own = true → ∀ (j : Nat) (t : Sd), j ≠ i → ρ[j]? = some t → t.own = true → σ[j]? ≠ some (some v)) : Sta c u F H (σ.set i (some v)) (ρ.set i sd) := by
  refine ⟨S.ent, S.gd, by simpa using S.env.len, fun j t e => ?_, fun j k s t hjk e1 e2 o1 o2 => ?_⟩
  · rcases set_get e with ⟨rfl, rfl, hl⟩ | ⟨ne, e⟩
    · rw [List.getElem?_set_self (by rw [S.env.len]; exact hl)]; exact ok
    · rw [List.getElem?_set_ne ne]; exact S.env.at_ j t e
  · rcases set_get e1 with ⟨rfl, rfl, hl⟩ | ⟨n1, e1b⟩
    · rcases set_get e2 with ⟨h, _, _⟩ | ⟨n2, e2⟩
      · exact absurd h hjk
      · rw [List.getElem?_set_self (by rw [S.env.len]; exact hl), List.getElem?_set_ne n2]
        exact fun z => far o1 k t (Ne.symm n2) e2 o2 z.symm
    · rcases set_get e2 with ⟨rfl, rfl, hl⟩ | ⟨n2, e2⟩
      · rw [List.getElem?_set_ne n1, List.getElem?_set_self (by rw [S.env.len]; exact hl)]
        exact far o2 j s (Ne.symm n1) e1b o1
      · rw [List.getElem?_set_ne n1, List.getElem?_set_ne n2]; exact S.env.ne j k s t hjk e1b e2 o1 o2
end
/-- set slots in their order -/
def setAll : List Nat → List Sd → Env → Env
  | i :: is, s :: ss, ρ => setAll is ss (ρ.set i s)
  | _, _, ρ => ρ
def setV : List Nat → List V → L2.St → L2.St
  | i :: is, v :: vs, σ => setV is vs (σ.set i (some v))
  | _, _, σ => σ
theorem Mats.tail {W : Wo} {p : Addr} {F H H00 : Hp} {v : V} {vs : List V} {s : Sd} {ss : List Sd} (R : Mats W p F H H00 (v :: vs) (s :: ss)) : Mats W p F H H00 vs ss :=
  ⟨by have := R.len; simpa using this, fun i w sd ea eb => R.at_ (i + 1) w sd (by simpa using ea) (by simpa using eb), fun i j s t hij ea eb o1 o2 => by
    have := R.ne (i + 1) (j + 1) s t (by omega) (by simpa using ea) (by simpa using eb) o1 o2
    simpa using this⟩
/-- all owned slots known: their objects were there, or are among these -/
theorem Sta.setAll {c : Cf} {u0 u : PuS} {F0 H0 F H : Hp} {σ0 : L2.St} {ρ0 : Env} (S0 : Sta c u0 F0 H0 σ0 ρ0) : ∀ {is : List Nat} {vs : List V} {sds : List Sd} {σ : L2.St} {ρ : Env}, Sta c u F H σ ρ → Mats c.W c.p F H H0 vs sds → is.length = vs.length →
    (∀ (j : Nat) (t : Sd) (k : Nat) (s : Sd), ρ[j]? = some t → t.own = true → sds[k]? = some s → s.own = true → σ[j]? ≠ (vs[k]?).map some) →
    Sta c u F H (setV is vs σ) (Mi.setAll is sds ρ)
  | [], vs, sds, σ, ρ, S, R, hl, far => by
    unfold setV Mi.setAll
    exact S
  | i :: is, [], sds, σ, ρ, S, R, hl, far => by simp at hl
  | i :: is, v :: vs, [], σ, ρ, S, R, hl, far => by have := R.len; simp at this
  | i :: is, v :: vs, s :: ss, σ, ρ, S, R, hl, far => by
    show Sta c u F H (setV is vs (σ.set i (some v))) (Mi.setAll is ss (ρ.set i s))
    have hv := R.at_ 0 v s rfl rfl
    refine Sta.setAll S0 (S.setS (i := i) (v := v) (sd := s) ?_ fun o j t _ e o2 => far j t 0 s e o2 rfl o) R.tail (by simpa using hl) fun j t k s' e o ek ok => ?_
    · cases s with
      | sh d => exact ⟨v, rfl, hv⟩
      | ow ds =>
        obtain ⟨q, ws, rfl, h1, h2, h3, h4⟩ := hv
        exact ⟨q, ws, rfl, h1, h2, fun z => S0.gd.ne (z ▸ h3), S0.ent.back S0.gd.ne h3, h4⟩
      | un => trivial
      | oi _ _ _ => exact False.elim hv
    · rcases set_get e with ⟨rfl, rfl, hl'⟩ | ⟨ne, e⟩
      · rw [List.getElem?_set_self (by rw [S.env.len]; exact hl')]
        have := R.ne 0 (k + 1) t s' (by omega) rfl (by simpa using ek) o ok
        intro z
        apply this
        simp at this ⊢
        cases q : vs[k]? with
        | none => rw [q] at z; cases z
        | some w => rw [q] at z; cases z; rfl
      · rw [List.getElem?_set_ne ne]
        have := far j t (k + 1) s' e o (by simpa using ek) ok
        simpa using this
theorem Mats.fresh {c : Cf} {u0 : PuS} {F0 H0 F H : Hp} {σ0 : L2.St} {ρ0 : Env} {vs : List V} {sds : List Sd} (S0 : Sta c u0 F0 H0 σ0 ρ0) (R : Mats c.W c.p F H H0 vs sds) (j : Nat) (t : Sd) (k : Nat) (s : Sd) (e : ρ0[j]? = some t) (o : t.own = true) (ek : sds[k]? = some s) (ok : s.own = true) : σ0[j]? ≠ (vs[k]?).map some := by
  intro z
  obtain ⟨q, hq, hne, _⟩ := (S0.env.at_ j t e).ref o
  rw [hq] at z
  cases ev : vs[k]? with
  | none => rw [ev] at z; cases z
  | some w =>
    rw [ev] at z
    have := R.at_ k w s ev ek
    cases z
    cases s with
    | ow ds =>
      obtain ⟨q', ws, e1, _, _, e4, _⟩ := this
      cases e1
      exact hne e4
    | oi _ _ _ => exact this
    | _ => cases ok
def mPar (is : List Nat) (ms : MM) : MS := fun ρ => M.bind (ms ρ) fun sds => if sds.length = is.length then M.pure (.nx (setAll is sds ρ)) else lft none
section
variable {X : Cx} {c : Cf} {pos : Pos} {a b d : Expr} {ms : MM}
theorem rdPar {is : List Nat} {Dn : Ends} {σ : L2.St} {H : Hp} (h : rdS c (mPar is ms) Dn σ H) : rdM c ms σ H fun vs H1 => vs.length = is.length ∧ Dn.nx (setV is vs σ) H1 := by
  obtain ⟨F, u, ρ, S, h⟩ := h
  refine ⟨F, u, ρ, S, (flowO.after S h).imp fun sds u1 F1 H1 _ s1 g1 h1 vs R => ?_⟩
  have h2 := h1.2
  split at h2
  · rename_i hl
    exact ⟨R.len.trans hl, h2 _ F1 H1 (Same.refl _) (Sta.setAll S h1.1 R (hl.symm.trans R.len.symm) (Mats.fresh S R))⟩
  · exact False.elim h2
theorem dPar {i j : Nat} {x y : Str} {px py pt : Pos} {kt k2 pt2} (hc : X.calm = true) (hN : X.N.Nodup) (hi : X.N[i]? = some x) (hj : X.N[j]? = some y) (hij : i ≠ j)
    (hx : X.env.scope.names.lookup x = some .local) (hy : X.env.scope.names.lookup y = some .local) (ha : DM X c [a, b] ms)
    (hw : swappedStores [.Tuple [.Name x px, .Name y py] kt pt] (.Tuple [a, b] k2 pt2) X.env = pure (some [x, y]) := by rfl)
    (hs : swapsWithSole [.Tuple [.Name x px, .Name y py] kt pt] (.Tuple [a, b] k2 pt2) pos.line X.env = pure false := by rfl) :
    DS X c (.Assign [.Tuple [.Name x px, .Name y py] kt pt] (.Tuple [a, b] k2 pt2) pos) (mPar [i, j] ms) :=
  (ps_par hc hN hi hj hij hx hy ha hw hs).imp fun Dn σ H h => by
    obtain ⟨F, u, ρ, S, h⟩ := rdPar h
    exact ⟨F, u, ρ, S, h.imp fun sds u1 F1 H1 _ s1 g1 h1 vs R => by
      obtain ⟨hl, hq⟩ := h1 vs R
      match vs, hl, hq with
      | [v, w], _, hq => exact ⟨v, w, rfl, hq⟩⟩
theorem dPar3 {i j l : Nat} {x y z : Str} {px py pz pt : Pos} {kt k2 pt2} (hc : X.calm = true) (hN : X.N.Nodup) (hi : X.N[i]? = some x) (hj : X.N[j]? = some y) (hl : X.N[l]? = some z) (hij : i ≠ j) (hil : i ≠ l) (hjl : j ≠ l)
    (hx : X.env.scope.names.lookup x = some .local) (hy : X.env.scope.names.lookup y = some .local) (hz : X.env.scope.names.lookup z = some .local) (ha : DM X c [a, b, d] ms)
    (hw : swappedStores [.Tuple [.Name x px, .Name y py, .Name z pz] kt pt] (.Tuple [a, b, d] k2 pt2) X.env = pure (some [x, y, z]) := by rfl)
    (hs : swapsWithSole [.Tuple [.Name x px, .Name y py, .Name z pz] kt pt] (.Tuple [a, b, d] k2 pt2) pos.line X.env = pure false := by rfl) :
    DS X c (.Assign [.Tuple [.Name x px, .Name y py, .Name z pz] kt pt] (.Tuple [a, b, d] k2 pt2) pos) (mPar [i, j, l] ms) :=
  (ps_par3 hc hN hi hj hl hij hil hjl hx hy hz ha hw hs).imp fun Dn σ H h => by
    obtain ⟨F, u, ρ, S, h⟩ := rdPar h
    exact ⟨F, u, ρ, S, h.imp fun sds u1 F1 H1 _ s1 g1 h1 vs R => by
      obtain ⟨hl, hq⟩ := h1 vs R
      match vs, hl, hq with
      | [v, w, y], _, hq => exact ⟨v, w, y, rfl, hq⟩⟩
end

/-! ### calls with keywords -/
abbrev DK (X : Cx) (c : Cf) (kws : List Keyword) (m : MA) : Prop := PK X kws (rdA c m)
theorem vals_get {vs : List V} {us : List Value} (r : Vals vs us) (i : Nat) : (∃ v u, vs[i]? = some v ∧ us[i]? = some u ∧ RelV v u) ∨ (vs[i]? = none ∧ us[i]? = none) := by
  induction r generalizing i with
  | nil => right; simp
  | cons h r ih =>
    cases i with
    | zero => left; exact ⟨_, _, rfl, rfl, h⟩
    | succ i => simpa using ih i
section
variable {X : Cx} {c : Cf} {k n np : Nat} {f : Addr} {fd : FuncData} {ps ks : List Str} {x : Str} {p pos apos : Pos} {e o : Expr} {es : List Expr} {kws : List Keyword} {ms mk : MA} {mf : List D → M D} {perm : List Nat} {mc : Value} {q g : Addr} {m : Str} {pl : Sem Bool} {nm : Option Str} {kpos : Pos} {me : ME}
theorem dKnil : DK X c [] mNil := ⟨fun pos pins s σ H Q I ⟨F, u, ρ, S, h⟩ => pk_nil.run pos pins s σ H Q I (After.now S.gd h [] Reps.nil)⟩
theorem dKcons {nm} (ha : DE X c e me) (hr : DK X c kws mk) : DK X c (⟨nm, e, kpos⟩ :: kws) (mCons me mk) :=
  ⟨fun pos pins s σ H Q I ⟨F, u, ρ, S, h⟩ => (pk_cons (nm := nm) (kpos := kpos) ha hr).run pos pins s σ H Q I ⟨F, u, ρ, S, (After.split h).imp fun d u1 F1 H1 _ s1 g1 h1 v rv => ⟨F1, u1, ρ, S.step s1 g1, (After.split h1).imp fun ds u2 F2 H2 _ s2 g2 h2 vs rvs => After.now (p := c.p) (F := F2) (H := H2) (u := u2) g2 h2 (v :: vs) (Reps.cons (rv.mono s2.ef) rvs)⟩⟩⟩
end

/-! ### fresh lists out of slices and list(..) -/
section
variable {X : Cx} {c : Cf} {e : Expr} {lo hi : Option Expr} {m : ME} {ml mh : MO} {pos p2 : Pos}
def mCBO (f : List D → Option (List D)) (ms : MA) : MA := fun ρ => M.bind (ms ρ) fun xs => lft (f xs)
end
end Mi


set_option Elab.async false
set_option linter.all false
set_option maxRecDepth 100000
set_option maxHeartbeats 4000000
/-! MiB: the head's facts by names: a Hook of this framework's own. -/
namespace Mi
open PySem PySem.Spec PyProof.Rows L2 He

/-! ### the written part: what the module's names reach -/
def refsM (o : Obj) : List Addr := match o.cls with
  | .type "code" => []
  | _ => refsD o
def frontM (g : Addr → Option Obj) (as : List Addr) : List Addr := as.flatMap fun a => match g a with
  | some o => refsM o
  | none => []
def bfsM (g : Addr → Option Obj) : Nat → List Addr → List Addr
  | 0, as => as
  | n + 1, as => as ++ bfsM g n (frontM g as).eraseDups
def asM (g : Addr → Option Obj) (n : Nat) : List Addr := (bfsM g n [mainGlobals, cStatics]).eraseDups
def recFn (K : PySem.W.Frag) (p : Addr) (T : String) : Addr := match PySem.W.recIn K p T with
  | some (.ref g :: _) => g
  | _ => 0
def WW (cs : List Str) (K : PySem.W.Frag) : Wo := ⟨K, ga K, cs⟩
/-! ### places of defs -/
inductive Pl where
  | glob (x : Str) | meth (c m : Str) | prop (c m : Str) | stat (c m : Str) | clsm (c m : Str)
def Pl.ad (K : PySem.W.Frag) : Pl → Addr
  | .glob x => ga K x
  | .meth c m => ma K (ga K c) m
  | .prop c m => recFn K (ma K (ga K c) m) "property"
  | .stat c m => recFn K (ma K (ga K c) m) "staticmethod"
  | .clsm c m => recFn K (ma K (ga K c) m) "classmethod"
def fd0 : FuncData := PySem.W.fnOf "" "" ⟨[], [], none, [], [], none, []⟩ [] ⟨.function, [], false, false, []⟩ .none .none .none .none none .none .none
def fdOf (K : PySem.W.Frag) (a : Addr) : FuncData := match K.lookup a with
  | some ⟨_, _, .func fd, _⟩ => fd
  | _ => fd0
/-- one def: its place, name, qualified name, parameters, body, scope -/
structure DefP where
  at_ : Pl
  name : Str
  qual : Str
  params : Arguments
  body : List Stmt
  scope : Scope
def fnP (K : PySem.W.Frag) (a : Addr) : FnW := match K.lookup a with
  | some ⟨_, _, .func fd, _⟩ => some (fd.name, fd.qualname, fd.params, fd.body, fd.scope, fd.globals, fd.closure, fd.builtins)
  | _ => none
def DefP.val (d : DefP) : FnW := some (d.name, d.qual, d.params, .stmts d.body, d.scope, mainGlobals, [], builtinsNs)
def DefP.ok (K : PySem.W.Frag) (d : DefP) : Bool := PySem.W.keepIn K (.ref (d.at_.ad K)) && (match K.lookup (d.at_.ad K) with
  | some ⟨_, _, .func fd, _⟩ => PySem.W.codeIn K fd.code d.qual && dflB K fd.defaults []
  | _ => false)
abbrev FunP (K : PySem.W.Frag) (d : DefP) : Prop := FunD K d.name d.qual d.params d.body d.scope [] [] (d.at_.ad K) (fdOf K (d.at_.ad K))
theorem DefP.funD {K : PySem.W.Frag} {d : DefP} (e : fnP K (d.at_.ad K) = d.val) (c : d.ok K = true) : FunP K d := by
  obtain ⟨kp, c2⟩ := ba c
  unfold fnP at e
  unfold FunP fdOf
  cases q : K.lookup (d.at_.ad K) with
  | none =>
    rw [q] at c2
    cases c2
  | some o =>
    obtain ⟨oc, od, dt, osl⟩ := o
    rw [q] at c2 e
    cases dt with
    | func fd =>
      obtain ⟨n1, n2, n3, n4, n5, n6, n7, n8, n9, n10, n11, n12, n13, n14, n15⟩ := fd
      have e2 : (some (n1, n2, n3, n4, n5, n6, n7, n15) : FnW) = some (d.name, d.qual, d.params, .stmts d.body, d.scope, mainGlobals, [], builtinsNs) := e
      simp only [Option.some.injEq, Prod.mk.injEq] at e2
      obtain ⟨h1, h2, h3, h4, h5, h6, h7, h8⟩ := e2
      subst h1 h2 h3 h4 h5 h6 h7 h8
      have c3 : (PySem.W.codeIn K n13 d.qual && dflB K n8 []) = true := c2
      obtain ⟨k1, k2⟩ := ba c3
      exact ⟨⟨oc, od, n8, n9, n10, n11, n12, n13, n14, osl, rfl, q, k1, dflB_ok k2, .inl rfl⟩, kp⟩
    | _ => cases c2
/-! ### facts -/
inductive Ft where
  | b (f : Fa) | prop (c f : Str) | stat (c m : Str) | clsm (c m : Str) | eqc (c : Str) | isi (cs : List Str) | len (c : Str) | raw (f : PySem.W.Frag → Bool)
def insB (K : PySem.W.Frag) (C : Addr) : Bool := (PySem.W.plainGet K C Str.empty && (PySem.W.hasDictIn K C && (PySem.W.plainOver K C && eqO (PySem.W.findIn K (.ref C) "__setattr__") (some (some (.builtin "object.__setattr__"))))))
  && (eqO (PySem.W.findIn K (.ref C) "__class__") (some (some (.builtin "object.__class__"))) && (eqO (PySem.W.specialIn K (.builtin "object.__class__") "__get__") (some (some (.builtin "getset_descriptor.__get__")))
  && (decide (PySem.W.takesIn K (.builtin "object.__class__") = some true) && decide (PySem.W.mroIn K C (.type "object") = some true))))
def Ft.ok (K : PySem.W.Frag) : Ft → Bool
  | .b f => f.ok K
  | .prop c f => eqO (PySem.W.findIn K (.ref (ga K c)) f) (some (some (.ref (ma K (ga K c) f)))) && (eqO (PySem.W.specialIn K (.ref (ma K (ga K c) f)) "__get__") (some (some (.builtin "property.__get__"))) && (decide (PySem.W.takesIn K (.ref (ma K (ga K c) f)) = some true) &&
    (match PySem.W.recIn K (ma K (ga K c) f) "property" with
      | some (.ref _ :: _) => true
      | _ => false)))
  | .stat c m => PySem.W.readsIn K (ga K c) (.type "type") && (eqO (PySem.W.specialIn K (.ref (ga K c)) "__getattribute__") (some (some (.builtin "type.__getattribute__"))) && ((match PySem.W.findCls K (.ref (ga K c)) (.type "type") m with
      | some (.get (.builtin "staticmethod.__get__") (.ref q) .none (.ref C)) => decide (q = ma K (ga K c) m) && decide (C = ga K c)
      | _ => false) && ((match PySem.W.recIn K (ma K (ga K c) m) "staticmethod" with
      | some (.ref _ :: _) => true
      | _ => false) && PySem.W.keepIn K (.ref (recFn K (ma K (ga K c) m) "staticmethod")))))
  | .clsm c m => PySem.W.readsIn K (ga K c) (.type "type") && (eqO (PySem.W.specialIn K (.ref (ga K c)) "__getattribute__") (some (some (.builtin "type.__getattribute__"))) && ((match PySem.W.findCls K (.ref (ga K c)) (.type "type") m with
      | some (.get (.builtin "classmethod.__get__") (.ref q) .none (.ref C)) => decide (q = ma K (ga K c) m) && decide (C = ga K c)
      | _ => false) && ((match PySem.W.recIn K (ma K (ga K c) m) "classmethod" with
      | some (.ref _ :: _) => true
      | _ => false) && PySem.W.fnIn K (recFn K (ma K (ga K c) m) "classmethod"))))
  | .eqc c => eqO (PySem.W.findIn K (.ref (ga K c)) "__eq__") (some (some (.ref (ma K (ga K c) "__eq__")))) && (PySem.W.isFn K (.ref (ma K (ga K c) "__eq__")) && (eqO (PySem.W.findIn K (.ref (ga K c)) "__ne__") (some (some (.builtin "object.__ne__"))) && decide (PySem.W.mroIn K (ga K c) (.type "object") = some true)))
  | .isi cs => (cs.all fun c => insB K (ga K c)) && ((cs.all fun c => cs.all fun k => decide (PySem.W.kitOne K (.ref (ga K c)) (.ref (ga K k)) = some (subC c k))) &&
    ((["NoneType", "bool", "int", "str", "tuple", "list"].all fun a => cs.all fun k => decide (PySem.W.kitOne K (.type a) (.ref (ga K k)) = some false)) &&
    (cs.all fun c => ["int", "bool", "str", "tuple", "list"].all fun n => decide (PySem.W.kitOne K (.ref (ga K c)) (.type n) = some false))))
  | .len c => eqO (PySem.W.findIn K (.ref (ga K c)) "__len__") (some (some (.ref (ma K (ga K c) "__len__")))) && PySem.W.isFn K (.ref (ma K (ga K c) "__len__"))
  | .raw f => f K
section
variable {K : PySem.W.Frag}
theorem prop_ok {c f : Str} (h : (Ft.prop c f).ok K = true) : PropOf K (ga K c) f (ma K (ga K c) f) ((Pl.prop c f).ad K) := by
  obtain ⟨h1, h⟩ := ba h
  obtain ⟨h2, h⟩ := ba h
  obtain ⟨h3, h4⟩ := ba h
  refine ⟨eqO_ok h1, eqO_ok h2, of_decide_eq_true h3, ?_⟩
  unfold Pl.ad recFn
  split at h4
  · rename_i g rest e
    simp only [e]
    exact ⟨rest, rfl⟩
  · cases h4
theorem clsm_ok {c m : Str} (h : (Ft.clsm c m).ok K = true) : ClX.CRead K (ga K c) (.type "type") ∧ ClX.CMet K (ga K c) (.type "type") m (ma K (ga K c) m) ((Pl.clsm c m).ad K) := by
  obtain ⟨h1, h⟩ := ba h
  obtain ⟨h2, h⟩ := ba h
  obtain ⟨h3, h⟩ := ba h
  obtain ⟨h4, h5⟩ := ba h
  refine ⟨⟨h1, eqO_ok h2⟩, ?_, ?_, h5⟩
  · split at h3
    · rename_i q C e
      obtain ⟨e1, e2⟩ := ba h3
      rw [e, of_decide_eq_true e1, of_decide_eq_true e2]
    · cases h3
  · unfold Pl.ad recFn
    split at h4
    · rename_i g rest e
      simp only [e]
      exact ⟨rest, rfl⟩
    · cases h4
theorem isi_ok {cs : List Str} (h : (Ft.isi cs).ok K = true) : IsiOk (WW cs K) := by
  obtain ⟨h1, h⟩ := ba h
  obtain ⟨h2, h⟩ := ba h
  obtain ⟨h3, h4⟩ := ba h
  refine ⟨fun c hc H a dx fs e => ?_, fun c hc k hk => ?_, fun a ha k hk => ?_, fun c hc n hn => ?_⟩
  · obtain ⟨k1, k⟩ := ba (List.all_eq_true.mp h1 c hc)
    obtain ⟨k2, k⟩ := ba k
    obtain ⟨k3, k⟩ := ba k
    obtain ⟨k4, k5⟩ := ba k
    obtain ⟨c1, c⟩ := ba k1
    obtain ⟨c2, c⟩ := ba c
    obtain ⟨c3, c4⟩ := ba c
    exact .ins e ⟨c1, c2, c3, eqO_ok c4⟩ (eqO_ok k2) (eqO_ok k3) (of_decide_eq_true k4) (of_decide_eq_true k5)
  · exact of_decide_eq_true (List.all_eq_true.mp (List.all_eq_true.mp h2 c hc) k hk)
  · exact of_decide_eq_true (List.all_eq_true.mp (List.all_eq_true.mp h3 a ha) k hk)
  · exact of_decide_eq_true (List.all_eq_true.mp (List.all_eq_true.mp h4 c hc) n hn)
end
/-! ### the Hook -/
abbrev AlP : Type := Bool × List FnW
def obsP (fa : List Ft) (fn : List DefP) (K : PySem.W.Frag) : AlP := ((fa.all fun f => f.ok K) && fn.all fun d => d.ok K, fn.map fun d => fnP K (d.at_.ad K))
def valP (fn : List DefP) : AlP := (true, fn.map DefP.val)
def SaysP (fa : List Ft) (fn : List DefP) (K : PySem.W.Frag) : Prop := obsP fa fn K = valP fn
def obsPG (n : Nat) (fa : List Ft) (fn : List DefP) (g : Addr → Option Obj) : AlP := obsP fa fn (frG g (asM g n))
def hookP (n : Nat) (fa : List Ft) (fn : List DefP) : PySem.W.Hook where
  α := AlP
  obs := fun s => obsPG n fa fn s.heap.get?
  val := fun _ => valP fn
  says := fun _ h => ∃ K : PySem.W.Frag, K.In h ∧ SaysP fa fn K
  of := fun _ _ e => ⟨_, frG_in, e⟩
  keeps := fun _ _ _ ⟨K, hK, c⟩ k => ⟨K, PySem.W.Frag.In.keeps hK k, c⟩
theorem obsPG_eq {n : Nat} {fa : List Ft} {fn : List DefP} {g : Addr → Option Obj} {s : Shared} (h : ∀ a, g a = s.heap.get? a) : obsPG n fa fn g = (hookP n fa fn).obs s := by
  have e : g = s.heap.get? := funext h
  rw [e] <;> rfl
/-- all that the walk leans on -/
structure HF (fa : List Ft) (fn : List DefP) (K : PySem.W.Frag) (mg : Str → Option Value) : Prop where
  says : SaysP fa fn K
  ns : ∃ h : Heap, K.In h ∧ h.Ns mainGlobals mg
section
variable {fa : List Ft} {fn : List DefP} {K : PySem.W.Frag} {mg : Str → Option Value}
theorem HF.fact (c : HF fa fn K mg) (i : Nat) {f : Ft} (h : fa[i]? = some f) : f.ok K = true := by
  have c1 := (ba (show ((fa.all fun f => f.ok K) && fn.all fun d => d.ok K) = true from congrArg (fun z : AlP => z.1) c.says)).1
  exact List.all_eq_true.mp c1 f (List.mem_of_getElem? h)
theorem HF.fun_ (c : HF fa fn K mg) (i : Nat) {d : DefP} (h : fn[i]? = some d) : FunP K d := by
  have c2 := (ba (show ((fa.all fun f => f.ok K) && fn.all fun d => d.ok K) = true from congrArg (fun z : AlP => z.1) c.says)).2
  have e : fn.map (fun d => fnP K (d.at_.ad K)) = fn.map DefP.val := congrArg (fun z : AlP => z.2) c.says
  have e2 : (fn.map fun d => fnP K (d.at_.ad K))[i]? = (fn.map DefP.val)[i]? := by rw [e]
  rw [List.getElem?_map, List.getElem?_map, h] at e2
  exact DefP.funD (Option.some.inj e2) (List.all_eq_true.mp c2 d (List.mem_of_getElem? h))
theorem HF.glo (c : HF fa fn K mg) (i : Nat) {x : Str} (h : fa[i]? = some (.b (.glo x))) : mg x = some (.ref (ga K x)) := by
  obtain ⟨_, X, G⟩ := c.ns
  exact glo_ok X G (c.fact i h)
theorem HF.free (c : HF fa fn K mg) (i : Nat) {x : Str} (h : fa[i]? = some (.b (.free x))) : mg x = none := by
  obtain ⟨_, X, G⟩ := c.ns
  exact free_ok X G (c.fact i h)
theorem HF.int (c : HF fa fn K mg) (i : Nat) {x : Str} {n : Int} (h : fa[i]? = some (.b (.int x n))) : ∃ t, mg x = some (.int n t) := by
  obtain ⟨_, X, G⟩ := c.ns
  exact int_ok X G (c.fact i h)
theorem HF.str (c : HF fa fn K mg) (i : Nat) {x z : Str} (h : fa[i]? = some (.b (.str x z))) : ∃ t, mg x = some (.str z t) := by
  obtain ⟨_, X, G⟩ := c.ns
  exact str_ok X G (c.fact i h)
theorem HF.cls (c : HF fa fn K mg) (i : Nat) {x : Str} (h : fa[i]? = some (.b (.cls x))) : Cls K (ga K x) := cls_ok (c.fact i h)
theorem HF.noat (c : HF fa fn K mg) (i : Nat) {x f : Str} (h : fa[i]? = some (.b (.noat x f))) : NoAttr K (ga K x) f := noat_ok (c.fact i h)
theorem HF.meth (c : HF fa fn K mg) (i : Nat) {x m : Str} (h : fa[i]? = some (.b (.meth x m))) : Meth K (ga K x) m ((Pl.meth x m).ad K) := meth_ok (c.fact i h)
theorem HF.mkr (c : HF fa fn K mg) (i : Nat) {x : Str} (h : fa[i]? = some (.b (.mkr x))) : Mk K (ga K x) ((Pl.meth x "__init__").ad K) := mkr_ok (c.fact i h)
end
/-- a def's promise at its place -/
abbrev FO (cs : List Str) (P : Program) (w : World) (K : PySem.W.Frag) (mg : Str → Option Value) (base : Heap) (k : Nat) (pl : Pl) (ps : List Str) (n : Nat) (mf : List D → M D) : Prop := FnOk P w K mg base CX0 k (pl.ad K) (fdOf K (pl.ad K)) ps (spM (WW cs K) n mf)
end Mi


set_option Elab.async false
set_option linter.all false
set_option maxRecDepth 100000
set_option maxHeartbeats 4000000
/-! MiC: walks over lists or tuples; owned lists borrowed by an expression; names of built-ins. -/
namespace Mi
open PySem PySem.Spec PyProof.Rows L2

/-! ### built-ins by name -/
theorem bb_len : bootBuiltins "len" = some (.builtin "len") := by decide +kernel
theorem bb_sum : bootBuiltins "sum" = some (.builtin "sum") := by decide +kernel
theorem bb_max : bootBuiltins "max" = some (.builtin "max") := by decide +kernel
theorem bb_min : bootBuiltins "min" = some (.builtin "min") := by decide +kernel
theorem bb_all : bootBuiltins "all" = some (.builtin "all") := by decide +kernel
theorem bb_abs : bootBuiltins "abs" = some (.builtin "abs") := by decide +kernel
theorem bb_divmod : bootBuiltins "divmod" = some (.builtin "divmod") := by decide +kernel
theorem bb_isinstance : bootBuiltins "isinstance" = some (.builtin "isinstance") := by decide +kernel
theorem bb_int : bootBuiltins "int" = some (.type "int") := by decide +kernel
theorem bb_bool : bootBuiltins "bool" = some (.type "bool") := by decide +kernel
theorem bb_str : bootBuiltins "str" = some (.type "str") := by decide +kernel
theorem bb_tuple : bootBuiltins "tuple" = some (.type "tuple") := by decide +kernel

/-! ### walks over lists or tuples -/
theorem _root_.L2.PI.or {X : Cx} {tg e : Expr} {t t' : TI} (h : PI X tg e t) (h' : PI X tg e t') : PI X tg e (fun σ H R => t σ H R ∨ t' σ H R) := ⟨fun pins s σ H R I q => q.elim (h.run pins s σ H R I) (h'.run pins s σ H R I)⟩
/-- what is walked over -/
def itD : D → Option (List D)
  | .lst ds => some ds
  | .tup ds => some ds
  | .str z => some (z.cps.toList.map fun c => .str ⟨#[c]⟩)
  | _ => none
def mIany (m : ME) : MA := fun ρ => M.bind (m ρ) fun d => lft (itD d)
theorem walkD_str {W : Wo} {p : Addr} {F : Hp} {z : Str} : WalkD W p (Its z) F (z.cps.toList.map fun c => .str ⟨#[c]⟩) := by
  refine ⟨_, _, by simpa using walk_str (z := z), fun _ _ => trivial, fun i H x H' F2 u d hd e g hy => ?_⟩
  obtain ⟨rfl, c, hc, rfl⟩ := hy
  refine ⟨F2, Stp.refl, g, ?_⟩
  rw [List.getElem?_map] at hd
  have hc' : z.cps.toList[i]? = some c := by simpa using hc
  rw [hc'] at hd
  cases hd
  exact .str _
def enumA : List D → Option (List D) := fun ds => match ds with
  | [.lst xs] => some (enumD xs)
  | [.tup xs] => some (enumD xs)
  | _ => none
section
variable {X : Cx} {c : Cf} {tg e a b : Expr} {m : ME} {ms : MA} {pos q : Pos}
theorem dIany (h : DE X c e m) (hK : X.K = c.W.K := by rfl) : DI X c tg e (mIany m) :=
  ((dIlist h hK).or ((dItup h hK).or (pi_str h))).imp fun σ H R ⟨F, u, ρ, S, h⟩ => by
    unfold mIany M.bind at h
    cases e1 : m ρ u with
    | none => rw [e1] at h; exact False.elim h
    | some y =>
      obtain ⟨d, u1⟩ := y
      rw [e1] at h
      cases d with
      | lst ds => exact .inl ⟨F, u, ρ, S, by unfold mIseq M.bind; rw [e1]; exact h⟩
      | tup ds => exact .inr (.inl ⟨F, u, ρ, S, by unfold mItup M.bind; rw [e1]; exact h⟩)
      | str z =>
        refine .inr (.inr ⟨F, u, ρ, S, ?_⟩)
        rw [e1]
        exact fun F' H' s' g' v rv => ⟨z, rv.str_, h F' H' s' g' _ walkD_str⟩
      | _ => exact False.elim h
theorem dIenumA {elts : List Expr} {kk : Nat} {tpos : Pos} (hg : Gl X "enumerate") (hm : X.mg "enumerate" = none) (ha : DA X c [a] ms) (hs : starEach [a] X.env = [(false, eval a X.env)] := by rfl) (hK : X.K = c.W.K := by rfl) :
    DI X c (.Tuple elts kk tpos) (.Call (.Name "enumerate" q) [a] [] pos) (mIof enumA ms) :=
  ((dIenum hg hm ha hs hK).or (dIenumT hg hm ha hs hK)).imp fun σ H R ⟨F, u, ρ, S, h⟩ => by
    unfold mIof M.bind at h
    cases e1 : ms ρ u with
    | none => rw [e1] at h; exact False.elim h
    | some y =>
      obtain ⟨ds, u1⟩ := y
      rw [e1] at h
      have key : ∀ f, enumA ds = f ds → rdI c (mIof f ms) σ H R := fun f hf => ⟨F, u, ρ, S, by
        unfold mIof M.bind
        rw [e1]
        show After c.p F H (lft (f ds) u1) _
        rw [← hf]
        exact h⟩
      match ds, h, key with
      | [.lst xs], h, key => exact .inl (key _ rfl)
      | [.tup xs], h, key => exact .inr (key _ rfl)
      | [], h, _ => exact False.elim h
      | [.non], h, _ => exact False.elim h
      | [.bl _], h, _ => exact False.elim h
      | [.int _], h, _ => exact False.elim h
      | [.str _], h, _ => exact False.elim h
      | [.obj _ _ _], h, _ => exact False.elim h
      | [.pur], h, _ => exact False.elim h
      | [.ty _], h, _ => exact False.elim h
      | [.cls _], h, _ => exact False.elim h
      | [.scr _], h, _ => exact False.elim h
      | x :: y :: r, h, _ => exact (by cases x <;> exact False.elim h)
end

/-! ### borrowing -/
mutual
def noLst : D → Bool
  | .lst _ => false
  | .scr _ => false
  | .tup ds => noLsts ds
  | .obj _ _ ds => noLsts ds
  | _ => true
def noLsts : List D → Bool
  | [] => true
  | d :: ds => noLst d && noLsts ds
end
theorem noLsts_at : ∀ {ds : List D} {i : Nat} {d : D}, noLsts ds = true → ds[i]? = some d → noLst d = true
  | [], i, d, _, e => by simp at e
  | a :: ds, 0, d, h, e => by
    simp at e
    subst e
    unfold noLsts at h
    exact (Bool.and_eq_true_iff.mp h).1
  | a :: ds, i + 1, d, h, e => by
    unfold noLsts at h
    exact noLsts_at (Bool.and_eq_true_iff.mp h).2 (by simpa using e)
theorem Rep.without {W : Wo} {p q : Addr} {F F' : Hp} {ws : List V} (hq : F q = some (.lst ws)) (sub : ∀ a o, a ≠ q → F a = some o → F' a = some o) {v : V} {d : D} (h : Rep W p F v d) : noLst d = true → Rep W p F' v d := by
  induction h with
  | non => exact fun _ => .non
  | bl b => exact fun _ => .bl b
  | int i => exact fun _ => .int i
  | str x => exact fun _ => .str x
  | ty n => exact fun _ => .ty n
  | cls c hc => exact fun _ => .cls c hc
  | pur => exact fun _ => .pur
  | scr h => intro n; unfold noLst at n; cases n
  | tup h l r ih =>
    intro n
    unfold noLst at n
    refine .tup ?_ l fun i v d e1 e2 => ih i v d e1 e2 (noLsts_at n e2)
    rcases h with (h | ⟨o, h⟩) | h
    · exact .inl (.inl (sub _ _ (fun z => by rw [z, hq] at h; cases h) h))
    · exact .inl (.inr ⟨o, sub _ _ (fun z => by rw [z, hq] at h; cases h) h⟩)
    · exact .inr h
  | lst h l r ih => intro n; unfold noLst at n; cases n
  | obj hc h lk l r ih =>
    intro n
    unfold noLst at n
    exact .obj hc (sub _ _ (fun z => by rw [z, hq] at h; cases h) h) lk l fun i v d e1 e2 => ih i v d e1 e2 (noLsts_at n e2)
def del (F : Hp) (q : Addr) : Hp := fun a => if a = q then none else F a
theorem del_ne {F : Hp} {q a : Addr} (h : a ≠ q) : del F q a = F a := if_neg h
theorem del_of {F : Hp} {q a : Addr} {o : HO} (h : del F q a = some o) : a ≠ q ∧ F a = some o := by
  unfold del at h
  split at h
  · cases h
  · exact ⟨by assumption, h⟩
/-- an owned list lent out: frozen within, taken back behind -/
theorem Sta.lend {c : Cf} {u : PuS} {F H : Hp} {σ : L2.St} {ρ : Env} (S : Sta c u F H σ ρ) (i : Nat) : Mi.frz i ρ = ρ ∨ ∃ q ws F1, Sta c u F1 H σ (Mi.frz i ρ) ∧ F1 q = some (.lst ws) ∧
    ∀ u' F' H', Stp c.p F1 H F' H' → Gd c.p u' F' H' → Stp c.p F H (del F' q) H' ∧ Gd c.p u' (del F' q) H' ∧ F' q = some (.lst ws) := by
  unfold Mi.frz
  cases ho : vOw ρ i with
  | none => exact .inl rfl
  | some ds =>
    right
    obtain ⟨q, vs, e1, hq, hf, hp, h0, r⟩ := S.ow ho
    have hsm : Same F (upd F q (.lst vs)) := fun a o e => by rw [upd_ne (fun z => by rw [z, hf] at e; cases e)]; exact e
    have qs : ∀ {j : Nat} {t : Sd} {a : Addr}, i ≠ j → ρ[j]? = some t → t.own = true → σ[j]? = some (some (.ref a)) → a ≠ q := fun {j t a} ne e2 o z h => by
      subst h
      exact S.env.ne i j _ t ne (vOw_at ho) e2 rfl o (e1.trans z.symm)
    refine ⟨q, vs, upd F q (.lst vs), ⟨⟨S.ent.ef.trans hsm, S.ent.eh, fun a o e => ?_⟩, ⟨fun a o e => ?_, S.gd.pu, fun l e => by rw [upd_ne (Ne.symm hp)]; exact S.gd.off l e⟩, by simpa using S.env.len, fun j t e => ?_, fun j k t t' h ea eb o1 o2 => ?_⟩, upd_same, fun u' F' H' s g => ⟨⟨fun a o e => ?_, s.eh, fun a o e => ?_⟩, ⟨fun a o e => ?_, g.pu, fun l e => ?_⟩, s.ef q _ upd_same⟩⟩
    · by_cases ha : a = q
      · subst ha; exact .inr h0
      · rw [upd_ne ha] at e; exact S.ent.nw a o e
    · by_cases ha : a = q
      · subst ha; rw [upd_same] at e; cases e; exact hq
      · rw [upd_ne ha] at e; exact S.gd.ex a o e
    · rcases set_get e with ⟨rfl, rfl, _⟩ | ⟨ne, e⟩
      · exact ⟨.ref q, e1, Rep.mkL upd_same (r.mono hsm)⟩
      · have k := S.env.at_ j t e
        cases t with
        | un => trivial
        | sh d => obtain ⟨v, z, r'⟩ := k; exact ⟨v, z, r'.mono hsm⟩
        | ow es => obtain ⟨a, xs, z, ha, hfa, w1, w2, r'⟩ := k; exact ⟨a, xs, z, ha, by rw [upd_ne (qs ne e rfl z)]; exact hfa, w1, w2, r'.mono hsm⟩
        | oi kk ks es => obtain ⟨dx, xs, z, ha, hfa, w1, w2, w3, r'⟩ := k; exact ⟨dx, xs, z, ha, by rw [upd_ne (qs ne e rfl z)]; exact hfa, w1, w2, w3, r'.mono hsm⟩
    · rcases set_get ea with ⟨rfl, rfl, _⟩ | ⟨n1, ea⟩
      · cases o1
      · rcases set_get eb with ⟨rfl, rfl, _⟩ | ⟨n2, eb⟩
        · cases o2
        · exact S.env.ne j k t t' h ea eb o1 o2
    · have ha : a ≠ q := fun z => by rw [z, hf] at e; cases e
      rw [del_ne ha]
      exact s.ef a o (by rw [upd_ne ha]; exact e)
    · obtain ⟨ha, e⟩ := del_of e
      rcases s.nw a o e with h | h
      · rw [upd_ne ha] at h; exact .inl h
      · exact .inr h
    · obtain ⟨ha, e⟩ := del_of e
      exact g.ex a o e
    · rw [del_ne (Ne.symm hp)]
      exact g.off l e
def mBorT (i : Nat) (m : MT) : MT := fun ρ => m (frz i ρ)
def mBorL (i : Nat) (m : MA) : MA := fun ρ => M.bind (m (frz i ρ)) fun d => lft (if noLsts d = true then some d else none)
section
variable {X : Cx} {c : Cf} {e : Expr} {m : ME} {mt : MT} {ml : MA} {i : Nat}
theorem dBorT (i : Nat) (h : DT X c e mt) : DT X c e (mBorT i mt) := h.imp fun σ H Q ⟨F, u, ρ, S, h⟩ => by
  unfold mBorT at h
  rcases S.lend i with z | ⟨q, ws, F1, S1, hq, back⟩
  · rw [z] at h
    exact ⟨F, u, ρ, S, h⟩
  · refine ⟨F1, u, frz i ρ, S1, ?_⟩
    cases e1 : mt (frz i ρ) u with
    | none => rw [e1] at h; exact False.elim h
    | some y =>
      obtain ⟨d, u1⟩ := y
      rw [e1] at h
      intro F' H' s' g'
      obtain ⟨s2, g2, hq2⟩ := back _ _ _ s' g'
      exact h _ _ s2 g2
end
end Mi



set_option Elab.async false
set_option linter.all false
set_option maxRecDepth 100000
set_option maxHeartbeats 4000000
/-! MiE: the purse read and written; defs that return fresh lists; a call with a purse of its own. -/
namespace Mi
open PySem PySem.Spec PyProof.Rows L2

/-! ### the purse -/
def getP (d k : D) : M D := fun u => match d, k, u with
  | .pur, .int j, .real l => (atI l j).map fun n => (.int n, u)
  | _, _, _ => none
def putP (d k v : D) : M Unit := fun u => match d, k, v, u with
  | .pur, .int j, .int a, .real l => (ixN l.length j).map fun n => ((), .real (l.set n a))
  | _, _, _, _ => none
def mIxP (i : Nat) (mi : ME) : ME := fun ρ => M.bind (mi ρ) fun k => M.bind (lft (vSh ρ i)) fun d => getP d k
def mPutP (i : Nat) (m mi : ME) : MS := fun ρ => M.bind (m ρ) fun v => M.bind (mi ρ) fun k => M.bind (lft (vSh ρ i)) fun d => M.bind (putP d k v) fun _ => M.pure (.nx ρ)
def mDmP (i : Nat) (mi : ME) (j : Nat) (m : ME) : MS := fun ρ => M.bind (m ρ) fun v => match v with
  | .tup [.int a, .int b] => M.bind (mi ρ) fun k => M.bind (lft (vSh ρ i)) fun d => M.bind (putP d k (.int a)) fun _ => M.pure (.nx (ρ.set j (.sh (.int b))))
  | _ => lft none
theorem Sta.purse {c : Cf} {l l' : List Int} {F H : Hp} {σ : L2.St} {ρ : Env} (S : Sta c (.real l) F H σ ρ) : Sta c (.real l') F (upd H c.p (.lst (l'.map V.int))) σ ρ := by
  have hp := S.gd.off l rfl
  refine ⟨⟨S.ent.ef, fun a o h e => by rw [upd_ne h]; exact S.ent.eh a o h e, S.ent.nw⟩, ⟨fun a o e => ?_, upd_same, fun _ _ => hp⟩, S.env.len, fun i s e => ?_, S.env.ne⟩
  · rw [upd_ne (fun z => by rw [z, hp] at e; cases e)]; exact S.gd.ex a o e
  · have k := S.env.at_ i s e
    cases s with
    | un => trivial
    | sh d => exact k
    | ow es => obtain ⟨a, xs, z, ha, hf, w1, w⟩ := k; exact ⟨a, xs, z, by rw [upd_ne w1]; exact ha, hf, w1, w⟩
    | oi kk ks es => obtain ⟨dx, xs, z, ha, hf, w1, w⟩ := k; exact ⟨dx, xs, z, by rw [upd_ne w1]; exact ha, hf, w1, w⟩
theorem Gd.purse {p : Addr} {l : List Int} {F H : Hp} (g : Gd p (.real l) F H) : H p = some (.lst (l.map V.int)) := g.pu
section
variable {X : Cx} {c : Cf} {pos : Pos} {e ie : Expr} {m mi : ME} {i : Nat} {x : Str}
theorem Rep.pur_ {W : Wo} {p : Addr} {F : Hp} {v : V} (h : Rep W p F v .pur) : v = .ref p := by cases h; rfl
theorem dIxP (i : Nat) {x : Str} {p0 : Pos} (hk : DE X c ie mi) (hN : X.N[i]? = some x := by rfl) (hv : Vis X.env.scope x := by first | exact Or.inl rfl | exact Or.inr (Or.inl rfl) | exact Or.inr (Or.inr rfl)) (hd : (x == ("__debug__" : Str)) = false := by decide)
    (hcd : (x == ("__classdict__" : Str)) = false := by decide) (hs : PlainIx ie := by exact fun _ _ => rfl) : DE X c (.Subscript (.Name x p0) ie pos) (mIxP i mi) :=
  (pe_ix ix_list (pe_var (i := i) hN hv hd hcd) hk hs).imp fun σ H Q ⟨F, u, ρ, S, h⟩ => by
    unfold mIxP at h
    cases ho : vSh ρ i with
    | none =>
      exfalso
      unfold M.bind at h
      cases e1 : mi ρ u with
      | none => rw [e1] at h; exact h
      | some y => rw [e1, ho] at h; exact h
    | some d =>
      obtain ⟨v, ev, rv⟩ := S.var ho
      refine ⟨v, ev, F, u, ρ, S, (After.split h).imp fun k u2 F2 H2 _ s2 g2 h2 w rw => ?_⟩
      obtain ⟨d', e2, h3⟩ := lft_some' h2
      rw [ho] at e2
      cases e2
      cases d with
      | pur =>
        cases k with
        | int j =>
          cases u2 with
          | real l =>
            have h4 : After c.p F2 H2 ((atI l j).map fun n => (D.int n, PuS.real l)) fun d _ F' H' => ∀ v, Rep c.W c.p F' v d → Q v H' := h3
            cases e4 : atI l j with
            | none => rw [e4] at h4; exact False.elim h4
            | some n =>
              rw [e4] at h4
              have h5 : After c.p F2 H2 (some (D.int n, PuS.real l)) fun d _ F' H' => ∀ v, Rep c.W c.p F' v d → Q v H' := h4
              refine ⟨c.p, _, j, .int n, rv.pur_, rw.int_, SqL.of g2.purse, by rw [atI_map, e4]; rfl, After.now g2 h5 _ (.int n)⟩
          | idle o => exact False.elim h3
        | _ => exact False.elim h3
      | _ => cases k <;> exact False.elim h3
theorem put_ok {F H : Hp} {u : PuS} {σ : L2.St} {ρ ρ' : Env} {d k v : D} {vd vk vv : V} {Dn : Ends} {σ' : L2.St} (S : Sta c u F H σ ρ) (rd : Rep c.W c.p F vd d) (rk : Rep c.W c.p F vk k) (rv : Rep c.W c.p F vv v)
    (h : flowO c F Dn (M.bind (putP d k v) (fun _ => M.pure (.nx ρ')) u)) (hs : ∀ {u' F' H'}, Sta c u' F' H' σ ρ → Sta c u' F' H' σ' ρ') : rSetL vd vk vv H fun H4 => Dn.nx σ' H4 := by
  unfold M.bind at h
  cases d with
  | pur =>
    cases k with
    | int j =>
      cases v with
      | int a =>
        cases u with
        | real l =>
          have e0 : putP D.pur (D.int j) (D.int a) (PuS.real l) = (ixN l.length j).map fun n => ((), PuS.real (l.set n a)) := rfl
          rw [e0] at h
          have h2 := h
          cases e1 : ixN l.length j with
          | none => rw [e1] at h2; exact False.elim h2
          | some n =>
            rw [e1] at h2
            refine ⟨c.p, _, j, n, rd.pur_, rk.int_, S.gd.purse, by rw [List.length_map]; exact e1, ?_⟩
            rw [rv.int_, ← List.map_set]
            exact h2 σ' F _ (Same.refl _) (hs (S.purse (l' := l.set n a)))
        | idle o => exact False.elim h
      | _ => exact False.elim h
    | _ => cases v <;> exact False.elim h
  | _ => cases k <;> cases v <;> exact False.elim h
theorem dPutP (i : Nat) {x : Str} {p0 tp : Pos} (he : DE X c e m) (hk : DE X c ie mi) (hN : X.N[i]? = some x := by rfl) (hv : Vis X.env.scope x := by first | exact Or.inl rfl | exact Or.inr (Or.inl rfl) | exact Or.inr (Or.inr rfl)) (hd : (x == ("__debug__" : Str)) = false := by decide)
    (hcd : (x == ("__classdict__" : Str)) = false := by decide)
    (ha : ∀ v, assign (.Subscript (.Name x p0) ie tp) X.env v = (do
      let ov ← holding [v] (eval (.Name x p0) X.env)
      let iv ← holding [v, ov] (eval ie X.env)
      standAt tp
      holding [v, ov, iv] (setItem ov iv v)
      release [v, ov, iv] []) := by intro _; rfl)
    (hs : swapsWithSole [.Subscript (.Name x p0) ie tp] e pos.line X.env = pure false := by rfl) (hw : swappedStores [.Subscript (.Name x p0) ie tp] e X.env = pure none := by rfl)
    (h1 : (assignEach [.Subscript (.Name x p0) ie tp] X.env).map (·.2) = [assign (.Subscript (.Name x p0) ie tp) X.env] := by rfl) : DS X c (.Assign [.Subscript (.Name x p0) ie tp] e pos) (mPutP i m mi) :=
  (ps_asg he (pg_sub (pe_var (i := i) hN hv hd hcd) hk set_list ha) hs hw h1).imp fun Dn σ H ⟨F, u, ρ, S, h⟩ => ⟨F, u, ρ, S, (flowO.after S h).imp fun d u1 F1 H1 _ s1 g1 h1 v rv => by
    cases ho : vSh ρ i with
    | none =>
      exfalso
      have h2 := h1.2
      unfold M.bind at h2
      cases e1 : mi ρ u1 with
      | none => rw [e1] at h2; exact h2
      | some y => rw [e1, ho] at h2; exact h2
    | some dd =>
      obtain ⟨vd, ev, rvd⟩ := h1.1.var ho
      refine ⟨vd, ev, F1, u1, ρ, h1.1, (flowO.after h1.1 h1.2).imp fun k u2 F2 H2 _ s2 g2 h2 w rw => ?_⟩
      obtain ⟨d', e2, h3⟩ := flowO.lft h2.1 h2.2
      rw [ho] at e2
      cases e2
      exact put_ok h2.1 (rvd.mono s2.ef) rw (rv.mono s2.ef) h3 id⟩
/-- x[k], y = e -/
theorem dDmP (i j : Nat) {x y : Str} {p0 p1 tp tq : Pos} {kt : Nat} (hc : X.calm = true) (he : DE X c e m) (hk : DE X c ie mi) (hNd : X.N.Nodup) (hj : X.N[j]? = some y) (hy : Loc X.env.scope y) (hN : X.N[i]? = some x := by rfl) (hv : Vis X.env.scope x := by first | exact Or.inl rfl | exact Or.inr (Or.inl rfl) | exact Or.inr (Or.inr rfl)) (hd : (x == ("__debug__" : Str)) = false := by decide)
    (hcd : (x == ("__classdict__" : Str)) = false := by decide)
    (ha : ∀ v, assign (.Subscript (.Name x p0) ie tp) X.env v = (do
      let ov ← holding [v] (eval (.Name x p0) X.env)
      let iv ← holding [v, ov] (eval ie X.env)
      standAt tp
      holding [v, ov, iv] (setItem ov iv v)
      release [v, ov, iv] []) := by intro _; rfl)
    (hf : X.fn y = true ∨ X.env.scope.names.lookup y = some .local := by first | exact .inl rfl | exact .inr rfl | assumption)
    (ht : (assignEach [.Subscript (.Name x p0) ie tp, .Name y p1] X.env).length = 2 := by rfl) (hst : (assignEach [.Subscript (.Name x p0) ie tp, .Name y p1] X.env).findIdx? (·.1) = none := by rfl)
    (hq1 : (assignEach [.Subscript (.Name x p0) ie tp, .Name y p1] X.env).map (·.2) = assign (.Subscript (.Name x p0) ie tp) X.env :: (assignEach [.Name y p1] X.env).map (·.2) := by rfl)
    (hq2 : (assignEach [.Name y p1] X.env).map (·.2) = assign (.Name y p1) X.env :: (assignEach [] X.env).map (·.2) := by rfl)
    (hs : swapsWithSole [.Tuple [.Subscript (.Name x p0) ie tp, .Name y p1] kt tq] e pos.line X.env = pure false := by rfl) (hw : swappedStores [.Tuple [.Subscript (.Name x p0) ie tp, .Name y p1] kt tq] e X.env = pure none := by rfl)
    (h1 : (assignEach [.Tuple [.Subscript (.Name x p0) ie tp, .Name y p1] kt tq] X.env).map (·.2) = [assign (.Tuple [.Subscript (.Name x p0) ie tp, .Name y p1] kt tq) X.env] := by rfl) (hK : X.K = c.W.K := by rfl) :
    DS X c (.Assign [.Tuple [.Subscript (.Name x p0) ie tp, .Name y p1] kt tq] e pos) (mDmP i mi j m) :=
  (ps_asg he (pg_tup hc (pgs_cons (pg_sub (pe_var (i := i) hN hv hd hcd) hk set_list ha) (pgs_cons (pg_name (i := j) hNd hj hy hf) pgs_nil hq2) hq1) ht hst) hs hw h1).imp fun Dn σ H ⟨F, u, ρ, S, h⟩ => ⟨F, u, ρ, S, (flowO.after S h).imp fun d u1 F1 H1 _ s1 g1 h1 v rv => by
    have h2 := h1.2
    split at h2
    · rename_i a b _hh
      obtain ⟨q, vs, rfl, hq, rs⟩ := rv.tup_
      obtain ⟨v1, v2, rfl, r1, r2⟩ := rs.two
      refine ⟨q, _, rfl, by rw [hK]; exact sq_t g1.ex hq, rfl, v1, [v2], rfl, ?_⟩
      cases ho : vSh ρ i with
      | none =>
        exfalso
        unfold M.bind at h2
        cases e1 : mi ρ u1 with
        | none => rw [e1] at h2; exact h2
        | some y => rw [e1, ho] at h2; exact h2
      | some dd =>
        obtain ⟨vd, ev, rvd⟩ := h1.1.var ho
        refine ⟨vd, ev, F1, u1, ρ, h1.1, (flowO.after h1.1 h2).imp fun k u2 F2 H2 _ s2 g2 h3 w rw => ?_⟩
        obtain ⟨d', e2, h4⟩ := flowO.lft h3.1 h3.2
        rw [ho] at e2
        cases e2
        have h5 := put_ok (Dn := Dn) (ρ' := ρ.set j (.sh (.int b))) (σ' := σ.set j (some v2)) h3.1 (rvd.mono s2.ef) rw (r1.mono s2.ef) h4 fun {u' F' H'} z => by
          rw [r2.int_]
          exact z.set (.int b)
        obtain ⟨pp, xs, kk, n, q1, q2, q3, q4, q5⟩ := h5
        exact ⟨pp, xs, kk, n, q1, q2, q3, q4, v2, [], rfl, rfl, q5⟩
    · exact False.elim h2⟩
end

/-! ### defs that return a fresh list -/
def spL (W : Wo) (n : Nat) (mf : List D → M (List D)) : Sp := fun vs H Q _ => vs.length = n ∧ ∃ p F u ds, Gd p u F H ∧ Reps W p F vs ds ∧
  After p F H (mf ds u) fun es _ F' H' => ∀ q ws, F' q = none → H q = none → H' q = some (.lst ws) → Reps W p F' ws es → Q (.ref q) H'
def mFnL (n : Nat) (mb : MS) : List D → M (List D) := fun ds u => match mb (startE n ds) u with
  | some (.rl d, u') => some (d, u')
  | _ => none
def mRetL (m : MA) : MS := fun ρ => M.bind (m ρ) fun ds => M.pure (.rl ds)
section
variable {X : Cx} {c : Cf} {pos : Pos} {e : Expr} {ml : MA}
theorem dRetL (he : DL X c e ml) : DS X c (.Return (some e) pos) (mRetL ml) :=
  (ps_ret he).imp fun Dn σ H ⟨F, u, ρ, S, h⟩ => ⟨F, u, ρ, S, (flowO.after S h).imp fun ds u1 F1 H1 _ s1 g1 h1 q vs hF hn hq r =>
    h1.2 q vs F1 H1 h1.1.ent g1 hF (S.ent.back S.gd.ne hn) hq r⟩
end
section
variable {P : Program} {w : World} {K : PySem.W.Frag} {mg : Str → Option Value} {base : Heap} {x qual : Str} {params : Arguments} {body : List Stmt} {scope : Scope} {dvs : List V} {kws : List (Str × V)} {f : Addr} {fd : FuncData} {W : Wo} {N ps : List Str} {k : Nat} {mb : MS}
theorem fn_mirL (F : FunD K x qual params body scope dvs kws f fd) (S : FnScope N ps scope)
    (hb : ∀ (cdv : Value) (A : Around) (outer : List PySem.Env) (s : Shared) (H : Hp) (E : XK) (p : Addr) (F0 : Hp), Room k (A.deeper (envOfC qual scope s.heap.objs.size f cdv)) → DB (cxOf CX0 P w K mg base N qual scope f cdv A outer s H E).nox ⟨W, p, F0, H, 0⟩ body mb) :
    FnOk P w K mg base CX0 (k + 1) f fd ps (spL W ps.length (mFnL N.length mb)) := by
  refine F.ok S (fun vs H Q E h => h.1) (fun cdv A outer s H vs Q E hr h => ?_)
  obtain ⟨hl, p, F0, u, ds, g, r, h⟩ := h
  refine ⟨_, PSs.nox (hb cdv A outer s H E p F0 hr), F0, u, startE N.length ds, ⟨Stp.refl, g, env_start r⟩, ?_⟩
  unfold mFnL at h
  cases e : mb (startE N.length ds) u with
  | none => rw [e] at h; exact h
  | some y =>
    obtain ⟨fl, u1⟩ := y
    rw [e] at h
    cases fl with
    | rl es =>
      intro q ws F' H' s' g' hF hn hq rw
      have h2 : After p F0 H (some (es, u1)) (fun es _ F' H' => ∀ q ws, F' q = none → H q = none → H' q = some (.lst ws) → Reps W p F' ws es → Q (.ref q) H') := h
      exact h2 F' H' s' g' q ws hF hn hq rw
    | nx ρ' => exact False.elim h
    | rt d => exact False.elim h
    | bk ρ' => exact False.elim h
    | ct ρ' => exact False.elim h
end
def mCallL (n : Nat) (mf : List D → M (List D)) (ms : MA) : MA := fun ρ => M.bind (ms ρ) fun ds => if ds.length = n then mf ds else lft none
section
variable {X : Cx} {c : Cf} {k n : Nat} {f : Addr} {fd : FuncData} {ps : List Str} {x : Str} {p pos : Pos} {e : Expr} {es : List Expr} {ms : MA} {mf : List D → M (List D)}
theorem dCallL (G : FnOk X.prog X.w X.K X.mg X.base CX0 k f fd ps (spL c.W n mf)) (hr : Room k X.A) (hg : Gl X x) (hm : X.mg x = some (.ref f)) (hk : PySem.W.keepIn X.K (.ref f) = true) (hb : Binds X.K fd ps [])
    (ha : DA X c (e :: es) ms) (hdb : (x == ("__debug__" : Str)) = false := by decide) (he : starEach (e :: es) X.env = (false, eval e X.env) :: starEach es X.env := by rfl) (hpl : (backTo pos (starEach es X.env)).any (·.1) = false := by rfl) :
    DL X c (.Call (.Name x p) (e :: es) [] pos) (mCallL n mf ms) :=
  (pe_call G hr hg hm hk hb .nil pass0 ha hdb he hpl).imp fun σ H Q ⟨F, u, ρ, S, h⟩ => ⟨F, u, ρ, S, (After.split h).imp fun ds u1 F1 H1 _ s1 g1 h1 vs rvs => by
    show spL c.W n mf (vs ++ []) H1 Q E0
    rw [List.append_nil]
    split at h1
    · rename_i hl
      exact ⟨rvs.1.trans hl, c.p, F1, u1, ds, g1, rvs, h1.imp fun es u2 F2 H2 _ s2 g2 h2 q ws hF hn hq rw => h2 q ws hF (s1.back g1.ne hn) hq rw⟩
    · exact False.elim h1⟩
/-- f(g(..)), where g makes the purse -/
def mWith (mf : List D → M D) (ml : MA) : ME := fun ρ => M.bind (ml ρ) fun ds => lft (match intsD ds with
  | some l => match mf [.pur] (.real l) with
    | some (.bl b, _) => some (.bl b)
    | _ => none
  | none => none)
theorem dWith {mf : List D → M D} {ml : MA} (G : FnOk X.prog X.w X.K X.mg X.base CX0 k f fd ps (spM c.W 1 mf)) (hr : Room k X.A) (hg : Gl X x) (hm : X.mg x = some (.ref f)) (hk : PySem.W.keepIn X.K (.ref f) = true) (hb : Binds X.K fd ps [])
    (ha : DL X c e ml) (hdb : (x == ("__debug__" : Str)) = false := by decide) (he : starEach [e] X.env = (false, eval e X.env) :: starEach [] X.env := by rfl) (hpl : (backTo pos (starEach [] X.env)).any (·.1) = false := by rfl) :
    DE X c (.Call (.Name x p) [e] [] pos) (mWith mf ml) :=
  (pe_call G hr hg hm hk hb .nil pass0 (pa_cons ha pa_nil he) hdb he hpl).imp fun σ H Q ⟨F, u, ρ, S, h⟩ => ⟨F, u, ρ, S, by
    unfold mWith M.bind at h
    cases e0 : ml ρ u with
    | none => rw [e0] at h; exact False.elim h
    | some y0 =>
      obtain ⟨ds, u1⟩ := y0
      rw [e0] at h
      intro F1 H1 s1 g1 q vs hF hn hq r
      have hqp : q ≠ c.p := fun z => S.gd.ne (z ▸ hn)
      obtain ⟨d, e1, h2⟩ := lft_some h
      cases e2 : intsD ds with
      | none => rw [e2] at e1; cases e1
      | some l =>
        rw [e2] at e1
        have hv := intsD_rep r e2
        subst hv
        show spM c.W 1 mf ([.ref q] ++ []) H1 Q E0
        rw [List.append_nil]
        refine ⟨rfl, q, F1, .real l, [.pur], ⟨g1.ex, hq, fun _ _ => hF⟩, Reps.cons .pur Reps.nil, ?_⟩
        cases e3 : mf [.pur] (.real l) with
        | none => simp [e3] at e1
        | some y =>
          obtain ⟨r3, u3⟩ := y
          cases r3 with
          | bl b =>
            simp [e3] at e1
            subst e1
            intro F' H' s' g' v rv
            rw [rv.bl_]
            refine h2 F' H' ⟨s1.ef.trans s'.ef, fun a o ha e => ?_, fun a o e => ?_⟩ ⟨g'.ex, ?_, fun l' e => ?_⟩ (.bl b) (.bl b)
            · exact s'.eh a o (fun z => by rw [z, hn] at e; cases e) (s1.eh a o ha e)
            · rcases s'.nw a o e with z | z
              · exact s1.nw a o z
              · exact .inr (s1.back g1.ne z)
            · exact s'.eh c.p _ (Ne.symm hqp) g1.pu
            · exact s'.off (g1.off l' e) g1.ne
          | _ => simp [e3] at e1⟩
end
end Mi


set_option Elab.async false
set_option linter.all false
set_option maxRecDepth 100000
set_option maxHeartbeats 4000000
/-! MiF: the law's end. -/
namespace Mi
open PySem PySem.Spec PyProof.Rows L2 He
def noListsB (K : PySem.W.Frag) : Bool := K.all fun q => match q.2.cls with
  | .type c => !(c == "list")
  | _ => true
theorem lookup_mem' {a : Addr} {o : Obj} : ∀ {l : PySem.W.Frag}, l.lookup a = some o → (a, o) ∈ l
  | [], h => by cases h
  | (b, u) :: r, h => by
    have h2 : (match a == b with | true => some u | false => r.lookup a) = some o := h
    cases q : (a == b) with
    | true =>
      rw [q] at h2
      have e : u = o := Option.some.inj h2
      rw [beq_iff_eq.mp q, e]
      exact List.mem_cons_self
    | false =>
      rw [q] at h2
      exact List.mem_cons_of_mem _ (lookup_mem' h2)
theorem law_sp {cs : List Str} {K : PySem.W.Frag} {mf : List D → M D} {E : XK} (hK : noListsB K = true) (n : Nat) (h : ∀ (ns : List Int) (o : HO), ns.length ≤ n → ∃ u', mf [.scr ns] (.idle o) = some (.bl true, u')) (H : Hp) (a : Addr) (ns : List Int) (hl : ns.length ≤ n) (hS : SqL K H a (ns.map V.int)) :
    spM (WW cs K) 1 mf [.ref a] H (fun v _ => v = .bl true) E := by
  have ex : ∃ o, H a = some o := by
    rcases hS with (z | ⟨o, z⟩) | ⟨o, its, m, hk, hc, _⟩
    · exact ⟨_, z⟩
    · exact ⟨_, z⟩
    · exfalso
      have := List.all_eq_true.mp hK _ (lookup_mem' hk)
      simp [hc] at this
  obtain ⟨o, ho⟩ := ex
  obtain ⟨u', hu⟩ := h ns o hl
  refine ⟨rfl, a, H, .idle o, [.scr ns], ⟨fun _ _ e => e, ho, fun l e => by cases e⟩, Reps.cons (.scr hS) Reps.nil, ?_⟩
  rw [hu]
  exact fun F' H' _ _ v rv => rv.bl_
/-! ### name = [..] on one line, the name a plain local -/
def mBorLs (is : List Nat) (ml : MA) : MA := is.foldr mBorL ml
section
variable {X : Cx} {c : Cf}
theorem rdBorL {i : Nat} {ml : MA} : ∀ σ H Q, rdL c (mBorL i ml) σ H Q → rdL c ml σ H Q := fun σ H Q ⟨F, u, ρ, S, h⟩ => by
  unfold mBorL M.bind at h
  cases e1 : ml (frz i ρ) u with
  | none => rw [e1] at h; exact False.elim h
  | some y =>
    obtain ⟨d, u1⟩ := y
    rw [e1] at h
    obtain ⟨hn, h2⟩ := lft_if (b := noLsts d = true) (a := d) h
    rcases S.lend i with z | ⟨q, ws, F1, S1, hq, back⟩
    · rw [z] at e1
      exact ⟨F, u, ρ, S, by rw [e1]; exact h2⟩
    · refine ⟨F1, u, frz i ρ, S1, ?_⟩
      rw [e1]
      intro F' H' s' g' q' vs hF hn' hv rv
      obtain ⟨s2, g2, hq2⟩ := back _ _ _ s' g'
      refine h2 _ _ s2 g2 q' vs ?_ hn' hv ⟨rv.1, fun j v d e2 e3 => (rv.2 j v d e2 e3).without hq2 (fun a o ha e => by rw [del_ne ha]; exact e) (noLsts_at hn e3)⟩
      unfold del
      split
      · rfl
      · exact hF
theorem rdBorLs {ml : MA} : ∀ (is : List Nat) σ H Q, rdL c (mBorLs is ml) σ H Q → rdL c ml σ H Q
  | [], _, _, _, h => h
  | _ :: is, σ, H, Q, h => rdBorLs is σ H Q (rdBorL σ H Q h)
variable {elt tg iter : Expr} {ifs : List Expr} {scope : Scope} {own : List (Str × Nat)} {pos spos py : Pos} {is : List Nat} {mi : MA} {g : MG} {mt : MT} {me : ME} {y : Str} {st : Stmt} {R : TE} {ml : MA}
theorem setO_of (i : Nat) (h : PS X st (tAsg R (gName i))) (hR : ∀ σ H Q, rdL c ml σ H Q → R σ H Q) : DS X c st (mSetO i ml) :=
  h.imp fun Dn σ H ⟨F, u, ρ, S, z⟩ => hR σ H _ ⟨F, u, ρ, S, (flowO.after S z).imp fun ds u1 F1 H1 _ s1 g1 h1 q vs hF hn hq r => h1.2 _ F1 H1 (Same.refl _) (Sta.setO S s1 g1 hF hn hq r)⟩
theorem dLcSetO (i : Nat) (bs : List Nat) (hc : X.calm = true) (hN : X.N.Nodup) (hy : X.N[i]? = some y) (hyl : X.env.scope.names.lookup y = some .local)
    (hsw : swapsWith (.ListComp elt [⟨tg, iter, ifs, 0⟩] scope pos) (some (.Name y py)) spos.line X.env = pure true) (hi : DI X c tg iter mi) (ok : BlkOk X.N X.env.scope scope own)
    (hg : ∀ (s : Shared) (H : Hp) (C : Addr) (cl : List (Str × Addr)) (fp : List Addr), DG (X.blk s H scope (compEnvC scope cl C X.env) fp) c tg is g)
    (ht : ∀ (s : Shared) (H : Hp) (C : Addr) (cl : List (Str × Addr)) (fp : List Addr), PTs (X.blk s H scope (compEnvC scope cl C X.env) fp) ifs (rdT c mt)) (he : ∀ (s : Shared) (H : Hp) (C : Addr) (cl : List (Str × Addr)) (fp : List Addr), DE (X.blk s H scope (compEnvC scope cl C X.env) fp) c elt me)
    (his : ∀ i ∈ is, i ∈ own.map (·.2) := by decide) (hs : ∀ x, foldedSetIterable iter X.env x = pure x := by intro _; rfl) : DS X c (.Assign [.Name y py] (.ListComp elt [⟨tg, iter, ifs, 0⟩] scope pos) spos) (mSetO i (mBorLs bs (mLcO (own.map (·.2)) mi g mt me))) :=
  setO_of i (ps_setLc hc hN hy hyl hsw hi ok hg ht he hs) fun σ H Q h => by
    obtain ⟨F, u, ρ, S, h⟩ := rdBorLs bs σ H Q h
    exact rdLc his σ H Q F u ρ S h
theorem set_of (i : Nat) (h : PS X st (tAsg R (gName i))) (hR : ∀ σ H Q, rdL c ml σ H Q → R σ H Q) : DS X c st (mSet i (mFz ml)) :=
  h.imp fun Dn σ H ⟨F, u, ρ, S, z⟩ => hR σ H _ (by
    have e : PE X (.Constant .none 0 ⟨0, 0, 0, 0⟩) (rdL c ml) → True := fun _ => trivial
    have z2 := flowO.after S z
    refine ⟨F, u, ρ, S, ?_⟩
    unfold mFz M.bind at z2
    cases e1 : ml ρ u with
    | none => rw [e1] at z2; exact z2
    | some x =>
      obtain ⟨ds, u1⟩ := x
      rw [e1] at z2
      intro F1 H1 s1 g1 q ws hF hn hq r
      have h2 : After c.p F H (some (D.lst ds, u1)) (fun a u1 F1 H1 => Sta c u1 F1 H1 σ ρ ∧ flowO c F1 Dn (M.pure (.nx (ρ.set i (.sh a))) u1)) := z2
      have hsm : Same F1 (upd F1 q (.lst ws)) := fun a o e => by rw [upd_ne (fun z => by rw [z, hF] at e; cases e)]; exact e
      have hpq : c.p ≠ q := fun z => S.gd.ne (z ▸ hn)
      have h3 := h2 (upd F1 q (.lst ws)) H1 ⟨s1.ef.trans hsm, s1.eh, fun a o e => ?_⟩ ⟨fun a o e => ?_, g1.pu, fun l e => by rw [upd_ne hpq]; exact g1.off l e⟩
      · exact h3.2 _ _ _ (Same.refl _) (h3.1.set (Rep.mkL upd_same (r.mono hsm)))
      · by_cases ha : a = q
        · subst ha; exact .inr hn
        · rw [upd_ne ha] at e; exact s1.nw a o e
      · by_cases ha : a = q
        · subst ha; rw [upd_same] at e; cases e; exact hq
        · rw [upd_ne ha] at e; exact g1.ex a o e)
theorem dLcSet (i : Nat) (bs : List Nat) (hc : X.calm = true) (hN : X.N.Nodup) (hy : X.N[i]? = some y) (hyl : X.env.scope.names.lookup y = some .local)
    (hsw : swapsWith (.ListComp elt [⟨tg, iter, ifs, 0⟩] scope pos) (some (.Name y py)) spos.line X.env = pure true) (hi : DI X c tg iter mi) (ok : BlkOk X.N X.env.scope scope own)
    (hg : ∀ (s : Shared) (H : Hp) (C : Addr) (cl : List (Str × Addr)) (fp : List Addr), DG (X.blk s H scope (compEnvC scope cl C X.env) fp) c tg is g)
    (ht : ∀ (s : Shared) (H : Hp) (C : Addr) (cl : List (Str × Addr)) (fp : List Addr), PTs (X.blk s H scope (compEnvC scope cl C X.env) fp) ifs (rdT c mt)) (he : ∀ (s : Shared) (H : Hp) (C : Addr) (cl : List (Str × Addr)) (fp : List Addr), DE (X.blk s H scope (compEnvC scope cl C X.env) fp) c elt me)
    (his : ∀ i ∈ is, i ∈ own.map (·.2) := by decide) (hs : ∀ x, foldedSetIterable iter X.env x = pure x := by intro _; rfl) : DS X c (.Assign [.Name y py] (.ListComp elt [⟨tg, iter, ifs, 0⟩] scope pos) spos) (mSet i (mFz (mBorLs bs (mLcO (own.map (·.2)) mi g mt me)))) :=
  set_of i (ps_setLc hc hN hy hyl hsw hi ok hg ht he hs) fun σ H Q h => by
    obtain ⟨F, u, ρ, S, h⟩ := rdBorLs bs σ H Q h
    exact rdLc his σ H Q F u ρ S h
end
end Mi


set_option Elab.async false
set_option linter.all false
set_option maxRecDepth 100000
set_option maxHeartbeats 4000000
/-! MiP: facts about own methods. -/
namespace Mi
open PySem PySem.Spec PyProof.Rows L2 He
/-! ### facts -/
structure OwnM (K : PySem.W.Frag) (C f : Addr) (n : Str) : Prop where
  has : PySem.W.findIn K (.ref C) n = some (some (.ref f))
  fn : PySem.W.isFn K (.ref f) = true
def ownB (c n : Str) (K : PySem.W.Frag) : Bool := eqO (PySem.W.findIn K (.ref (ga K c)) n) (some (some (.ref (ma K (ga K c) n)))) && PySem.W.isFn K (.ref (ma K (ga K c) n))
theorem own_ok {K : PySem.W.Frag} {c n : Str} (h : (Ft.raw (ownB c n)).ok K = true) : OwnM K (ga K c) ((Pl.meth c n).ad K) n := by
  obtain ⟨h1, h2⟩ := ba h
  exact ⟨eqO_ok h1, h2⟩
def ownFB (c n : Str) (K : PySem.W.Frag) : Bool := ownB c n K && PySem.W.fnIn K (ma K (ga K c) n)
theorem ownF_ok {K : PySem.W.Frag} {c n : Str} (h : (Ft.raw (ownFB c n)).ok K = true) : OwnM K (ga K c) ((Pl.meth c n).ad K) n ∧ PySem.W.fnIn K ((Pl.meth c n).ad K) = true := by
  obtain ⟨h1, h2⟩ := ba h
  exact ⟨own_ok h1, h2⟩
def ownSB (c n : Str) (K : PySem.W.Frag) : Bool := ownB c n K && PySem.W.selfFirst K (ga K c)
theorem ownS_ok {K : PySem.W.Frag} {c n : Str} (h : (Ft.raw (ownSB c n)).ok K = true) : OwnM K (ga K c) ((Pl.meth c n).ad K) n ∧ PySem.W.selfFirst K (ga K c) = true := by
  obtain ⟨h1, h2⟩ := ba h
  exact ⟨own_ok h1, h2⟩
/-- with an int on the right -/
structure OwnI (K : PySem.W.Frag) (C f : Addr) (n r : Str) : Prop where
  own : OwnM K C f n
  first : PySem.W.selfFirst K C = true
  rev : ∃ rc, PySem.W.findIn K (.ref C) r = some rc ∧ (rc = none ∨ ∃ g : Addr, rc = some (.ref g))
  int : ∃ fo, PySem.W.findIn K (.type "int") n = some fo
  rint : ∃ fo, PySem.W.findIn K (.type "int") r = some fo
  sub : PySem.W.subIn K (.type "int") (.ref C) = some false
def ownIB (c n r : Str) (K : PySem.W.Frag) : Bool := ownSB c n K && ((match PySem.W.findIn K (.ref (ga K c)) r with
    | some none => true
    | some (some (.ref _)) => true
    | _ => false) && ((PySem.W.findIn K (.type "int") n).isSome && ((PySem.W.findIn K (.type "int") r).isSome && decide (PySem.W.subIn K (.type "int") (.ref (ga K c)) = some false))))
theorem ownI_ok {K : PySem.W.Frag} {c n r : Str} (h : (Ft.raw (ownIB c n r)).ok K = true) : OwnI K (ga K c) ((Pl.meth c n).ad K) n r := by
  obtain ⟨h1, h⟩ := ba h
  obtain ⟨h2, h⟩ := ba h
  obtain ⟨h3, h⟩ := ba h
  obtain ⟨h4, h5⟩ := ba h
  obtain ⟨o, s⟩ := ownS_ok h1
  refine ⟨o, s, ?_, Option.isSome_iff_exists.mp h3, Option.isSome_iff_exists.mp h4, of_decide_eq_true h5⟩
  split at h2
  · rename_i e; exact ⟨none, e, .inl rfl⟩
  · rename_i g e; exact ⟨_, e, .inr ⟨g, rfl⟩⟩
  · cases h2
end Mi

namespace G48
open PySem PySem.Spec PyProof.Rows L2 Mi He
def top (i : Nat) : Stmt := PySem.Challenge.pw_sparepay_k48_least_cards_of_great_number.main.body.getD i (.Pass ⟨0, 0, 0, 0⟩)
def sub (s : Stmt) (j : Nat) : Stmt := match s with
  | .ClassDef _ _ _ b _ _ _ _ _ _ _ => b.getD j (.Pass ⟨0, 0, 0, 0⟩)
  | _ => .Pass ⟨0, 0, 0, 0⟩

@[reducible] def cs : List Str := ["Card", "Course", "Wallet"]
theorem hc_Card : ("Card" : Str) ∈ cs := by decide
theorem hc_Course : ("Course" : Str) ∈ cs := by decide
theorem hc_Wallet : ("Wallet" : Str) ∈ cs := by decide
abbrev st_is_name : Stmt := (top 24)
def d_is_name : DefP := ⟨.glob "is_name", "is_name", "is_name", defArgs st_is_name, defBody st_is_name, defScope st_is_name⟩
theorem sc_is_name : FnScope ["value", "sign"] ["value"] (defScope st_is_name) := ⟨rfl, rfl, rfl, by decide +kernel, rfl, by decide +kernel, by decide +kernel⟩
abbrev st_wrong_pair : Stmt := (top 30)
def d_wrong_pair : DefP := ⟨.glob "wrong_pair", "wrong_pair", "wrong_pair", defArgs st_wrong_pair, defBody st_wrong_pair, defScope st_wrong_pair⟩
theorem sc_wrong_pair : FnScope ["pairs", "names", "index", "pair", "name", "card"] ["pairs"] (defScope st_wrong_pair) := ⟨rfl, rfl, rfl, by decide +kernel, rfl, by decide +kernel, by decide +kernel⟩
abbrev st_Wallet___init__ : Stmt := (sub (top 31) 0)
def d_Wallet___init__ : DefP := ⟨.meth "Wallet" "__init__", "__init__", "Wallet.__init__", defArgs st_Wallet___init__, defBody st_Wallet___init__, defScope st_Wallet___init__⟩
theorem sc_Wallet___init__ : FnScope ["self", "cards", "wrong"] ["self", "cards"] (defScope st_Wallet___init__) := ⟨rfl, rfl, rfl, by decide +kernel, rfl, by decide +kernel, by decide +kernel⟩
abbrev st_is_integer : Stmt := (top 22)
def d_is_integer : DefP := ⟨.glob "is_integer", "is_integer", "is_integer", defArgs st_is_integer, defBody st_is_integer, defScope st_is_integer⟩
theorem sc_is_integer : FnScope ["value"] ["value"] (defScope st_is_integer) := ⟨rfl, rfl, rfl, by decide +kernel, rfl, by decide +kernel, by decide +kernel⟩
abbrev st_is_natural : Stmt := (top 23)
def d_is_natural : DefP := ⟨.glob "is_natural", "is_natural", "is_natural", defArgs st_is_natural, defBody st_is_natural, defScope st_is_natural⟩
theorem sc_is_natural : FnScope ["value"] ["value"] (defScope st_is_natural) := ⟨rfl, rfl, rfl, by decide +kernel, rfl, by decide +kernel, by decide +kernel⟩
abbrev st_Card___init__ : Stmt := (sub (top 28) 0)
def d_Card___init__ : DefP := ⟨.meth "Card" "__init__", "__init__", "Card.__init__", defArgs st_Card___init__, defBody st_Card___init__, defScope st_Card___init__⟩
theorem sc_Card___init__ : FnScope ["self", "balance", "limit"] ["self", "balance", "limit"] (defScope st_Card___init__) := ⟨rfl, rfl, rfl, by decide +kernel, rfl, by decide +kernel, by decide +kernel⟩
abbrev st__law_purse : Stmt := (top 62)
def d__law_purse : DefP := ⟨.glob "_law_purse", "_law_purse", "_law_purse", defArgs st__law_purse, defBody st__law_purse, defScope st__law_purse⟩
theorem sc__law_purse : FnScope ["_law_cards", "_law_names", "_law_k"] ["_law_cards", "_law_names"] (defScope st__law_purse) := ⟨rfl, rfl, rfl, by decide +kernel, rfl, by decide +kernel, by decide +kernel⟩
abbrev st_check_wallet : Stmt := (top 34)
def d_check_wallet : DefP := ⟨.glob "check_wallet", "check_wallet", "check_wallet", defArgs st_check_wallet, defBody st_check_wallet, defScope st_check_wallet⟩
theorem sc_check_wallet : FnScope ["value"] ["value"] (defScope st_check_wallet) := ⟨rfl, rfl, rfl, by decide +kernel, rfl, by decide +kernel, by decide +kernel⟩
abbrev st_check_course : Stmt := (top 43)
def d_check_course : DefP := ⟨.glob "check_course", "check_course", "check_course", defArgs st_check_course, defBody st_check_course, defScope st_check_course⟩
theorem sc_check_course : FnScope ["value"] ["value"] (defScope st_check_course) := ⟨rfl, rfl, rfl, by decide +kernel, rfl, by decide +kernel, by decide +kernel⟩
abbrev st_worth : Stmt := (top 27)
def d_worth : DefP := ⟨.glob "worth", "worth", "worth", defArgs st_worth, defBody st_worth, defScope st_worth⟩
theorem sc_worth : FnScope ["balance", "limit", "days"] ["balance", "limit", "days"] (defScope st_worth) := ⟨rfl, rfl, rfl, by decide +kernel, rfl, by decide +kernel, by decide +kernel⟩
abbrev st_lacking : Stmt := (top 47)
def d_lacking : DefP := ⟨.glob "lacking", "lacking", "lacking", defArgs st_lacking, defBody st_lacking, defScope st_lacking⟩
theorem sc_lacking : FnScope ["amounts", "asks", "sums", "day", "balance", "limit", "wanted", "room"] ["amounts", "asks"] (defScope st_lacking) := ⟨rfl, rfl, rfl, by decide +kernel, rfl, by decide +kernel, by decide +kernel⟩
abbrev st_Card_limit : Stmt := (sub (top 28) 3)
def d_Card_limit : DefP := ⟨.prop "Card" "limit", "limit", "Card.limit", defArgs st_Card_limit, defBody st_Card_limit, defScope st_Card_limit⟩
theorem sc_Card_limit : FnScope ["self"] ["self"] (defScope st_Card_limit) := ⟨rfl, rfl, rfl, by decide +kernel, rfl, by decide +kernel, by decide +kernel⟩
abbrev st_Card_balance : Stmt := (sub (top 28) 2)
def d_Card_balance : DefP := ⟨.prop "Card" "balance", "balance", "Card.balance", defArgs st_Card_balance, defBody st_Card_balance, defScope st_Card_balance⟩
theorem sc_Card_balance : FnScope ["self"] ["self"] (defScope st_Card_balance) := ⟨rfl, rfl, rfl, by decide +kernel, rfl, by decide +kernel, by decide +kernel⟩
abbrev st_asked_sets : Stmt := (top 37)
def d_asked_sets : DefP := ⟨.glob "asked_sets", "asked_sets", "asked_sets", defArgs st_asked_sets, defBody st_asked_sets, defScope st_asked_sets⟩
theorem sc_asked_sets : FnScope ["events", "best", "index", "event", "longer", "kept", "asks", "days", "k"] ["events"] (defScope st_asked_sets) := ⟨rfl, rfl, rfl, by decide +kernel, rfl, by decide +kernel, by decide +kernel⟩
abbrev st_asked : Stmt := (top 38)
def d_asked : DefP := ⟨.glob "asked", "asked", "asked", defArgs st_asked, defBody st_asked, defScope st_asked⟩
theorem sc_asked : FnScope ["events", "asks", "days"] ["events"] (defScope st_asked) := ⟨rfl, rfl, rfl, by decide +kernel, rfl, by decide +kernel, by decide +kernel⟩
abbrev st_Course_events : Stmt := (sub (top 41) 3)
def d_Course_events : DefP := ⟨.prop "Course" "events", "events", "Course.events", defArgs st_Course_events, defBody st_Course_events, defScope st_Course_events⟩
theorem sc_Course_events : FnScope ["self"] ["self"] (defScope st_Course_events) := ⟨rfl, rfl, rfl, by decide +kernel, rfl, by decide +kernel, by decide +kernel⟩
abbrev st_Wallet_cards : Stmt := (sub (top 31) 3)
def d_Wallet_cards : DefP := ⟨.prop "Wallet" "cards", "cards", "Wallet.cards", defArgs st_Wallet_cards, defBody st_Wallet_cards, defScope st_Wallet_cards⟩
theorem sc_Wallet_cards : FnScope ["self", "name", "card"] ["self"] (defScope st_Wallet_cards) := ⟨rfl, rfl, rfl, by decide +kernel, rfl, by decide +kernel, by decide +kernel⟩
abbrev st_amounts_of : Stmt := (top 45)
def d_amounts_of : DefP := ⟨.glob "amounts_of", "amounts_of", "amounts_of", defArgs st_amounts_of, defBody st_amounts_of, defScope st_amounts_of⟩
theorem sc_amounts_of : FnScope ["wallet", "card"] ["wallet"] (defScope st_amounts_of) := ⟨rfl, rfl, rfl, by decide +kernel, rfl, by decide +kernel, by decide +kernel⟩
abbrev st_upward : Stmt := (top 48)
def d_upward : DefP := ⟨.glob "upward", "upward", "upward", defArgs st_upward, defBody st_upward, defScope st_upward⟩
theorem sc_upward : FnScope ["number", "parts_here"] ["number", "parts_here"] (defScope st_upward) := ⟨rfl, rfl, rfl, by decide +kernel, rfl, by decide +kernel, by decide +kernel⟩
abbrev st_least_card : Stmt := (top 49)
def d_least_card : DefP := ⟨.glob "least_card", "least_card", "least_card", defArgs st_least_card, defBody st_least_card, defScope st_least_card⟩
theorem sc_least_card : FnScope ["wallet", "course", "lacks", "balance", "day", "lack"] ["wallet", "course"] (defScope st_least_card) := ⟨rfl, rfl, rfl, by decide +kernel, rfl, by decide +kernel, by decide +kernel⟩
abbrev st_wrong_event : Stmt := (top 39)
def d_wrong_event : DefP := ⟨.glob "wrong_event", "wrong_event", "wrong_event", defArgs st_wrong_event, defBody st_wrong_event, defScope st_wrong_event⟩
theorem sc_wrong_event : FnScope ["events", "bills", "coming", "index", "event"] ["events"] (defScope st_wrong_event) := ⟨rfl, rfl, rfl, by decide +kernel, rfl, by decide +kernel, by decide +kernel⟩
abbrev st_Course___init__ : Stmt := (sub (top 41) 0)
def d_Course___init__ : DefP := ⟨.meth "Course" "__init__", "__init__", "Course.__init__", defArgs st_Course___init__, defBody st_Course___init__, defScope st_Course___init__⟩
theorem sc_Course___init__ : FnScope ["self", "events", "wrong"] ["self", "events"] (defScope st_Course___init__) := ⟨rfl, rfl, rfl, by decide +kernel, rfl, by decide +kernel, by decide +kernel⟩
abbrev st_Course_of : Stmt := (sub (top 41) 1)
def d_Course_of : DefP := ⟨.clsm "Course" "of", "of", "Course.of", defArgs st_Course_of, defBody st_Course_of, defScope st_Course_of⟩
theorem sc_Course_of : FnScope ["cls", "bills", "index", "bill"] ["cls", "bills"] (defScope st_Course_of) := ⟨rfl, rfl, rfl, by decide +kernel, rfl, by decide +kernel, by decide +kernel⟩
abbrev st_Card___str__ : Stmt := (sub (top 28) 9)
def d_Card___str__ : DefP := ⟨.meth "Card" "__str__", "__str__", "Card.__str__", defArgs st_Card___str__, defBody st_Card___str__, defScope st_Card___str__⟩
theorem sc_Card___str__ : FnScope ["self"] ["self"] (defScope st_Card___str__) := ⟨rfl, rfl, rfl, by decide +kernel, rfl, by decide +kernel, by decide +kernel⟩
abbrev st__law_draw : Stmt := (top 52)
def d__law_draw : DefP := ⟨.glob "_law_draw", "_law_draw", "_law_draw", defArgs st__law_draw, defBody st__law_draw, defScope st__law_draw⟩
theorem sc__law_draw : FnScope ["_law_pot_here", "_law_many", "_law_at", "_law_digit"] ["_law_pot_here", "_law_many"] (defScope st__law_draw) := ⟨rfl, rfl, rfl, by decide +kernel, rfl, by decide +kernel, by decide +kernel⟩
abbrev st__law_amount : Stmt := (top 54)
def d__law_amount : DefP := ⟨.glob "_law_amount", "_law_amount", "_law_amount", defArgs st__law_amount, defBody st__law_amount, defScope st__law_amount⟩
theorem sc__law_amount : FnScope ["_law_pot_here", "_law_way", "_law_high"] ["_law_pot_here"] (defScope st__law_amount) := ⟨rfl, rfl, rfl, by decide +kernel, rfl, by decide +kernel, by decide +kernel⟩
abbrev st__law_card : Stmt := (top 55)
def d__law_card : DefP := ⟨.glob "_law_card", "_law_card", "_law_card", defArgs st__law_card, defBody st__law_card, defScope st__law_card⟩
theorem sc__law_card : FnScope ["_law_pot_here", "_law_limit", "_law_days"] ["_law_pot_here"] (defScope st__law_card) := ⟨rfl, rfl, rfl, by decide +kernel, rfl, by decide +kernel, by decide +kernel⟩
abbrev st__law_worth : Stmt := (top 56)
def d__law_worth : DefP := ⟨.glob "_law_worth", "_law_worth", "_law_worth", defArgs st__law_worth, defBody st__law_worth, defScope st__law_worth⟩
theorem sc__law_worth : FnScope ["_law_pair", "_law_days"] ["_law_pair", "_law_days"] (defScope st__law_worth) := ⟨rfl, rfl, rfl, by decide +kernel, rfl, by decide +kernel, by decide +kernel⟩
abbrev st__law_power : Stmt := (top 57)
def d__law_power : DefP := ⟨.glob "_law_power", "_law_power", "_law_power", defArgs st__law_power, defBody st__law_power, defScope st__law_power⟩
theorem sc__law_power : FnScope ["_law_cards", "_law_days", "_law_pair"] ["_law_cards", "_law_days"] (defScope st__law_power) := ⟨rfl, rfl, rfl, by decide +kernel, rfl, by decide +kernel, by decide +kernel⟩
abbrev st__law_great_events : Stmt := (top 60)
def d__law_great_events : DefP := ⟨.glob "_law_great_events", "_law_great_events", "_law_great_events", defArgs st__law_great_events, defBody st__law_great_events, defScope st__law_great_events⟩
theorem sc__law_great_events : FnScope ["_law_pot_here", "_law_cards", "_law_way", "_law_comes", "_law_turn", "_law_many", "_law_sums", "_law_bills", "_law_at", "_law_events", "_law_k"] ["_law_pot_here", "_law_cards"] (defScope st__law_great_events) := ⟨rfl, rfl, rfl, by decide +kernel, rfl, by decide +kernel, by decide +kernel⟩
abbrev st__law_course : Stmt := (top 61)
def d__law_course : DefP := ⟨.glob "_law_course", "_law_course", "_law_course", defArgs st__law_course, defBody st__law_course, defScope st__law_course⟩
theorem sc__law_course : FnScope ["_law_events", "_law_event"] ["_law_events"] (defScope st__law_course) := ⟨rfl, rfl, rfl, by decide +kernel, rfl, by decide +kernel, by decide +kernel⟩
abbrev st__law_asks : Stmt := (top 58)
def d__law_asks : DefP := ⟨.glob "_law_asks", "_law_asks", "_law_asks", defArgs st__law_asks, defBody st__law_asks, defScope st__law_asks⟩
theorem sc__law_asks : FnScope ["_law_events", "_law_places", "_law_coming", "_law_bills", "_law_ahead", "_law_sets", "_law_at", "_law_best", "_law_one", "_law_height", "_law_k"] ["_law_events"] (defScope st__law_asks) := ⟨rfl, rfl, rfl, by decide +kernel, rfl, by decide +kernel, by decide +kernel⟩
abbrev st_Card___repr__ : Stmt := (sub (top 28) 10)
def d_Card___repr__ : DefP := ⟨.meth "Card" "__repr__", "__repr__", "Card.__repr__", defArgs st_Card___repr__, defBody st_Card___repr__, defScope st_Card___repr__⟩
theorem sc_Card___repr__ : FnScope ["self"] ["self"] (defScope st_Card___repr__) := ⟨rfl, rfl, rfl, by decide +kernel, rfl, by decide +kernel, by decide +kernel⟩
abbrev st__law_meets : Stmt := (top 59)
def d__law_meets : DefP := ⟨.glob "_law_meets", "_law_meets", "_law_meets", defArgs st__law_meets, defBody st__law_meets, defScope st__law_meets⟩
theorem sc__law_meets : FnScope ["_law_cards", "_law_asks_here", "_law_k"] ["_law_cards", "_law_asks_here"] (defScope st__law_meets) := ⟨rfl, rfl, rfl, by decide +kernel, rfl, by decide +kernel, by decide +kernel⟩
abbrev st__law_whole : Stmt := (top 53)
def d__law_whole : DefP := ⟨.glob "_law_whole", "_law_whole", "_law_whole", defArgs st__law_whole, defBody st__law_whole, defScope st__law_whole⟩
theorem sc__law_whole : FnScope ["_law_value"] ["_law_value"] (defScope st__law_whole) := ⟨rfl, rfl, rfl, by decide +kernel, rfl, by decide +kernel, by decide +kernel⟩
abbrev st__law_best_right : Stmt := (top 63)
def d__law_best_right : DefP := ⟨.glob "_law_best_right", "_law_best_right", "_law_best_right", defArgs st__law_best_right, defBody st__law_best_right, defScope st__law_best_right⟩
theorem sc__law_best_right : FnScope ["_law_cards", "_law_asks_here", "_law_best"] ["_law_cards", "_law_asks_here", "_law_best"] (defScope st__law_best_right) := ⟨rfl, rfl, rfl, by decide +kernel, rfl, by decide +kernel, by decide +kernel⟩
abbrev st__law_right : Stmt := (top 64)
def d__law_right : DefP := ⟨.glob "_law_right", "_law_right", "_law_right", defArgs st__law_right, defBody st__law_right, defScope st__law_right⟩
theorem sc__law_right : FnScope ["_law_pot_here", "_law_cards", "_law_events", "_law_names", "_law_asks_here", "_law_box", "_law_task", "_law_told", "_law_k"] ["_law_pot_here"] (defScope st__law_right) := ⟨rfl, rfl, rfl, by decide +kernel, rfl, by decide +kernel, by decide +kernel⟩
abbrev st__law_pot : Stmt := (top 51)
def d__law_pot : DefP := ⟨.glob "_law_pot", "_law_pot", "_law_pot", defArgs st__law_pot, defBody st__law_pot, defScope st__law_pot⟩
theorem sc__law_pot : FnScope ["_law_cells", "_law_k", "_law_cell", "_law_other", "_law_digits"] ["_law_cells", "_law_k"] (defScope st__law_pot) := ⟨rfl, rfl, rfl, by decide +kernel, rfl, by decide +kernel, by decide +kernel⟩
abbrev st_law : Stmt := (top 65)
def d_law : DefP := ⟨.glob "law", "law", "law", defArgs st_law, defBody st_law, defScope st_law⟩
theorem sc_law : FnScope ["_law_cells", "_law_box", "_law_k"] ["_law_cells"] (defScope st_law) := ⟨rfl, rfl, rfl, by decide +kernel, rfl, by decide +kernel, by decide +kernel⟩
def fa : List Ft := [
  .isi cs,
  .b (.free "tuple"),
  .b (.free "isinstance"),
  .b (.free "enumerate"),
  .b (.free "len"),
  .b (.int "MOST_CARDS" 12),
  .b (.free "str"),
  .b (.int "LONGEST_NAME" 8),
  .b (.str "LETTERS" "abcdefghijklmnopqrstuvwxyz"),
  .b (.str "DIGITS" "0123456789"),
  .b (.free "all"),
  .b (.glo "is_name"),
  .b (.glo "Card"),
  .b (.glo "wrong_pair"),
  .b (.noat "Wallet" "pairs"),
  .b (.cls "Wallet"),
  .b (.mkr "Wallet"),
  .b (.free "range"),
  .b (.free "int"),
  .b (.free "bool"),
  .b (.glo "is_integer"),
  .b (.glo "is_natural"),
  .b (.int "MOST_DAYS" 24),
  .b (.noat "Card" "held"),
  .b (.cls "Card"),
  .b (.noat "Card" "daily"),
  .b (.mkr "Card"),
  .b (.glo "Wallet"),
  .b (.glo "_law_purse"),
  .b (.glo "check_wallet"),
  .b (.glo "Course"),
  .b (.glo "check_course"),
  .b (.free "min"),
  .b (.glo "worth"),
  .b (.free "sum"),
  .b (.free "zip"),
  .b (.free "max"),
  .b (.free "list"),
  .b (.free "reversed"),
  .prop "Card" "limit",
  .prop "Card" "balance",
  .b (.glo "asked_sets"),
  .b (.noat "Course" "passed"),
  .b (.cls "Course"),
  .prop "Course" "events",
  .b (.glo "asked"),
  .prop "Wallet" "cards",
  .b (.glo "amounts_of"),
  .b (.glo "lacking"),
  .b (.glo "upward"),
  .b (.int "MOST_BILLS" 12),
  .b (.int "MOST_COMING" 6),
  .b (.glo "wrong_event"),
  .b (.mkr "Course"),
  .clsm "Course" "of",
  .b (.glo "least_card"),
  .raw (ownB "Card" "__str__"),
  .b (.free "divmod"),
  .b (.glo "_law_draw"),
  .b (.glo "_law_amount"),
  .b (.glo "_law_card"),
  .b (.glo "_law_worth"),
  .b (.glo "_law_power"),
  .b (.glo "_law_great_events"),
  .b (.glo "_law_course"),
  .b (.free "sorted"),
  .b (.glo "_law_asks"),
  .raw (ownB "Card" "__repr__"),
  .b (.free "repr"),
  .b (.glo "_law_meets"),
  .b (.glo "_law_whole"),
  .b (.glo "_law_best_right"),
  .b (.free "abs"),
  .b (.glo "_law_pot"),
  .b (.glo "_law_right"),
  .b (.glo "law"),
  .raw noListsB]
def fn : List DefP := [d_is_name, d_wrong_pair, d_Wallet___init__, d_is_integer, d_is_natural, d_Card___init__, d__law_purse, d_check_wallet, d_check_course, d_worth, d_lacking, d_Card_limit, d_Card_balance, d_asked_sets, d_asked, d_Course_events, d_Wallet_cards, d_amounts_of, d_upward, d_least_card, d_wrong_event, d_Course___init__, d_Course_of, d_Card___str__, d__law_draw, d__law_amount, d__law_card, d__law_worth, d__law_power, d__law_great_events, d__law_course, d__law_asks, d_Card___repr__, d__law_meets, d__law_whole, d__law_best_right, d__law_right, d__law_pot, d_law]
end G48
set_option maxHeartbeats 0
namespace G48
open PySem PySem.Spec PyProof.Rows L2 Mi He
abbrev RR : PySem.W.OpenRow := PySem.W.OpenLaw.row PySem.Challenge.rw_sparepay_k48_least_cards_of_great_number
def loose : List Str := [("_wall" : Str), ("WrongValue" : Str), ("InvalidText" : Str), ("InvalidAmount" : Str), ("NotAWallet" : Str), ("NotACourse" : Str), ("InvalidCards" : Str), ("InvalidEvents" : Str), ("WrongName" : Str), ("UnknownName" : Str), ("InUse" : Str), ("NoAnswer" : Str), ("Full" : Str), ("MOST_CARDS" : Str), ("MOST_DAYS" : Str), ("MOST_BILLS" : Str), ("MOST_COMING" : Str), ("DIGITS" : Str), ("LETTERS" : Str), ("LONGEST_NAME" : Str), ("is_integer" : Str), ("is_natural" : Str), ("is_name" : Str), ("number_of" : Str), ("worth" : Str), ("Card" : Str), ("card_of" : Str), ("wrong_pair" : Str), ("Wallet" : Str), ("pair_of" : Str), ("wallet_of" : Str), ("check_wallet" : Str), ("check_room" : Str), ("asked_sets" : Str), ("asked" : Str), ("wrong_event" : Str), ("event_of" : Str), ("Course" : Str), ("course_of" : Str), ("check_course" : Str), ("amounts_of" : Str), ("lacking" : Str), ("upward" : Str), ("least_card" : Str), ("_law_pot" : Str), ("_law_draw" : Str), ("_law_whole" : Str), ("_law_amount" : Str), ("_law_card" : Str), ("_law_worth" : Str), ("_law_power" : Str), ("_law_asks" : Str), ("_law_meets" : Str), ("_law_great_events" : Str), ("_law_course" : Str), ("_law_purse" : Str), ("_law_best_right" : Str), ("_law_right" : Str)]
abbrev hk : PySem.W.Hook := hookP 5 fa fn
def ob (s : PySem.W.SharedT) : AlP := obsPG 5 fa fn (HandSHeadRun.getT s)
theorem ob_eq (s : PySem.W.SharedT) : ob s = hk.obs s.abs := obsPG_eq (HandSHeadRun.getT_eq s)
def fb : List Ft := []
def fm : List DefP := []
def fa1 : List Ft := fa.take 45
def fa2 : List Ft := fa.drop 45
def fn1 : List DefP := fn.take 25
def fn2 : List DefP := fn.drop 25
open PySem PySem.W PySem.Calls PyProof.Rows HandSHeadRun in
theorem run1 (w : World) (os : OsState) : (HandSHeadRun.endF (HandSHeadRun.stepQ (HandSHeadRun.denQ HandSHeadRun.tabQ) RR.prog w) 20000 RR.prog w os).map (fun s => (looksF RR.prog (boot_heap w.params) s.abs, HandSHeadRun.seenQ (PySem.W.view RR.prog [65]) loose (importedModules RR.prog.main.body) (fun s => xlAt (PySem.W.view RR.prog [65]) [] s && recOk RR.toRowW.records s) s.abs)) = some (true, openGood (PySem.W.view RR.prog [65]) loose) := Hop.map_ok (by kernel_rfl)
open PySem PySem.W PySem.Calls PyProof.Rows HandSHeadRun in
theorem run3 (w : World) (os : OsState) : (HandSHeadRun.endF (HandSHeadRun.stepQ (HandSHeadRun.denQ HandSHeadRun.tabQ) RR.prog w) 20000 RR.prog w os).map (fun s => obsPG 5 fa1 fm (HandSHeadRun.getT s)) = some (valP fm) := Hop.map_ok (by kernel_rfl)
open PySem PySem.W PySem.Calls PyProof.Rows HandSHeadRun in
theorem run4 (w : World) (os : OsState) : (HandSHeadRun.endF (HandSHeadRun.stepQ (HandSHeadRun.denQ HandSHeadRun.tabQ) RR.prog w) 20000 RR.prog w os).map (fun s => obsPG 5 fa2 fm (HandSHeadRun.getT s)) = some (valP fm) := Hop.map_ok (by kernel_rfl)
open PySem PySem.W PySem.Calls PyProof.Rows HandSHeadRun in
theorem run5 (w : World) (os : OsState) : (HandSHeadRun.endF (HandSHeadRun.stepQ (HandSHeadRun.denQ HandSHeadRun.tabQ) RR.prog w) 20000 RR.prog w os).map (fun s => obsPG 5 fb fn1 (HandSHeadRun.getT s)) = some (valP fn1) := Hop.map_ok (by kernel_rfl)
open PySem PySem.W PySem.Calls PyProof.Rows HandSHeadRun in
theorem run6 (w : World) (os : OsState) : (HandSHeadRun.endF (HandSHeadRun.stepQ (HandSHeadRun.denQ HandSHeadRun.tabQ) RR.prog w) 20000 RR.prog w os).map (fun s => obsPG 5 fb fn2 (HandSHeadRun.getT s)) = some (valP fn2) := Hop.map_ok (by kernel_rfl)
theorem both (g : Addr → Option Obj) (h3 : obsPG 5 fa1 fm g = valP fm) (h4 : obsPG 5 fa2 fm g = valP fm) (h5 : obsPG 5 fb fn1 g = valP fn1) (h6 : obsPG 5 fb fn2 g = valP fn2) : obsPG 5 fa fn g = valP fn := by
  have efa : fa = fa1 ++ fa2 := (List.take_append_drop 45 fa).symm
  have efn : fn = fn1 ++ fn2 := (List.take_append_drop 25 fn).symm
  rw [efa, efn]
  unfold obsPG obsP valP at *
  generalize frG g (asM g 5) = K at *
  have a1 : (fa1.all fun f => f.ok K) = true := by
    have := congrArg Prod.fst h3
    simp only [Bool.and_eq_true] at this
    exact this.1
  have a2 : (fa2.all fun f => f.ok K) = true := by
    have := congrArg Prod.fst h4
    simp only [Bool.and_eq_true] at this
    exact this.1
  have b1 : (fn1.all fun d => d.ok K) = true := by
    have := congrArg Prod.fst h5
    simp only [Bool.and_eq_true] at this
    exact this.2
  have b2 : (fn2.all fun d => d.ok K) = true := by
    have := congrArg Prod.fst h6
    simp only [Bool.and_eq_true] at this
    exact this.2
  have c1 : (fn1.map fun d => fnP K (d.at_.ad K)) = fn1.map DefP.val := congrArg Prod.snd h5
  have c2 : (fn2.map fun d => fnP K (d.at_.ad K)) = fn2.map DefP.val := congrArg Prod.snd h6
  rw [List.all_append, List.all_append, List.map_append, List.map_append, a1, a2, b1, b2, c1, c2]
  rfl
theorem map3 {α β γ δ : Type} {x : Option α} {f : α → β} {g : α → γ} {h : α → δ} {a : β} {b : γ} {c : δ} (e1 : x.map (fun s => (f s, g s)) = some (a, b)) (e3 : x.map h = some c) : x.map (fun s => (f s, g s, h s)) = some (a, b, c) := by
  cases x with
  | none => cases e1
  | some s =>
    cases e3
    have e := Option.some.inj e1
    have e4 : f s = a := congrArg Prod.fst e
    have e5 : g s = b := congrArg Prod.snd e
    subst e4
    subst e5
    rfl
theorem run7 {x : Option PySem.W.SharedT} (e3 : x.map (fun s => obsPG 5 fa1 fm (HandSHeadRun.getT s)) = some (valP fm)) (e4 : x.map (fun s => obsPG 5 fa2 fm (HandSHeadRun.getT s)) = some (valP fm)) (e5 : x.map (fun s => obsPG 5 fb fn1 (HandSHeadRun.getT s)) = some (valP fn1)) (e6 : x.map (fun s => obsPG 5 fb fn2 (HandSHeadRun.getT s)) = some (valP fn2)) : x.map (fun s => ob s) = some (valP fn) := by
  cases x with
  | none => cases e3
  | some s => exact congrArg some (both _ (Option.some.inj e3) (Option.some.inj e4) (Option.some.inj e5) (Option.some.inj e6))
theorem run (w : World) : HandSHeadRun.RunEq RR (PySem.W.view RR.prog [65]) hk ob 20000 loose w := fun os => map3 (run1 w os) (run7 (run3 w os) (run4 w os) (run5 w os) (run6 w os))
end G48
set_option maxHeartbeats 4000000

set_option Elab.async false
set_option linter.all false
set_option maxRecDepth 100000
set_option maxHeartbeats 4000000
/-! MiW: what a mirror gives, told by its parts. -/
namespace Mi
open PySem L2
def Ok {α : Type} (m : M α) (u : PuS) (P : α → PuS → Prop) : Prop := ∃ a u', m u = some (a, u') ∧ P a u'
/-- a branch -/
def Br (b : Bool) (P Q : Prop) : Prop := if b = true then P else Q
@[simp] theorem br_t {P Q : Prop} : Br true P Q ↔ P := by unfold Br; simp
@[simp] theorem br_f {P Q : Prop} : Br false P Q ↔ Q := by unfold Br; simp
@[simp] theorem br_n {b : Bool} {P Q : Prop} : Br (!b) P Q ↔ Br b Q P := by cases b <;> simp
/-- d is a truth -/
def OnB (d : D) (P : Bool → Prop) : Prop := ∃ b, d = .bl b ∧ P b
@[simp] theorem onB_bl {b : Bool} {P : Bool → Prop} : OnB (.bl b) P ↔ P b := ⟨fun ⟨_, e, h⟩ => by cases e; exact h, fun h => ⟨b, rfl, h⟩⟩
theorem brd {p : Prop} [Decidable p] {P Q : Prop} (h1 : p → P) (h2 : ¬ p → Q) : Br (decide p) P Q := by
  by_cases h : p <;> simp [h, h1, h2]
section
variable {α β : Type} {m : M α} {f : α → M β} {u u' : PuS} {a : α} {P Q : α → PuS → Prop} {R : β → PuS → Prop}
theorem Ok.mono (h : Ok m u P) (k : ∀ a u', P a u' → Q a u') : Ok m u Q := by
  obtain ⟨a, u', e, p⟩ := h
  exact ⟨a, u', e, k a u' p⟩
theorem ok_of (e : m u = some (a, u')) : Ok m u P ↔ P a u' := by
  constructor
  · rintro ⟨b, v, e2, p⟩
    rw [e] at e2
    cases e2
    exact p
  · exact fun p => ⟨a, u', e, p⟩
@[simp] theorem ok_pure : Ok (M.pure a) u P ↔ P a u := ok_of rfl
@[simp] theorem ok_bind : Ok (M.bind m f) u R ↔ Ok m u fun a u1 => Ok (f a) u1 R := by
  constructor
  · rintro ⟨b, v, e, p⟩
    obtain ⟨a, u1, e1, e2⟩ := bind_some e
    exact ⟨a, u1, e1, b, v, e2, p⟩
  · rintro ⟨a, u1, e1, b, v, e2, p⟩
    refine ⟨b, v, ?_, p⟩
    unfold M.bind
    rw [e1]
    exact e2
@[simp] theorem ok_lft {o : Option α} : Ok (lft o) u P ↔ ∃ a, o = some a ∧ P a u := by
  cases o with
  | none => constructor
            · rintro ⟨b, v, e, p⟩; cases e
            · rintro ⟨b, e, p⟩; cases e
  | some a => constructor
              · rintro ⟨b, v, e, p⟩; cases e; exact ⟨_, rfl, p⟩
              · rintro ⟨b, e, p⟩; cases e; exact ⟨_, _, rfl, p⟩
@[simp] theorem ok_lfts : Ok (lft (some a)) u P ↔ P a u := ok_of rfl
@[simp] theorem ok_none : Ok (lft (none : Option α)) u P ↔ False := by
  constructor
  · rintro ⟨b, v, e, p⟩; cases e
  · exact False.elim
@[simp] theorem ok_ite {c : Prop} [Decidable c] {m n : M α} : Ok (if c then m else n) u P ↔ if c then Ok m u P else Ok n u P := by split <;> rfl
end
section
variable {ρ : Env} {u : PuS} {P : D → PuS → Prop} {PT : Bool → PuS → Prop} {PA : List D → PuS → Prop} {PS : Fl → PuS → Prop} {m ma mb mi : ME} {t v : MT} {ms mk : MA} {i j n : Nat}
@[simp] theorem ok_var : Ok (mVar i ρ) u P ↔ ∃ d, vSh ρ i = some d ∧ P d u := ok_lft
@[simp] theorem ok_C {d : D} : Ok (mC d ρ) u P ↔ P d u := ok_pure
@[simp] theorem ok_bin {f : D → D → Option D} : Ok (mBin f ma mb ρ) u P ↔ Ok (ma ρ) u fun x u1 => Ok (mb ρ) u1 fun y u2 => ∃ z, f x y = some z ∧ P z u2 := by
  unfold mBin; simp only [ok_bind, ok_lft]
@[simp] theorem ok_un {f : D → Option D} : Ok (mUn f ma ρ) u P ↔ Ok (ma ρ) u fun x u1 => ∃ z, f x = some z ∧ P z u1 := by
  unfold mUn; simp only [ok_bind, ok_lft]
@[simp] theorem ok_CB {f : List D → Option D} : Ok (mCB f ms ρ) u P ↔ Ok (ms ρ) u fun x u1 => ∃ z, f x = some z ∧ P z u1 := by
  unfold mCB; simp only [ok_bind, ok_lft]
@[simp] theorem ok_CBO {f : List D → Option (List D)} : Ok (mCBO f ms ρ) u PA ↔ Ok (ms ρ) u fun x u1 => ∃ z, f x = some z ∧ PA z u1 := by
  unfold mCBO; simp only [ok_bind, ok_lft]
@[simp] theorem ok_Iof {f : List D → Option (List D)} : Ok (mIof f ms ρ) u PA ↔ Ok (ms ρ) u fun x u1 => ∃ z, f x = some z ∧ PA z u1 := by
  unfold mIof; simp only [ok_bind, ok_lft]
@[simp] theorem ok_nil : Ok (mNil ρ) u PA ↔ PA [] u := ok_pure
@[simp] theorem ok_cons : Ok (mCons m ms ρ) u PA ↔ Ok (m ρ) u fun x u1 => Ok (ms ρ) u1 fun xs u2 => PA (x :: xs) u2 := by
  unfold mCons; simp only [ok_bind, ok_pure]
@[simp] theorem ok_tup : Ok (mTup ms ρ) u P ↔ Ok (ms ρ) u fun xs u1 => xs.length ≤ 100000 ∧ P (.tup xs) u1 := by
  unfold mTup; simp only [ok_bind, ok_lft]
  constructor
  · refine fun h => h.mono fun a u' z => ?_
    obtain ⟨d, e, p⟩ := z
    split at e
    · cases e; exact ⟨by assumption, p⟩
    · cases e
  · refine fun h => h.mono fun a u' z => ⟨_, if_pos z.1, z.2⟩
@[simp] theorem ok_lstO : Ok (mLstO ms ρ) u PA ↔ Ok (ms ρ) u fun xs u1 => xs.length ≤ 100000 ∧ PA xs u1 := by
  unfold mLstO; simp only [ok_bind, ok_lft]
  constructor
  · refine fun h => h.mono fun a u' z => ?_
    obtain ⟨d, e, p⟩ := z
    split at e
    · cases e; exact ⟨by assumption, p⟩
    · cases e
  · refine fun h => h.mono fun a u' z => ⟨_, if_pos z.1, z.2⟩
@[simp] theorem ok_B : Ok (mB m ρ) u PT ↔ Ok (m ρ) u fun d u1 => OnB d fun b => PT b u1 := by
  unfold mB; simp only [ok_bind]
  constructor
  · refine fun h => h.mono fun a u' z => ?_
    cases a <;> first | exact ⟨_, rfl, ok_pure.mp z⟩ | exact (ok_none.mp z).elim
  · refine fun h => h.mono fun a u' z => ?_
    obtain ⟨b, rfl, p⟩ := z
    exact ok_pure.mpr p
@[simp] theorem ok_and : Ok (mAnd t v ρ) u PT ↔ Ok (t ρ) u fun b u1 => Br b (Ok (v ρ) u1 PT) (PT false u1) := by
  unfold mAnd; simp only [ok_bind, ok_ite, ok_pure, Br]
@[simp] theorem ok_or : Ok (mOr t v ρ) u PT ↔ Ok (t ρ) u fun b u1 => Br b (PT true u1) (Ok (v ρ) u1 PT) := by
  unfold mOr; simp only [ok_bind, ok_ite, ok_pure, Br]
@[simp] theorem ok_not : Ok (mNot t ρ) u PT ↔ Ok (t ρ) u fun b u1 => PT (!b) u1 := by
  unfold mNot; simp only [ok_bind, ok_pure]
@[simp] theorem ok_if : Ok (mIf t ma mb ρ) u P ↔ Ok (t ρ) u fun b u1 => Br b (Ok (ma ρ) u1 P) (Ok (mb ρ) u1 P) := by
  unfold mIf; simp only [ok_bind, ok_ite, Br]
@[simp] theorem ok_andV : Ok (mAndV ma mb ρ) u P ↔ Ok (ma ρ) u fun d u1 => OnB d fun b => Br b (Ok (mb ρ) u1 P) (P (.bl false) u1) := by
  unfold mAndV; simp only [ok_bind]
  constructor
  · refine fun h => h.mono fun a u' z => ?_
    cases a with
    | bl b => cases b <;> exact ⟨_, rfl, by simpa [ok_pure] using z⟩
    | _ => exact (ok_none.mp z).elim
  · refine fun h => h.mono fun a u' z => ?_
    obtain ⟨b, rfl, p⟩ := z
    cases b <;> simpa [ok_pure] using p
@[simp] theorem ok_orV : Ok (mOrV ma mb ρ) u P ↔ Ok (ma ρ) u fun d u1 => OnB d fun b => Br b (P (.bl true) u1) (Ok (mb ρ) u1 P) := by
  unfold mOrV; simp only [ok_bind]
  constructor
  · refine fun h => h.mono fun a u' z => ?_
    cases a with
    | bl b => cases b <;> exact ⟨_, rfl, by simpa [ok_pure] using z⟩
    | _ => exact (ok_none.mp z).elim
  · refine fun h => h.mono fun a u' z => ?_
    obtain ⟨b, rfl, p⟩ := z
    cases b <;> simpa [ok_pure] using p
@[simp] theorem ok_notV : Ok (mNotV ma ρ) u P ↔ Ok (ma ρ) u fun d u1 => OnB d fun b => P (.bl (!b)) u1 := by
  unfold mNotV; simp only [ok_bind]
  constructor
  · refine fun h => h.mono fun a u' z => ?_
    cases a with
    | bl b => exact ⟨_, rfl, by simpa [ok_pure] using z⟩
    | _ => exact (ok_none.mp z).elim
  · refine fun h => h.mono fun a u' z => ?_
    obtain ⟨b, rfl, p⟩ := z
    simpa [ok_pure] using p
@[simp] theorem ok_Fz : Ok (mFz ms ρ) u P ↔ Ok (ms ρ) u fun ds u1 => P (.lst ds) u1 := by
  unfold mFz; simp only [ok_bind, ok_pure]
@[simp] theorem ok_sl {ml mh : MO} : Ok (mSl m ml mh ρ) u P ↔ Ok (m ρ) u fun d u1 => Ok (ml ρ) u1 fun lo u2 => Ok (mh ρ) u2 fun hi u3 => ∃ z, slD d lo hi = some z ∧ P z u3 := by
  unfold mSl; simp only [ok_bind, ok_lft]
@[simp] theorem ok_On {P : Option Int → PuS → Prop} : Ok (mOn ρ) u P ↔ P none u := ok_pure
@[simp] theorem ok_Os {P : Option Int → PuS → Prop} : Ok (mOs m ρ) u P ↔ Ok (m ρ) u fun d u1 => ∃ i, d = .int i ∧ P (some i) u1 := by
  unfold mOs; simp only [ok_bind]
  constructor
  · refine fun h => h.mono fun a u' z => ?_
    cases a <;> first | exact ⟨_, rfl, ok_pure.mp z⟩ | exact (ok_none.mp z).elim
  · refine fun h => h.mono fun a u' z => ?_
    obtain ⟨b, rfl, p⟩ := z
    exact ok_pure.mpr p
@[simp] theorem ok_call {mf : List D → M D} : Ok (mCall n mf ms ρ) u P ↔ Ok (ms ρ) u fun ds u1 => ds.length = n ∧ Ok (mf ds) u1 P := by
  unfold mCall; simp only [ok_bind, ok_ite]
  constructor
  · refine fun h => h.mono fun a u' z => ?_
    split at z
    · exact ⟨by assumption, z⟩
    · exact (ok_none.mp z).elim
  · refine fun h => h.mono fun a u' z => ?_
    rw [if_pos z.1]; exact z.2
@[simp] theorem ok_callL {mf : List D → M (List D)} : Ok (mCallL n mf ms ρ) u PA ↔ Ok (ms ρ) u fun ds u1 => ds.length = n ∧ Ok (mf ds) u1 PA := by
  unfold mCallL; simp only [ok_bind, ok_ite]
  constructor
  · refine fun h => h.mono fun a u' z => ?_
    split at z
    · exact ⟨by assumption, z⟩
    · exact (ok_none.mp z).elim
  · refine fun h => h.mono fun a u' z => ?_
    rw [if_pos z.1]; exact z.2
@[simp] theorem ok_self {k : Str} {mf : List D → M D} : Ok (mSelf k mf m ρ) u P ↔ Ok (m ρ) u fun d u1 => ∃ ks ds, d = .obj k ks ds ∧ Ok (mf [.obj k ks ds]) u1 P := by
  unfold mSelf; simp only [ok_bind]
  constructor
  · refine fun h => h.mono fun a u' z => ?_
    cases a with
    | obj c ks ds =>
      simp only [ok_ite] at z
      split at z
      · rename_i h; subst h; exact ⟨_, _, rfl, z⟩
      · exact (ok_none.mp z).elim
    | _ => exact (ok_none.mp z).elim
  · refine fun h => h.mono fun a u' z => ?_
    obtain ⟨ks, ds, rfl, z⟩ := z
    simp only [ok_ite, if_true]; exact z
@[simp] theorem ok_make {k : Str} {mf : List D → M (List Str × List D)} : Ok (mMake k n mf ms ρ) u P ↔ Ok (ms ρ) u fun ds u1 => ds.length = n ∧ Ok (mf ds) u1 fun r u2 => P (.obj k r.1 r.2) u2 := by
  unfold mMake; simp only [ok_bind, ok_ite]
  constructor
  · refine fun h => h.mono fun a u' z => ?_
    split at z
    · exact ⟨by assumption, by simpa only [ok_bind, ok_pure] using z⟩
    · exact (ok_none.mp z).elim
  · refine fun h => h.mono fun a u' z => ?_
    rw [if_pos z.1]; simpa only [ok_bind, ok_pure] using z.2
@[simp] theorem ok_ixO : Ok (mIxO i mi ρ) u P ↔ Ok (mi ρ) u fun k u1 => ∃ ds j z, vOw ρ i = some ds ∧ k = .int j ∧ atI ds j = some z ∧ P z u1 := by
  unfold mIxO; simp only [ok_bind, ok_lft]
  constructor
  · refine fun h => h.mono fun a u' z => ?_
    obtain ⟨ds, e, d, e2, p⟩ := z
    cases a <;> first | exact ⟨ds, _, d, e, rfl, e2, p⟩ | cases e2
  · refine fun h => h.mono fun a u' z => ?_
    obtain ⟨ds, j, z, e, rfl, e2, p⟩ := z
    exact ⟨ds, e, z, e2, p⟩
@[simp] theorem ok_Iany : Ok (mIany m ρ) u PA ↔ Ok (m ρ) u fun d u1 => ∃ ds, itD d = some ds ∧ PA ds u1 := by
  unfold mIany; simp only [ok_bind, ok_lft]
@[simp] theorem s_itL {ds : List D} : itD (.lst ds) = some ds := rfl
@[simp] theorem s_itT {ds : List D} : itD (.tup ds) = some ds := rfl
@[simp] theorem ok_lcO {vs : List Nat} {g : MG} {mt : MT} {me : ME} : Ok (mLcO vs ms g mt me ρ) u PA ↔ Ok (ms ρ) u fun ds u1 => ds.length ≤ 100000 ∧ Ok (lcD g mt me (wipeE ρ vs) ds) u1 PA := by
  unfold mLcO; simp only [ok_bind, ok_ite]
  constructor
  · refine fun h => h.mono fun a u' z => ?_
    split at z
    · exact ⟨by assumption, z⟩
    · exact (ok_none.mp z).elim
  · refine fun h => h.mono fun a u' z => ?_
    rw [if_pos z.1]; exact z.2
@[simp] theorem ok_borT : Ok (mBorT i t ρ) u PT ↔ Ok (t (frz i ρ)) u PT := Iff.rfl
@[simp] theorem ok_borL : Ok (mBorL i ms ρ) u PA ↔ Ok (ms (frz i ρ)) u fun d u1 => noLsts d = true ∧ PA d u1 := by
  unfold mBorL; simp only [ok_bind, ok_lft]
  constructor
  · refine fun h => h.mono fun a u' z => ?_
    obtain ⟨d, e, p⟩ := z
    split at e
    · cases e; exact ⟨by assumption, p⟩
    · cases e
  · refine fun h => h.mono fun a u' z => ⟨_, if_pos z.1, z.2⟩
@[simp] theorem ok_ixP : Ok (mIxP i mi ρ) u P ↔ Ok (mi ρ) u fun k u1 => ∃ d, vSh ρ i = some d ∧ Ok (getP d k) u1 P := by
  unfold mIxP; simp only [ok_bind, ok_lft]
/-! statements -/
@[simp] theorem ok_next : Ok (mNext ρ) u PS ↔ PS (.nx ρ) u := ok_pure
@[simp] theorem ok_seq {m n : MS} : Ok (mSeq m n ρ) u PS ↔ Ok (m ρ) u fun f u1 => match f with
    | .nx ρ1 => Ok (n ρ1) u1 PS
    | f' => PS f' u1 := by
  unfold mSeq; simp only [ok_bind]
  constructor
  · refine fun h => h.mono fun f u' z => ?_
    cases f <;> first | exact z | exact ok_pure.mp z
  · refine fun h => h.mono fun f u' z => ?_
    cases f <;> first | exact z | exact ok_pure.mpr z
@[simp] theorem ok_drop : Ok (mDrop m ρ) u PS ↔ Ok (m ρ) u fun _ u1 => PS (.nx ρ) u1 := by unfold mDrop; simp only [ok_bind, ok_pure]
@[simp] theorem ok_ret : Ok (mRet m ρ) u PS ↔ Ok (m ρ) u fun d u1 => PS (.rt d) u1 := by unfold mRet; simp only [ok_bind, ok_pure]
@[simp] theorem ok_retL : Ok (mRetL ms ρ) u PS ↔ Ok (ms ρ) u fun d u1 => PS (.rl d) u1 := by unfold mRetL; simp only [ok_bind, ok_pure]
@[simp] theorem ok_ifS {m n : MS} : Ok (mIfS t m n ρ) u PS ↔ Ok (t ρ) u fun b u1 => Br b (Ok (m ρ) u1 PS) (Ok (n ρ) u1 PS) := by unfold mIfS; simp only [ok_bind, ok_ite, Br]
@[simp] theorem ok_set : Ok (mSet i m ρ) u PS ↔ Ok (m ρ) u fun d u1 => PS (.nx (ρ.set i (.sh d))) u1 := by unfold mSet; simp only [ok_bind, ok_pure]
@[simp] theorem ok_setO : Ok (mSetO i ms ρ) u PS ↔ Ok (ms ρ) u fun d u1 => PS (.nx (ρ.set i (.ow d))) u1 := by unfold mSetO; simp only [ok_bind, ok_pure]
@[simp] theorem ok_stuck : Ok (mStuck ρ) u PS ↔ False := ok_none
@[simp] theorem ok_for {g : MG} {mb : MS} : Ok (mFor ms g mb ρ) u PS ↔ Ok (ms ρ) u fun ds u1 => Ok (loopD g mb ds ρ) u1 PS := by unfold mFor; simp only [ok_bind]
@[simp] theorem ok_app : Ok (mApp i m ρ) u PS ↔ Ok (m ρ) u fun d u1 => ∃ ds, vOw ρ i = some ds ∧ ds.length < 100000 ∧ PS (.nx (ρ.set i (.ow (ds ++ [d])))) u1 := by
  unfold mApp; simp only [ok_bind, ok_lft, ok_pure]
  constructor
  · refine fun h => h.mono fun f u' z => ?_
    obtain ⟨ds, e, _, e2, p⟩ := z
    split at e2
    · exact ⟨ds, e, by assumption, p⟩
    · cases e2
  · refine fun h => h.mono fun f u' z => ?_
    obtain ⟨ds, e, e2, p⟩ := z
    exact ⟨ds, e, (), if_pos e2, p⟩
@[simp] theorem ok_put {mv : ME} : Ok (mPut i mv mi ρ) u PS ↔ Ok (mv ρ) u fun d u1 => Ok (mi ρ) u1 fun k u2 => ∃ ds j n, vOw ρ i = some ds ∧ k = .int j ∧ ixN ds.length j = some n ∧ PS (.nx (ρ.set i (.ow (ds.set n d)))) u2 := by
  unfold mPut; simp only [ok_bind, ok_lft, ok_pure]
  constructor
  · refine fun h => h.mono fun f u' z => z.mono fun k u2 z => ?_
    obtain ⟨ds, e, n, e2, p⟩ := z
    cases k <;> first | exact ⟨ds, _, n, e, rfl, e2, p⟩ | cases e2
  · refine fun h => h.mono fun f u' z => z.mono fun k u2 z => ?_
    obtain ⟨ds, j, n, e, rfl, e2, p⟩ := z
    exact ⟨ds, e, n, e2, p⟩
@[simp] theorem ok_putP {mv : ME} : Ok (mPutP i mv mi ρ) u PS ↔ Ok (mv ρ) u fun v u1 => Ok (mi ρ) u1 fun k u2 => ∃ d, vSh ρ i = some d ∧ Ok (putP d k v) u2 fun _ u3 => PS (.nx ρ) u3 := by
  unfold mPutP; simp only [ok_bind, ok_lft, ok_pure]
@[simp] theorem ok_frz {m : MS} : Ok (mFrz i m ρ) u PS ↔ Ok (m (frz i ρ)) u PS := Iff.rfl
@[simp] theorem ok_asg {g : MG} : Ok (mAsg m g ρ) u PS ↔ Ok (m ρ) u fun d u1 => ∃ ρ1, g d ρ = some ρ1 ∧ PS (.nx ρ1) u1 := by
  unfold mAsg; simp only [ok_bind, ok_lft]
  constructor
  · refine fun h => h.mono fun f u' z => ?_
    obtain ⟨a, e, p⟩ := z
    cases e1 : g f ρ with
    | none => rw [e1] at e; cases e
    | some r => rw [e1] at e; cases e; exact ⟨r, rfl, p⟩
  · refine fun h => h.mono fun f u' z => ?_
    obtain ⟨a, e, p⟩ := z
    exact ⟨_, by rw [e]; rfl, p⟩
@[simp] theorem ok_Mnil {P : List Sd → PuS → Prop} : Ok (mMnil ρ) u P ↔ P [] u := ok_pure
@[simp] theorem ok_Msh {mm : MM} {P : List Sd → PuS → Prop} : Ok (mMsh m mm ρ) u P ↔ Ok (m ρ) u fun d u1 => Ok (mm ρ) u1 fun ds u2 => P (.sh d :: ds) u2 := by unfold mMsh; simp only [ok_bind, ok_pure]
@[simp] theorem ok_Mow {mm : MM} {P : List Sd → PuS → Prop} : Ok (mMow ms mm ρ) u P ↔ Ok (ms ρ) u fun d u1 => Ok (mm ρ) u1 fun ds u2 => P (.ow d :: ds) u2 := by unfold mMow; simp only [ok_bind, ok_pure]
@[simp] theorem ok_par {is : List Nat} {mm : MM} : Ok (mPar is mm ρ) u PS ↔ Ok (mm ρ) u fun sds u1 => sds.length = is.length ∧ PS (.nx (setAll is sds ρ)) u1 := by
  unfold mPar; simp only [ok_bind, ok_ite]
  constructor
  · refine fun h => h.mono fun f u' z => ?_
    split at z
    · exact ⟨by assumption, ok_pure.mp z⟩
    · exact (ok_none.mp z).elim
  · refine fun h => h.mono fun f u' z => ?_
    rw [if_pos z.1]; exact ok_pure.mpr z.2
@[simp] theorem ok_selfSet {ck fn : Str} : Ok (mSelfSet i ck fn m ρ) u PS ↔ Ok (m ρ) u fun d u1 => ∃ ks es, ρ[i]? = some (Sd.oi ck ks es) ∧ fn ∉ ks ∧ ks.length < 900 ∧ PS (.nx (ρ.set i (.oi ck (ks ++ [fn]) (es ++ [d])))) u1 := by
  unfold mSelfSet; simp only [ok_bind, ok_lft, ok_pure]
  constructor
  · refine fun h => h.mono fun f u' z => ?_
    obtain ⟨q, e, p⟩ := z
    split at e
    · split at e
      · rename_i e0 hh
        obtain ⟨rfl, h1, h2⟩ := hh
        cases e
        exact ⟨_, _, e0, h1, h2, p⟩
      · cases e
    · cases e
  · refine fun h => h.mono fun f u' z => ?_
    obtain ⟨ks, es, e, h1, h2, p⟩ := z
    exact ⟨(ks, es), by rw [e]; exact if_pos ⟨rfl, h1, h2⟩, p⟩
@[simp] theorem ok_fn {n : Nat} {mb : MS} {ds : List D} : Ok (mFn n mb ds) u P ↔ Ok (mb (startE n ds)) u fun f u1 => match f with
    | .rt d => P d u1
    | .nx _ => P .non u1
    | _ => False := by
  constructor
  · rintro ⟨a, u', e, p⟩
    unfold mFn at e
    cases e1 : mb (startE n ds) u with
    | none => rw [e1] at e; cases e
    | some y =>
      obtain ⟨f, u1⟩ := y
      rw [e1] at e
      cases f <;> first | (cases e; exact ⟨_, _, e1, p⟩) | cases e
  · rintro ⟨f, u1, e, p⟩
    cases f <;> first | exact ⟨_, u1, by unfold mFn; rw [e], p⟩ | exact False.elim p
@[simp] theorem ok_fnL {n : Nat} {mb : MS} {ds : List D} : Ok (mFnL n mb ds) u PA ↔ Ok (mb (startE n ds)) u fun f u1 => match f with
    | .rl d => PA d u1
    | _ => False := by
  constructor
  · rintro ⟨a, u', e, p⟩
    unfold mFnL at e
    cases e1 : mb (startE n ds) u with
    | none => rw [e1] at e; cases e
    | some y =>
      obtain ⟨f, u1⟩ := y
      rw [e1] at e
      cases f <;> first | (cases e; exact ⟨_, _, e1, p⟩) | cases e
  · rintro ⟨f, u1, e, p⟩
    cases f <;> first | exact ⟨_, u1, by unfold mFnL; rw [e], p⟩ | exact False.elim p
@[simp] theorem ok_init {n : Nat} {ck : Str} {mb : MS} {ds : List D} {P : List Str × List D → PuS → Prop} : Ok (mInit n ck mb ds) u P ↔ Ok (mb (startI n ck ds)) u fun f u1 => match f with
    | .nx ρ' => ∃ ks es, ρ'[0]? = some (Sd.oi ck ks es) ∧ P (ks, es) u1
    | _ => False := by
  constructor
  · rintro ⟨a, u', e, p⟩
    unfold mInit at e
    cases e1 : mb (startI n ck ds) u with
    | none => rw [e1] at e; cases e
    | some y =>
      obtain ⟨f, u1⟩ := y
      rw [e1] at e
      cases f with
      | nx ρ' =>
        refine ⟨_, _, e1, ?_⟩
        have e' : (match (ρ'[0]? : Option Sd) with
          | some (Sd.oi k ks es) => if k = ck then some ((ks, es), u1) else none
          | _ => none) = some (a, u') := e
        split at e'
        · rename_i e0
          split at e'
          · rename_i hk
            subst hk
            cases e'
            exact ⟨_, _, e0, p⟩
          · cases e'
        · cases e'
      | _ => cases e
  · rintro ⟨f, u1, e, p⟩
    cases f with
    | nx ρ' =>
      obtain ⟨ks, es, e0, p⟩ := p
      refine ⟨(ks, es), u1, ?_, p⟩
      unfold mInit
      rw [e]
      show (match (ρ'[0]? : Option Sd) with
          | some (Sd.oi k ks es) => if k = ck then some ((ks, es), u1) else none
          | _ => none) = _
      rw [e0]
      exact if_pos rfl
    | _ => exact False.elim p
end
/-! loops -/
theorem ok_loop {g : MG} {mb : MS} {P : Fl → PuS → Prop} (Inv : List D → Env → PuS → Prop)
    (step : ∀ d ds ρ u, Inv (d :: ds) ρ u → ∃ ρ1, g d ρ = some ρ1 ∧ Ok (mb ρ1) u fun f u' => match f with
      | .nx ρ2 => Inv ds ρ2 u'
      | .ct ρ2 => Inv ds ρ2 u'
      | .bk ρ2 => P (.nx ρ2) u'
      | .rt d => P (.rt d) u'
      | .rl d => P (.rl d) u')
    (stop : ∀ ρ u, Inv [] ρ u → P (.nx ρ) u) : ∀ (ds : List D) (ρ : Env) (u : PuS), Inv ds ρ u → Ok (loopD g mb ds ρ) u P
  | [], ρ, u, h => ok_pure.mpr (stop ρ u h)
  | d :: ds, ρ, u, h => by
    obtain ⟨ρ1, e, h1⟩ := step d ds ρ u h
    unfold loopD
    rw [ok_bind, ok_lft]
    refine ⟨ρ1, e, ?_⟩
    rw [ok_bind]
    refine h1.mono fun f u' z => ?_
    cases f with
    | nx ρ2 => exact ok_loop Inv step stop ds ρ2 u' z
    | ct ρ2 => exact ok_loop Inv step stop ds ρ2 u' z
    | bk ρ2 => exact ok_pure.mpr z
    | rt d => exact ok_pure.mpr z
    | rl d => exact ok_pure.mpr z
/-- a comprehension that draws: each element has E, the state keeps I -/
theorem ok_lc {g : MG} {mt : MT} {me : ME} {ρ : Env} (I : PuS → Prop) (E : D → Prop) : ∀ (ds : List D) (u : PuS), I u → (∀ d ∈ ds, ∀ u, I u → ∃ ρ1, g d ρ = some ρ1 ∧ Ok (mt ρ1) u fun b u1 => b = true ∧ Ok (me ρ1) u1 fun y u2 => E y ∧ I u2) →
    Ok (lcD g mt me ρ ds) u fun ys u' => (ys.length = ds.length ∧ ∀ y ∈ ys, E y) ∧ I u'
  | [], u, hu, _ => ok_pure.mpr ⟨⟨rfl, fun y hy => by cases hy⟩, hu⟩
  | d :: ds, u, hu, h => by
    obtain ⟨ρ1, e, h1⟩ := h d List.mem_cons_self u hu
    unfold lcD
    rw [ok_bind, ok_lft]
    refine ⟨ρ1, e, ?_⟩
    rw [ok_bind]
    refine h1.mono fun b u1 z => ?_
    obtain ⟨rfl, z⟩ := z
    simp only [if_true, ok_bind]
    refine z.mono fun y u2 z2 => (ok_lc I E ds u2 z2.2 fun d hd => h d (List.mem_cons_of_mem _ hd)).mono fun ys u3 z3 => ?_
    rw [ok_pure]
    refine ⟨⟨by simp [z3.1.1], fun x hx => ?_⟩, z3.2⟩
    rcases List.mem_cons.mp hx with rfl | hx
    · exact z2.1
    · exact z3.1.2 x hx
theorem ok_list {g : MG} {mb : MS} {P : Fl → PuS → Prop} (xs : List D) (Inv : Nat → Env → PuS → Prop)
    (step : ∀ k d ρ u, xs[k]? = some d → Inv k ρ u → ∃ ρ1, g d ρ = some ρ1 ∧ Ok (mb ρ1) u fun f u' => match f with
      | .nx ρ2 => Inv (k + 1) ρ2 u'
      | .ct ρ2 => Inv (k + 1) ρ2 u'
      | .bk ρ2 => P (.nx ρ2) u'
      | .rt d => P (.rt d) u'
      | .rl d => P (.rl d) u')
    (stop : ∀ ρ u, Inv xs.length ρ u → P (.nx ρ) u) (ρ : Env) (u : PuS) (h : Inv 0 ρ u) : Ok (loopD g mb xs ρ) u P := by
  refine ok_loop (fun ds ρ u => ∃ k, k ≤ xs.length ∧ ds = xs.drop k ∧ Inv k ρ u) ?_ ?_ _ ρ u ⟨0, Nat.zero_le _, rfl, h⟩
  · rintro d ds ρ u ⟨k, hk, e, hi⟩
    have hkn : k < xs.length := by
      rcases Nat.lt_or_ge k xs.length with z | z
      · exact z
      · rw [List.drop_eq_nil_of_le z] at e; cases e
    rw [List.drop_eq_getElem_cons hkn] at e
    obtain ⟨e1, e2⟩ := List.cons.inj e
    obtain ⟨ρ1, e4, h1⟩ := step k d ρ u (by rw [e1]; exact List.getElem?_eq_getElem hkn) hi
    refine ⟨ρ1, e4, h1.mono fun f u' z => ?_⟩
    cases f with
    | nx ρ2 => exact ⟨k + 1, hkn, e2, z⟩
    | ct ρ2 => exact ⟨k + 1, hkn, e2, z⟩
    | _ => exact z
  · rintro ρ u ⟨k, hk, e, hi⟩
    have hkn : k = xs.length := by
      have := congrArg List.length e
      simp at this
      omega
    subst hkn
    exact stop ρ u hi
theorem eq_of_ok {α : Type} {m : M α} {u : PuS} {a : α} (h : Ok m u fun b u' => b = a ∧ u' = u) : m u = some (a, u) := by
  obtain ⟨b, u', e, rfl, rfl⟩ := h
  exact e
theorem lc_is {g : MG} {mt : MT} {me : ME} {ρ : Env} {u : PuS} {f : Nat → D} {r : Nat → Env} {t : Nat → Bool} {e : Nat → D} : ∀ (is : List Nat), (∀ i ∈ is, g (f i) ρ = some (r i)) → (∀ i ∈ is, Ok (mt (r i)) u fun b u' => b = t i ∧ u' = u) →
    (∀ i ∈ is, t i = true → Ok (me (r i)) u fun b u' => b = e i ∧ u' = u) → lcD g mt me ρ (is.map f) u = some ((is.filter t).map e, u)
  | [], _, _, _ => rfl
  | i :: is, h1, h2, h3 => by
    have ih := lc_is is (fun x hx => h1 x (List.mem_cons_of_mem _ hx)) (fun x hx => h2 x (List.mem_cons_of_mem _ hx)) (fun x hx => h3 x (List.mem_cons_of_mem _ hx))
    refine eq_of_ok ?_
    rw [List.map_cons]
    unfold lcD
    rw [ok_bind, ok_lft]
    refine ⟨_, h1 i List.mem_cons_self, ?_⟩
    rw [ok_bind, ok_of (eq_of_ok (h2 i List.mem_cons_self))]
    cases ht : t i with
    | false =>
      rw [if_neg (by decide), ok_of ih]
      simp [ht]
    | true =>
      rw [if_pos rfl, ok_bind, ok_of (eq_of_ok (h3 i List.mem_cons_self ht)), ok_bind, ok_of ih, ok_pure]
      simp [ht]
/-- a comprehension over a range that draws nothing -/
theorem ok_lcr {g : MG} {mt : MT} {me : ME} {ρ : Env} {u : PuS} {lo : Int} {n : Nat} (r : Nat → Env) (t : Nat → Bool) (e : Nat → D) {P : List D → PuS → Prop} (h1 : ∀ i, i < n → g (.int (lo + (i : Nat))) ρ = some (r i)) (h2 : ∀ i, i < n → Ok (mt (r i)) u fun b u' => b = t i ∧ u' = u)
    (h3 : ∀ i, i < n → t i = true → Ok (me (r i)) u fun b u' => b = e i ∧ u' = u) (h : P (((List.range n).filter t).map e) u) : Ok (lcD g mt me ρ (rngD lo n)) u P := by
  have := lc_is (g := g) (mt := mt) (me := me) (ρ := ρ) (u := u) (f := fun i => D.int (lo + (i : Nat))) (r := r) (t := t) (e := e) (List.range n) (fun i hi => h1 i (List.mem_range.mp hi)) (fun i hi => h2 i (List.mem_range.mp hi)) (fun i hi => h3 i (List.mem_range.mp hi))
  exact (ok_of this).mpr h
/-- .. over a list -/
theorem ok_lcl {g : MG} {mt : MT} {me : ME} {ρ : Env} {u : PuS} {xs : List Int} (r : Int → Env) (t : Int → Bool) (e : Int → D) {P : List D → PuS → Prop} (h1 : ∀ x ∈ xs, g (.int x) ρ = some (r x)) (h2 : ∀ x ∈ xs, Ok (mt (r x)) u fun b u' => b = t x ∧ u' = u)
    (h3 : ∀ x ∈ xs, t x = true → Ok (me (r x)) u fun b u' => b = e x ∧ u' = u) (h : P ((xs.filter t).map e) u) : Ok (lcD g mt me ρ (xs.map D.int)) u P := by
  have : lcD g mt me ρ (xs.map D.int) u = some ((xs.filter t).map e, u) := by
    clear h
    induction xs with
    | nil => rfl
    | cons x xs ih =>
      have ih := ih (fun y hy => h1 y (List.mem_cons_of_mem _ hy)) (fun y hy => h2 y (List.mem_cons_of_mem _ hy)) (fun y hy => h3 y (List.mem_cons_of_mem _ hy))
      refine eq_of_ok ?_
      rw [List.map_cons]
      unfold lcD
      rw [ok_bind, ok_lft]
      refine ⟨_, h1 x List.mem_cons_self, ?_⟩
      rw [ok_bind, ok_of (eq_of_ok (h2 x List.mem_cons_self))]
      cases ht : t x with
      | false =>
        rw [if_neg (by decide), ok_of ih]
        simp [ht]
      | true =>
        rw [if_pos rfl, ok_bind, ok_of (eq_of_ok (h3 x List.mem_cons_self ht)), ok_bind, ok_of ih, ok_pure]
        simp [ht]
  exact (ok_of this).mpr h
theorem ok_with {mf : List D → M D} {ml : MA} {ρ : Env} {u : PuS} {P : D → PuS → Prop} (b : Bool) (h : Ok (ml ρ) u fun ds u1 => ∃ (l : List Int), ds = l.map D.int ∧ (Ok (mf [.pur]) (.real l) fun d _ => d = .bl b) ∧ P (.bl b) u1) : Ok (mWith mf ml ρ) u P := by
  unfold mWith
  rw [ok_bind]
  refine h.mono fun ds u1 z => ?_
  obtain ⟨l, rfl, ⟨d, u2, e, rfl⟩, p⟩ := z
  rw [ok_lft]
  refine ⟨.bl b, ?_, p⟩
  rw [intsD_map]
  show (match mf [.pur] (.real l) with
    | some (.bl b, _) => some (D.bl b)
    | _ => none) = _
  rw [e]
@[simp] theorem ok_yes {ρ : Env} {u : PuS} {P : Bool → PuS → Prop} : Ok (mYes ρ) u P ↔ P true u := ok_pure
@[simp] theorem ex_two {α β : Type} {a : α} {b : β} {Q : α → β → Prop} : (∃ x y, (a = x ∧ b = y) ∧ Q x y) ↔ Q a b := ⟨fun ⟨_, _, ⟨e1, e2⟩, h⟩ => by rw [← e1, ← e2] at h; exact h, fun h => ⟨a, b, ⟨rfl, rfl⟩, h⟩⟩
/-! data, for simp -/
section
variable {a b i j : Int} {xs ys : List D} {x y : D}
@[simp] theorem s_add : addD (.int a) (.int b) = some (.int (a + b)) := rfl
@[simp] theorem s_sub : subD (.int a) (.int b) = some (.int (a - b)) := rfl
theorem s_mul : mulD (.int a) (.int b) = if mulC a b = true then some (.int (a * b)) else none := rfl
@[simp] theorem s_neg : negD (.int a) = some (.int (-a)) := rfl
@[simp] theorem s_lt : ltD (.int a) (.int b) = some (.bl (decide (a < b))) := rfl
@[simp] theorem s_le : leD (.int a) (.int b) = some (.bl (decide (a ≤ b))) := rfl
@[simp] theorem s_gt : gtD (.int a) (.int b) = some (.bl (decide (b < a))) := rfl
@[simp] theorem s_ge : geD (.int a) (.int b) = some (.bl (decide (b ≤ a))) := rfl
@[simp] theorem e_mul {Q : D → Prop} : (∃ z, mulD (.int a) (.int b) = some z ∧ Q z) ↔ mulC a b = true ∧ Q (.int (a * b)) := by
  rw [s_mul]
  split
  · simp [*]
  · simp [*]
@[simp] theorem mulC_iff : mulC a b = true ↔ (-18446744073709551616 < a ∧ a < 18446744073709551616 ∨ -18446744073709551616 < b ∧ b < 18446744073709551616) ∨ a.natAbs.log2 + b.natAbs.log2 < 1000000 := by
  unfold mulC
  rw [Bool.or_eq_true_iff, decide_eq_true_iff, decide_eq_true_iff]
  exact Iff.rfl
@[simp] theorem e_mod {Q : D → Prop} : (∃ z, modD (.int a) (.int b) = some z ∧ Q z) ↔ 0 < b ∧ Q (.int (a % b)) := by
  show (∃ z, (if decide (0 < b) = true then some (D.int (a % b)) else none) = some z ∧ Q z) ↔ _
  by_cases h : 0 < b <;> simp [h]
theorem log_small (h : b.natAbs < 1000000000) : b.natAbs.log2 < 30 := by
  by_cases z : b.natAbs = 0
  · rw [z]; decide
  · exact (Nat.log2_lt z).mpr (by omega)
@[simp] theorem e_fdiv {Q : D → Prop} : (∃ z, fdivD (.int a) (.int b) = some z ∧ Q z) ↔ fdivC a b = true ∧ Q (.int (a / b)) := by
  show (∃ z, (if fdivC a b = true then some (D.int (a / b)) else none) = some z ∧ Q z) ↔ _
  by_cases h : fdivC a b = true <;> simp [h]
@[simp] theorem fdivC_small (h : 0 < b ∧ b < 1000000000) : fdivC a b = true := by
  unfold fdivC
  have := log_small (b := b) (by omega)
  exact decide_eq_true ⟨h.1, by omega⟩
@[simp] theorem e_pow {Q : D → Prop} : (∃ z, powD (.int a) (.int b) = some z ∧ Q z) ↔ powC a b = true ∧ Q (.int (a ^ b.toNat)) := by
  show (∃ z, (if powC a b = true then some (D.int (a ^ b.toNat)) else none) = some z ∧ Q z) ↔ _
  by_cases h : powC a b = true <;> simp [h]
@[simp] theorem e_dm {Q : D → Prop} : (∃ z, dmD [.int a, .int b] = some z ∧ Q z) ↔ dmC a b = true ∧ Q (.tup [.int (a / b), .int (a % b)]) := by
  show (∃ z, (if dmC a b = true then some (D.tup [.int (a / b), .int (a % b)]) else none) = some z ∧ Q z) ↔ _
  by_cases h : dmC a b = true <;> simp [h]
@[simp] theorem dmC_small (h : 0 < b ∧ b < 1000000000) : dmC a b = true := by
  unfold dmC
  have := log_small (b := b) (by omega)
  have e : Builtin.divisionGoesByPylong a b = false := by
    unfold Builtin.divisionGoesByPylong
    simp only []
    have hb : ¬ ((if (b == 0) = true then 0 else b.natAbs.log2 / 30 + 1) > 300) := by
      split
      · omega
      · omega
    simp only [hb, decide_false, Bool.false_and]
  rw [e, decide_eq_true h.1]; rfl
@[simp] theorem e_rng1 {Q : List D → Prop} : (∃ z, rng1 [.int j] = some z ∧ Q z) ↔ (-100000 ≤ j ∧ j ≤ 100000) ∧ Q (rngD 0 j.toNat) := by
  show (∃ z, (if -100000 ≤ j ∧ j ≤ 100000 then some (rngD 0 j.toNat) else none) = some z ∧ Q z) ↔ _
  by_cases h : -100000 ≤ j ∧ j ≤ 100000 <;> simp [h]
@[simp] theorem e_rng2 {Q : List D → Prop} : (∃ z, rng2 [.int i, .int j] = some z ∧ Q z) ↔ ((-100000 ≤ i ∧ i ≤ 100000) ∧ -100000 ≤ j ∧ j ≤ 100000) ∧ Q (rngD i (j - i).toNat) := by
  show (∃ z, (if (-100000 ≤ i ∧ i ≤ 100000) ∧ -100000 ≤ j ∧ j ≤ 100000 then some (rngD i (j - i).toNat) else none) = some z ∧ Q z) ↔ _
  by_cases h : (-100000 ≤ i ∧ i ≤ 100000) ∧ -100000 ≤ j ∧ j ≤ 100000 <;> simp [h]
@[simp] theorem s_powC : powC a b = true ↔ 0 ≤ b ∧ b ≤ 1000000 ∧ a.natAbs < 18446744073709551616 := by unfold powC; exact decide_eq_true_iff
@[simp] theorem s_ixL : ixD (.lst xs) (.int i) = atI xs i := rfl
@[simp] theorem s_ixT : ixD (.tup xs) (.int i) = atI xs i := rfl
@[simp] theorem s_slL {lo hi : Option Int} : slD (.lst xs) lo hi = some (.lst (cutD xs lo hi)) := rfl
@[simp] theorem s_slT {lo hi : Option Int} : slD (.tup xs) lo hi = some (.tup (cutD xs lo hi)) := rfl
@[simp] theorem s_rev : revD (.lst xs) = some (.lst xs.reverse) := rfl
@[simp] theorem s_setAll2 {k l : Nat} {s t : Sd} {ρ : Env} : setAll [k, l] [s, t] ρ = (ρ.set k s).set l t := rfl
@[simp] theorem s_setAll3 {k l m : Nat} {s t r : Sd} {ρ : Env} : setAll [k, l, m] [s, t, r] ρ = ((ρ.set k s).set l t).set m r := rfl
@[simp] theorem s_wipe0 {ρ : Env} : wipeE ρ [] = ρ := rfl
@[simp] theorem s_wipe {ρ : Env} {k : Nat} {ks : List Nat} : wipeE ρ (k :: ks) = (wipeE ρ ks).set k .un := rfl
@[simp] theorem s_frz {ρ : Env} {k : Nat} : frz k ρ = match vOw ρ k with
  | some ds => ρ.set k (.sh (.lst ds))
  | none => ρ := rfl
theorem at_nat {α : Type} {l : List α} {k : Nat} {x : α} (h : l[k]? = some x) : atI l (k : Int) = some x := by
  have hk : k < l.length := (List.getElem?_eq_some_iff.mp h).1
  unfold atI ixN
  rw [if_pos (by omega), if_pos (by omega)]
  simpa using h
theorem at_last {α : Type} {l : List α} {x : α} : atI (l ++ [x]) (-1) = some x := by
  unfold atI ixN
  rw [if_neg (by omega), if_pos (by simp; omega)]
  have : ((-1 : Int) + ((l.length : Int) + 1)).toNat = l.length := by omega
  simp [this]
/-- each turn of a loop over a range -/
theorem ok_range {g : MG} {mb : MS} {P : Fl → PuS → Prop} (lo : Int) (n : Nat) (Inv : Nat → Env → PuS → Prop)
    (step : ∀ k ρ u, k < n → Inv k ρ u → ∃ ρ1, g (.int (lo + (k : Nat))) ρ = some ρ1 ∧ Ok (mb ρ1) u fun f u' => match f with
      | .nx ρ2 => Inv (k + 1) ρ2 u'
      | .ct ρ2 => Inv (k + 1) ρ2 u'
      | .bk ρ2 => P (.nx ρ2) u'
      | .rt d => P (.rt d) u'
      | .rl d => P (.rl d) u')
    (stop : ∀ ρ u, Inv n ρ u → P (.nx ρ) u) (ρ : Env) (u : PuS) (h : Inv 0 ρ u) : Ok (loopD g mb (rngD lo n) ρ) u P := by
  refine ok_loop (fun ds ρ u => ∃ k, k ≤ n ∧ ds = (rngD lo n).drop k ∧ Inv k ρ u) ?_ ?_ _ ρ u ⟨0, Nat.zero_le _, rfl, h⟩
  · rintro d ds ρ u ⟨k, hk, e, hi⟩
    have hkn : k < n := by
      rcases Nat.lt_or_ge k n with z | z
      · exact z
      · rw [List.drop_eq_nil_of_le (by rw [rngD_len]; exact z)] at e; cases e
    rw [List.drop_eq_getElem_cons (by rw [rngD_len]; exact hkn)] at e
    obtain ⟨e1, e2⟩ := List.cons.inj e
    have e3 : d = .int (lo + (k : Nat)) := by rw [e1]; simp [rngD]
    subst e3
    obtain ⟨ρ1, e4, h1⟩ := step k ρ u hkn hi
    refine ⟨ρ1, e4, h1.mono fun f u' z => ?_⟩
    cases f with
    | nx ρ2 => exact ⟨k + 1, hkn, e2, z⟩
    | ct ρ2 => exact ⟨k + 1, hkn, e2, z⟩
    | _ => exact z
  · rintro ρ u ⟨k, hk, e, hi⟩
    have hkn : k = n := by
      have := congrArg List.length e
      simp [rngD_len] at this
      omega
    subst hkn
    exact stop ρ u hi
theorem toPDs_ints (ns : List Int) : toPDs (ns.map D.int) = some (ns.map PyData.int) := by
  induction ns with
  | nil => rfl
  | cons n ns ih =>
    show (match toPD (.int n), toPDs (ns.map D.int) with
      | some a, some b => some (a :: b)
      | _, _ => none) = _
    rw [ih]; rfl
theorem lay_ints (ns : List Int) : PyData.canLayAll0 (ns.map PyData.int) = true := by
  induction ns with
  | nil => rfl
  | cons n ns ih => show (true && _) = true; rw [ih]; rfl
theorem depth_ints (ns : List Int) : PyData.depthAll (ns.map PyData.int) = 0 := by
  induction ns with
  | nil => rfl
  | cons n ns ih => show max 0 (PyData.depthAll (ns.map PyData.int)) = 0; rw [ih]; rfl
theorem eqv_ints : ∀ (xs ys : List Int), PyData.eqvAll (xs.map PyData.int) (ys.map PyData.int) = decide (xs = ys)
  | [], [] => rfl
  | [], _ :: _ => rfl
  | _ :: _, [] => rfl
  | x :: xs, y :: ys => by
    show ((x == y) && PyData.eqvAll (xs.map PyData.int) (ys.map PyData.int)) = _
    rw [eqv_ints xs ys]
    by_cases h : x = y <;> by_cases h2 : xs = ys <;> simp [h, h2]
theorem eq_tups (xs ys : List Int) : eqD (.tup (xs.map D.int)) (.tup (ys.map D.int)) = some (decide (xs = ys)) := by
  have e : ∀ zs : List Int, toPD (.tup (zs.map D.int)) = some (.tuple (zs.map PyData.int)) := fun zs => by
    show (toPDs (zs.map D.int)).map PyData.tuple = _
    rw [toPDs_ints]; rfl
  have sh : ∀ zs : List Int, SeqAt.shaped (.tuple (zs.map PyData.int)) = true := fun zs => by
    show (PyData.canLayAll0 (zs.map PyData.int) && decide (PyData.depthAll (zs.map PyData.int) + 1 ≤ 64)) = true
    rw [lay_ints, depth_ints]; rfl
  unfold eqD
  rw [e, e]
  show (if _ then some (PyData.eqvAll (xs.map PyData.int) (ys.map PyData.int)) else none) = _
  rw [if_pos ⟨sh xs, sh ys⟩, eqv_ints]
theorem eq_lsts (xs ys : List Int) : eqD (.lst (xs.map D.int)) (.lst (ys.map D.int)) = some (decide (xs = ys)) := by
  have e : ∀ zs : List Int, toPD (.lst (zs.map D.int)) = some (.list (zs.map PyData.int)) := fun zs => by
    show (toPDs (zs.map D.int)).map PyData.list = _
    rw [toPDs_ints]; rfl
  have sh : ∀ zs : List Int, SeqAt.shaped (.list (zs.map PyData.int)) = true := fun zs => by
    show (PyData.canLayAll0 (zs.map PyData.int) && decide (PyData.depthAll (zs.map PyData.int) + 1 ≤ 64)) = true
    rw [lay_ints, depth_ints]; rfl
  unfold eqD
  rw [e, e]
  show (if _ then some (PyData.eqvAll (xs.map PyData.int) (ys.map PyData.int)) else none) = _
  rw [if_pos ⟨sh xs, sh ys⟩, eqv_ints]
@[simp] theorem s_eqT {xs ys : List Int} : eqMD (.tup (xs.map D.int)) (.tup (ys.map D.int)) = some (.bl (decide (xs = ys))) := by unfold eqMD; rw [eq_tups]; rfl
@[simp] theorem s_neT {xs ys : List Int} : neMD (.tup (xs.map D.int)) (.tup (ys.map D.int)) = some (.bl (!decide (xs = ys))) := by unfold neMD; rw [eq_tups]; rfl
@[simp] theorem s_eqL {xs ys : List Int} : eqMD (.lst (xs.map D.int)) (.lst (ys.map D.int)) = some (.bl (decide (xs = ys))) := by unfold eqMD; rw [eq_lsts]; rfl
@[simp] theorem s_neL {xs ys : List Int} : neMD (.lst (xs.map D.int)) (.lst (ys.map D.int)) = some (.bl (!decide (xs = ys))) := by unfold neMD; rw [eq_lsts]; rfl
@[simp] theorem s_eqL0 {xs : List Int} : eqMD (.lst (xs.map D.int)) (.lst []) = some (.bl (decide (xs = []))) := s_eqL (ys := [])
@[simp] theorem s_neL0 {xs : List Int} : neMD (.lst (xs.map D.int)) (.lst []) = some (.bl (!decide (xs = []))) := s_neL (ys := [])
@[simp] theorem s_eqI : eqMD (.int a) (.int b) = some (.bl (decide (a = b))) := by
  have : eqD (.int a) (.int b) = some (decide (a = b)) := by
    show (if SeqAt.shaped (.int a) = true ∧ SeqAt.shaped (.int b) = true then some (a == b) else none) = _
    rw [if_pos ⟨rfl, rfl⟩]; rfl
  unfold eqMD; rw [this]; rfl
@[simp] theorem s_neI : neMD (.int a) (.int b) = some (.bl (!decide (a = b))) := by
  have : eqD (.int a) (.int b) = some (decide (a = b)) := by
    show (if SeqAt.shaped (.int a) = true ∧ SeqAt.shaped (.int b) = true then some (a == b) else none) = _
    rw [if_pos ⟨rfl, rfl⟩]; rfl
  unfold neMD; rw [this]; rfl
theorem cut_from {xs : List D} {k : Nat} : cutD xs (some (k : Int)) none = xs.drop k := by
  unfold cutD
  rw [HT.sIx_nat, HT.sIx_none]
  rcases Nat.le_total k xs.length with h | h
  · rw [Nat.min_eq_left h]
    exact List.take_of_length_le (by simp)
  · rw [Nat.min_eq_right h, List.drop_eq_nil_of_le (Nat.le_refl _), List.drop_eq_nil_of_le h]
    simp
theorem cut_to {xs : List D} {k : Nat} : cutD xs none (some (k : Int)) = xs.take k := by
  unfold cutD
  rw [HT.sIx_nat, HT.sIx_none]
  simp
@[simp] theorem s_enumT : enumA [.tup xs] = some (enumD xs) := rfl
@[simp] theorem s_enumL : enumA [.lst xs] = some (enumD xs) := rfl
@[simp] theorem s_max2 : maxD [.int a, .int b] = some (.int (if b > a then b else a)) := rfl
@[simp] theorem s_min2 : minD [.int a, .int b] = some (.int (if b < a then b else a)) := rfl
theorem s_maxL {n : Int} {ns : List Int} : maxD [.lst ((n :: ns).map D.int)] = some (.int (maxL (n :: ns))) := by
  show (match intsD ((n :: ns).map D.int) with
    | some (n :: ns) => some (D.int (maxL (n :: ns)))
    | _ => none) = _
  rw [intsD_map]
@[simp] theorem s_addL (h : xs.length + ys.length ≤ 100000) : addD (.lst xs) (.lst ys) = some (.lst (xs ++ ys)) := if_pos h
@[simp] theorem s_Gt {n : Nat} {gs : List D → Env → Option Env} {ρ : Env} : mGt n gs (.tup xs) ρ = if xs.length = n then gs xs ρ else none := rfl
@[simp] theorem s_Gc {g : MG} {gs : List D → Env → Option Env} {ρ : Env} : mGcons g gs (x :: xs) ρ = (g x ρ).bind fun ρ' => gs xs ρ' := rfl
@[simp] theorem s_Gnil {ρ : Env} : mGnil [] ρ = some ρ := rfl
@[simp] theorem s_fld {k : Str} {ks : List Str} {n : Nat} : fldD k ks n (.obj k ks xs) = xs[n]? := if_pos ⟨rfl, rfl⟩
@[simp] theorem s_scrLen {ns : List Int} : lenD [.scr ns] = some (.int ns.length) := rfl
@[simp] theorem s_scrIx {ns : List Int} : ixD (.scr ns) (.int i) = (atI ns i).map .int := rfl
@[simp] theorem s_scrSl {ns : List Int} {lo hi : Option Int} : slD (.scr ns) lo hi = some (.lst (cutD (ns.map .int) lo hi)) := rfl
theorem enumD_ints {ns : List Int} {k : Nat} {d : D} (h : (enumD (ns.map D.int))[k]? = some d) : ∃ x, ns[k]? = some x ∧ d = .tup [.int (k : Nat), .int x] := by
  obtain ⟨x, e, rfl⟩ := enumD_at h
  rw [List.getElem?_map] at e
  cases e2 : ns[k]? with
  | none => rw [e2] at e; cases e
  | some y => rw [e2] at e; cases e; exact ⟨y, rfl, rfl⟩
@[simp] theorem s_vSh {ρ : Env} {n : Nat} : vSh ρ n = match ρ[n]? with
  | some (.sh d) => some d
  | _ => none := rfl
@[simp] theorem s_vOw {ρ : Env} {n : Nat} : vOw ρ n = match ρ[n]? with
  | some (.ow d) => some d
  | _ => none := rfl
@[simp] theorem s_start {n : Nat} {ds : List D} : startE n ds = ds.map Sd.sh ++ List.replicate (n - ds.length) Sd.un := rfl
@[simp] theorem s_Gn {n : Nat} {d : D} {ρ : Env} : mGn n d ρ = some (ρ.set n (.sh d)) := rfl
@[simp] theorem s_int1 : int1D [.int a] = some (.int a) := rfl
@[simp] theorem s_lenL : lenD [.lst xs] = some (.int xs.length) := rfl
@[simp] theorem s_lenT : lenD [.tup xs] = some (.int xs.length) := rfl
@[simp] theorem s_tupL : tupD [.lst xs] = some (.tup xs) := rfl
@[simp] theorem s_getP {l : List Int} {P : D → PuS → Prop} : Ok (getP .pur (.int j)) (.real l) P ↔ ∃ n, atI l j = some n ∧ P (.int n) (.real l) := by
  cases e : atI l j with
  | none =>
    constructor
    · rintro ⟨d, u', e2, p⟩
      have e3 : (atI l j).map (fun n => (D.int n, PuS.real l)) = some (d, u') := e2
      rw [e] at e3; cases e3
    · rintro ⟨n, e2, _⟩; cases e2
  | some n =>
    have e3 : getP .pur (.int j) (.real l) = some (.int n, .real l) := by
      show (atI l j).map (fun n => (D.int n, PuS.real l)) = _
      rw [e]; rfl
    rw [ok_of e3]; simp
@[simp] theorem s_putP {l : List Int} {P : Unit → PuS → Prop} : Ok (putP .pur (.int j) (.int a)) (.real l) P ↔ ∃ n, ixN l.length j = some n ∧ P () (.real (l.set n a)) := by
  cases e : ixN l.length j with
  | none =>
    constructor
    · rintro ⟨d, u', e2, p⟩
      have e3 : (ixN l.length j).map (fun n => ((), PuS.real (l.set n a))) = some (d, u') := e2
      rw [e] at e3; cases e3
    · rintro ⟨n, e2, _⟩; cases e2
  | some n =>
    have e3 : putP .pur (.int j) (.int a) (.real l) = some ((), .real (l.set n a)) := by
      show (ixN l.length j).map (fun n => ((), PuS.real (l.set n a))) = _
      rw [e]; rfl
    rw [ok_of e3]; simp
@[simp] theorem ok_dmP {ρ : Env} {u : PuS} {mi m : ME} {n k : Nat} {PS : Fl → PuS → Prop} : Ok (mDmP n mi k m ρ) u PS ↔ Ok (m ρ) u fun v u1 => ∃ a b, v = .tup [.int a, .int b] ∧ Ok (mi ρ) u1 fun kk u2 => ∃ d, vSh ρ n = some d ∧ Ok (putP d kk (.int a)) u2 fun _ u3 => PS (.nx (ρ.set k (.sh (.int b)))) u3 := by
  unfold mDmP; simp only [ok_bind]
  constructor
  · refine fun h => h.mono fun f u' z => ?_
    split at z
    · exact ⟨_, _, rfl, by simpa only [ok_bind, ok_lft, ok_pure] using z⟩
    · exact (ok_none.mp z).elim
  · refine fun h => h.mono fun f u' z => ?_
    obtain ⟨a, b, rfl, z⟩ := z
    simpa only [ok_bind, ok_lft, ok_pure] using z
end
end Mi


set_option Elab.async false
set_option linter.all false
set_option maxRecDepth 100000
set_option maxHeartbeats 4000000
/-! MiG: chained comparisons, += on names, fresh concatenations, range with a step, f-strings. -/
namespace Mi
open PySem PySem.Spec PyProof.Rows L2
/-! ### chained comparisons -/
def mChain (f g : D → D → Option D) (ma mb mc : ME) : ME := fun ρ => M.bind (ma ρ) fun x => M.bind (mb ρ) fun y => M.bind (lft (f x y)) fun z => match z with
  | .bl b => if b = true then M.bind (mc ρ) fun w => lft (g y w) else M.pure (.bl false)
  | _ => lft none
section
variable {X : Cx} {c : Cf} {pos : Pos} {a b d : Expr} {ma mb mc : ME} {r r' : R2} {f g : D → D → Option D}
theorem rdChain (hf : OpM c.W r f) (hg : OpM c.W r' g) : ∀ σ H Q, rdE c (mChain f g ma mb mc) σ H Q → tChain r r' (rdE c ma) (rdE c mb) (rdE c mc) σ H Q := fun σ H Q ⟨F, u, ρ, S, h⟩ =>
  ⟨F, u, ρ, S, (After.split h).imp fun x u1 F1 H1 _ s1 g1 h1 v rv => ⟨F1, u1, ρ, S.step s1 g1, (After.split h1).imp fun y u2 F2 H2 _ s2 g2 h2 w rw =>
    hf c.p F2 H2 u2 v w x y _ g2 (rv.mono s2.ef) rw ((After.split h2).imp fun z u3 F3 H3 _ s3 g3 h3 vz rz => by
      cases z with
      | bl k =>
        refine ⟨k, rz.bl_, ?_⟩
        cases k with
        | true => exact ⟨F3, u3, ρ, ((S.step s1 g1).step s2 g2).step s3 g3, (After.split h3).imp fun w' u4 F4 H4 _ s4 g4 h4 v' rv' => hg c.p F4 H4 u4 w v' y w' Q g4 ((rw.mono s3.ef).mono s4.ef) rv' h4⟩
        | false =>
          have h4 : After c.p F3 H3 (some (D.bl false, u3)) (fun d _ F' H' => ∀ v, Rep c.W c.p F' v d → Q v H') := h3
          exact After.now g3 h4 _ (.bl false)
      | _ => exact False.elim h3)⟩⟩
theorem dTchain {op op' : CmpOp} (ho : OpR X (compareOp op) r) (hf : OpM c.W r f) (ho' : OpR X (compareOp op') r') (hg : OpM c.W r' g) (ha : DE X c a ma) (hb : DE X c b mb) (hd : DE X c d mc) (hm : lastMarks [op, op'] [b, d] = false := by with_unfolding_all rfl) :
    DT X c (.Compare a [op, op'] [b, d] pos) (mB (mChain f g ma mb mc)) :=
  (pt_chain ho ho' ha hb hd hm).imp fun σ H Q h => by
    obtain ⟨F, u, ρ, S, h⟩ := h
    refine rdChain hf hg σ H _ ⟨F, u, ρ, S, (After.split h).imp fun d u1 F1 H1 _ s1 g1 h1 w rw => ?_⟩
    cases d with
    | bl k =>
      have h2 : After c.p F1 H1 (some (k, u1)) (fun b _ _ H' => Q b H') := h1
      exact ⟨k, rw.bl_, After.now g1 h2⟩
    | _ => exact False.elim h1
end
@[simp] theorem ok_chain {ρ : Env} {u : PuS} {P : D → PuS → Prop} {ma mb mc : ME} {f g : D → D → Option D} : Ok (mChain f g ma mb mc ρ) u P ↔ Ok (ma ρ) u fun x u1 => Ok (mb ρ) u1 fun y u2 => ∃ z0, f x y = some z0 ∧ OnB z0 fun b => Br b (Ok (mc ρ) u2 fun w u3 => ∃ z, g y w = some z ∧ P z u3) (P (.bl false) u2) := by
  unfold mChain; simp only [ok_bind, ok_lft]
  constructor
  · refine fun h => h.mono fun x u1 z => z.mono fun y u2 z => ?_
    obtain ⟨d, e, p⟩ := z
    cases d with
    | bl b => exact ⟨_, e, b, rfl, by cases b <;> simpa [ok_pure] using p⟩
    | _ => exact (ok_none.mp p).elim
  · refine fun h => h.mono fun x u1 z => z.mono fun y u2 z => ?_
    obtain ⟨_, e, b, rfl, p⟩ := z
    exact ⟨.bl b, e, by cases b <;> simpa [ok_pure] using p⟩
/-! ### += on a name -/
theorem m_ip {W : Wo} {f : Int → Int → Int} : IpM W (ipI f) (int2 fun i j => some (.int (f i j))) := by
  intro p F H u x y a b Q gd rx ry h
  obtain ⟨d, e, _⟩ := lft_some h
  obtain ⟨i, j, rfl, rfl, e2⟩ := int2_some e
  exact ⟨i, j, rx.int_, ry.int_, OpM.ret gd h rfl (.int _)⟩
def addI : D → D → Option D := int2 fun i j => some (.int (i + j))
theorem m_addI {W : Wo} : IpM W (ipI fun i j => i + j) addI := m_ip
@[simp] theorem s_addI {a b : Int} : addI (.int a) (.int b) = some (.int (a + b)) := rfl
@[simp] theorem ok_aug {ρ : Env} {u : PuS} {i : Nat} {f : D → D → Option D} {m : ME} {P : Fl → PuS → Prop} : Ok (mAug i f m ρ) u P ↔ ∃ x, vSh ρ i = some x ∧ Ok (m ρ) u fun y u1 => ∃ z, f x y = some z ∧ P (.nx (ρ.set i (.sh z))) u1 := by
  unfold mAug; simp only [ok_bind, ok_lft, ok_pure]
/-! ### fresh lists by + -/
def catO : D → D → Option (List D)
  | .lst xs, .lst ys => if xs.length + ys.length ≤ 100000 then some (xs ++ ys) else none
  | _, _ => none
def mBinO (f : D → D → Option (List D)) (ma mb : ME) : MA := fun ρ => M.bind (ma ρ) fun x => M.bind (mb ρ) fun y => lft (f x y)
@[simp] theorem ok_binO {ρ : Env} {u : PuS} {f : D → D → Option (List D)} {ma mb : ME} {P : List D → PuS → Prop} : Ok (mBinO f ma mb ρ) u P ↔ Ok (ma ρ) u fun x u1 => Ok (mb ρ) u1 fun y u2 => ∃ z, f x y = some z ∧ P z u2 := by
  unfold mBinO; simp only [ok_bind, ok_lft]
@[simp] theorem e_catO {xs ys : List D} {Q : List D → Prop} : (∃ z, catO (.lst xs) (.lst ys) = some z ∧ Q z) ↔ xs.length + ys.length ≤ 100000 ∧ Q (xs ++ ys) := by
  show (∃ z, (if xs.length + ys.length ≤ 100000 then some (xs ++ ys) else none) = some z ∧ Q z) ↔ _
  by_cases h : xs.length + ys.length ≤ 100000 <;> simp [h]
/-! ### while -/
end Mi


set_option Elab.async false
set_option linter.all false
set_option maxRecDepth 100000
set_option maxHeartbeats 4000000
/-! MiQ: == and != of data that stand for plain things. -/
namespace Mi
open PySem L2
/-- one statement, what follows is hidden -/
theorem seq_step {m n : MS} {ρ : Env} {u : PuS} {P : Fl → PuS → Prop} (h : ∀ k : MS, (∀ ρ1 u1, Ok (n ρ1) u1 P → Ok (k ρ1) u1 P) → Ok (m ρ) u fun f u1 => match f with
    | .nx ρ1 => Ok (k ρ1) u1 P
    | f' => P f' u1) : Ok (mSeq m n ρ) u P := ok_seq.mpr (h n fun _ _ => id)
/-- one statement, with what holds behind it -/
theorem seq_cut {m n : MS} {ρ : Env} {u : PuS} {P : Fl → PuS → Prop} (Q : Env → PuS → Prop) (h1 : Ok (m ρ) u fun f u1 => match f with
    | .nx ρ1 => Q ρ1 u1
    | f' => P f' u1) (h2 : ∀ ρ1 u1, Q ρ1 u1 → Ok (n ρ1) u1 P) : Ok (mSeq m n ρ) u P := ok_seq.mpr (h1.mono fun f u1 z => by
  cases f with
  | nx ρ1 => exact h2 _ _ z
  | _ => exact z)
structure EqT {α : Type} [DecidableEq α] (f : α → D) (g : α → PyData) (k : Nat) : Prop where
  to : ∀ x, toPD (f x) = some (g x)
  lay : ∀ x, PyData.canLay0 (g x) = true
  dep : ∀ x, PyData.depth (g x) ≤ k
  eqv : ∀ x y, PyData.eqv (g x) (g y) = decide (x = y)
section
variable {α β : Type} [DecidableEq α] [DecidableEq β] {f : α → D} {g : α → PyData} {k : Nat}
theorem EqT.shaped (h : EqT f g k) (hk : k ≤ 64) (x : α) : SeqAt.shaped (g x) = true := by
  unfold SeqAt.shaped
  rw [h.lay x, decide_eq_true (Nat.le_trans (h.dep x) hk)]; rfl
theorem EqT.eqD (h : EqT f g k) (hk : k ≤ 64) (x y : α) : Mi.eqD (f x) (f y) = some (decide (x = y)) := by
  unfold Mi.eqD
  rw [h.to, h.to]
  show (if SeqAt.shaped (g x) = true ∧ SeqAt.shaped (g y) = true then some (PyData.eqv (g x) (g y)) else none) = _
  rw [if_pos ⟨h.shaped hk x, h.shaped hk y⟩, h.eqv]
theorem EqT.ne (h : EqT f g k) (hk : k ≤ 64) (x y : α) : neMD (f x) (f y) = some (.bl (!decide (x = y))) := by unfold neMD; rw [h.eqD hk]; rfl
theorem EqT.int : EqT D.int PyData.int 0 := ⟨fun _ => rfl, fun _ => rfl, fun _ => Nat.le_refl 0, fun x y => by
  show (x == y) = _
  by_cases h : x = y <;> simp [h]⟩
theorem EqT.bl : EqT D.bl PyData.bool 0 := ⟨fun _ => rfl, fun _ => rfl, fun _ => Nat.le_refl 0, fun x y => by
  show (x == y) = _
  by_cases h : x = y <;> simp [h]⟩
theorem EqT.toPDs (h : EqT f g k) : ∀ xs : List α, Mi.toPDs (xs.map f) = some (xs.map g)
  | [] => rfl
  | x :: xs => by
    show (match toPD (f x), Mi.toPDs (xs.map f) with
      | some a, some b => some (a :: b)
      | _, _ => none) = _
    rw [h.toPDs xs, h.to]; rfl
theorem EqT.lays (h : EqT f g k) : ∀ xs : List α, PyData.canLayAll0 (xs.map g) = true
  | [] => rfl
  | x :: xs => by show (PyData.canLay0 (g x) && _) = true; rw [h.lays xs, h.lay]; rfl
theorem EqT.deps (h : EqT f g k) : ∀ xs : List α, PyData.depthAll (xs.map g) ≤ k
  | [] => Nat.zero_le _
  | x :: xs => Nat.max_le.mpr ⟨h.dep x, h.deps xs⟩
theorem EqT.eqvs (h : EqT f g k) : ∀ xs ys : List α, PyData.eqvAll (xs.map g) (ys.map g) = decide (xs = ys)
  | [], [] => rfl
  | [], _ :: _ => rfl
  | _ :: _, [] => rfl
  | x :: xs, y :: ys => by
    show (PyData.eqv (g x) (g y) && PyData.eqvAll (xs.map g) (ys.map g)) = _
    rw [h.eqvs xs ys, h.eqv]
    by_cases h1 : x = y <;> by_cases h2 : xs = ys <;> simp [h1, h2]
theorem EqT.lst (h : EqT f g k) : EqT (fun xs : List α => .lst (xs.map f)) (fun xs => .list (xs.map g)) (k + 1) :=
  ⟨fun xs => by show (Mi.toPDs (xs.map f)).map PyData.list = _; rw [h.toPDs]; rfl, fun xs => h.lays xs, fun xs => Nat.succ_le_succ (h.deps xs), fun xs ys => h.eqvs xs ys⟩
theorem EqT.tup (h : EqT f g k) : EqT (fun xs : List α => .tup (xs.map f)) (fun xs => .tuple (xs.map g)) (k + 1) :=
  ⟨fun xs => by show (Mi.toPDs (xs.map f)).map PyData.tuple = _; rw [h.toPDs]; rfl, fun xs => h.lays xs, fun xs => Nat.succ_le_succ (h.deps xs), fun xs ys => h.eqvs xs ys⟩
/-- pairs -/
theorem EqT.pair {f' : β → D} {g' : β → PyData} {k' : Nat} (h : EqT f g k) (h' : EqT f' g' k') : EqT (fun q : α × β => .tup [f q.1, f' q.2]) (fun q => .tuple [g q.1, g' q.2]) (max k k' + 1) :=
  ⟨fun q => by
    show (match toPD (f q.1), (match toPD (f' q.2), Mi.toPDs [] with
      | some a, some b => some (a :: b)
      | _, _ => none) with
      | some a, some b => some (a :: b)
      | _, _ => none).map PyData.tuple = _
    rw [h.to, h'.to]; rfl,
   fun q => by show (PyData.canLay0 (g q.1) && (PyData.canLay0 (g' q.2) && true)) = true; rw [h.lay, h'.lay]; rfl,
   fun q => by
    show max (PyData.depth (g q.1)) (max (PyData.depth (g' q.2)) 0) + 1 ≤ _
    have := h.dep q.1
    have := h'.dep q.2
    omega,
   fun q r => by
    show (PyData.eqv (g q.1) (g r.1) && (PyData.eqv (g' q.2) (g' r.2) && true)) = _
    rw [h.eqv, h'.eqv]
    obtain ⟨a, b⟩ := q
    obtain ⟨c, d⟩ := r
    by_cases h1 : a = c <;> by_cases h2 : b = d <;> simp [h1, h2]⟩
/-- a thing or None -/
def opD (f : α → D) : Option α → D
  | some x => f x
  | none => .non
def opP (g : α → PyData) : Option α → PyData
  | some x => g x
  | none => .none
theorem eqv_none_l {p : PyData} (h : p ≠ .none) : PyData.eqv .none p = false := by
  cases p <;> first | exact absurd rfl h | rfl
theorem eqv_none_r {p : PyData} (h : p ≠ .none) : PyData.eqv p .none = false := by
  cases p <;> first | exact absurd rfl h | rfl
theorem EqT.opt (h : EqT f g k) (hn : ∀ x, g x ≠ .none) : EqT (opD f) (opP g) k :=
  ⟨fun x => by cases x with
    | none => rfl
    | some x => exact h.to x,
   fun x => by cases x with
    | none => rfl
    | some x => exact h.lay x,
   fun x => by cases x with
    | none => exact Nat.zero_le _
    | some x => exact h.dep x,
   fun x y => by
    cases x with
    | none =>
      cases y with
      | none => rfl
      | some y => show PyData.eqv .none (g y) = _; rw [eqv_none_l (hn y)]; simp
    | some x =>
      cases y with
      | none => show PyData.eqv (g x) .none = _; rw [eqv_none_r (hn x)]; simp
      | some y => show PyData.eqv (g x) (g y) = _; rw [h.eqv]; by_cases e : x = y <;> simp [e]⟩
/-- rows of ints or None -/
theorem EqT.row : EqT (opD fun xs : List Int => .tup (xs.map D.int)) (opP fun xs => .tuple (xs.map PyData.int)) 1 := EqT.opt (EqT.tup EqT.int) fun x h => by cases h
end
end Mi


set_option Elab.async false
set_option linter.all false
set_option maxRecDepth 100000
set_option maxHeartbeats 4000000
/-! MiR: list(enumerate(x)): an iterator whose tuples are kept. -/
namespace PySem
open PySem PySem.Spec PySem.Calls PyProof.Rows
/-- an iterator that hands out new tuples, which are kept; lo: the list that takes them -/
structure Outs (prog : Program) (w : World) (A : Around) (I : Addr) (fp wr : List Addr) (lo : Addr) (n : Nat) (P : Nat → Array Value → Prop) (St : Nat → Heap → Prop) : Prop where
  sub : ∀ b ∈ wr, b < lo
  frame : ∀ i h h', St i h → (∀ b, b ≠ lo → ∀ o, h.get? b = some o → h'.get? b = some o) → St i h'
  item : ∀ i (s : Shared) (Q : Option Value → Shared → Prop) (E : Value → Shared → Prop), i < n → St i s.heap → lo < s.heap.objs.size →
    (∀ vals h' tk, P i vals → h'.get? s.heap.objs.size = some { cls := .type "tuple", data := .seq vals } → h'.objs.size = s.heap.objs.size + 1 → St (i + 1) h' → (∀ b o, b ∉ wr → s.heap.get? b = some o → h'.get? b = some o) →
      Q (some (.ref s.heap.objs.size)) { s with heap := h', toks := tk }) → wpAny (model prog w) A (pyNext (.ref I)) Q E s
  done : ∀ (s : Shared) (Q : Option Value → Shared → Prop) (E : Value → Shared → Prop), St n s.heap →
    (∀ h' tk, (∀ b o, b ∉ wr → s.heap.get? b = some o → h'.get? b = some o) → Q none { s with heap := h', toks := tk }) → wpAny (model prog w) A (pyNext (.ref I)) Q E s
structure OutG (P : Nat → Array Value → Prop) (lo : Addr) (h : Heap) (as : List Addr) : Prop where
  rise : as.Pairwise (· < ·)
  above : ∀ a ∈ as, lo < a
  tups : ∀ (j : Nat) (a : Addr), as[j]? = some a → ∃ vals, P j vals ∧ h.get? a = some { cls := .type "tuple", data := .seq vals }
section
variable {prog : Program} {w : World} {A : Around} {s : Shared} {R : Result → Shared → Prop} {I S : Addr} {fp wr : List Addr} {n : Nat} {P : Nat → Array Value → Prop} {St : Nat → Heap → Prop}
theorem OutG.there {h : Heap} {as : List Addr} (g : OutG P S h as) {a : Addr} (ha : a ∈ as) : a < h.objs.size := by
  obtain ⟨j, hj⟩ := List.mem_iff_getElem?.mp ha
  obtain ⟨_, _, e⟩ := g.tups j a hj
  exact Heap.lt_size e
theorem outs_loop (O : Outs prog w A.in1 I fp wr S n P St) (hn : n ≤ sizeLine) (res : Value) {h₁ : Heap}
    (hR : ∀ h' tk acc c as, (∀ b o, b ≠ S → b ∉ wr → h₁.get? b = some o → h'.get? b = some o) → h'.get? S = some { cls := .type "list", dict := none, data := .seq acc c, slots := #[] } → as.length = n → OutG P S h' as →
      acc.toList = as.map Value.ref → R (.ok (.ret res)) { s with heap := h', toks := tk }) :
    ∀ (k i : Nat) (h : Heap) (tk c : Nat) (acc : Array Value) (as : List Addr), n - i = k → i ≤ n → St i h → (∀ b o, b ≠ S → b ∉ wr → h₁.get? b = some o → h.get? b = some o) →
      h.get? S = some { cls := .type "list", dict := none, data := .seq acc c, slots := #[] } → acc.toList = as.map Value.ref → as.length = i → OutG P S h as →
      codeAny (model prog w) A (.builtin "list.extend.loop" ⟨[.ref S, .ref I, res], []⟩) R { s with heap := h, toks := tk } := by
  have hSw : S ∉ wr := fun z => Nat.lt_irrefl _ (O.sub S z)
  have hup : ∀ b, S < b → b ∉ wr := fun b hb z => Nat.lt_irrefl _ (Nat.lt_trans hb (O.sub b z))
  intro k
  induction k with
  | zero =>
    intro i h tk c acc as hk hi hst hkeep hS hacc hal hG
    have hin : i = n := by omega
    subst hin
    refine codeAny_builtin PySem.F.entry_extend_loop ?_
    rw [Around.under_plainId PySem.F.plain_extend_loop _]
    show wpAny _ A.in1 (pyNext (.ref I) >>= _) _ _ _
    refine wpAny_bind (O.done { s with heap := h, toks := tk } _ _ hst fun h' tk' he => ?_)
    refine wpAny_pure (hR h' tk' acc c as (fun b o h1 h2 e => he b o h2 (hkeep b o h1 h2 e)) (he S _ hSw hS) (by omega) ⟨hG.rise, hG.above, fun j a hj => ?_⟩ hacc)
    obtain ⟨vals, e1, e2⟩ := hG.tups j a hj
    exact ⟨vals, e1, he a _ (hup a (hG.above a (List.mem_of_getElem? hj))) e2⟩
  | succ k ih =>
    intro i h tk c acc as hk hi hst hkeep hS hacc hal hG
    have hlt : i < n := by omega
    have hsz : acc.size = i := by rw [← Array.length_toList, hacc, List.length_map, hal]
    refine codeAny_builtin PySem.F.entry_extend_loop ?_
    rw [Around.under_plainId PySem.F.plain_extend_loop _]
    show wpAny _ A.in1 (pyNext (.ref I) >>= _) _ _ _
    refine wpAny_bind (O.item i { s with heap := h, toks := tk } _ _ hlt hst (Heap.lt_size hS) fun vals h' tk' hv ht hz hst' hkp => ?_)
    dsimp only at ht hz hkp ⊢
    have hS' := hkp S _ hSw hS
    have up : ∀ b, b ≠ S → ∀ o, h'.get? b = some o → (h'.update S (Obj.mapSeq (·.push (Value.ref h.objs.size)))).get? b = some o := fun b hb o e => (Heap.get?_update_other _ _ (Ne.symm hb)).trans e
    have hSl : S < h.objs.size := Heap.lt_size hS
    show wpAny _ A.in1 (updateSeq S (·.push (Value.ref h.objs.size)) >>= _) _ _ _
    refine wpAny_bind ?_
    refine wpAny_updateSeq hS' rfl (wpAny_pure ⟨plainId_quiet PySem.F.plain_extend_loop _, ih (i + 1) _ tk' _ (acc.push (Value.ref h.objs.size)) (as ++ [h.objs.size]) (by omega) hlt (O.frame _ _ _ hst' up)
      (fun b o h1 h2 e => up b h1 o (hkp b o h2 (hkeep b o h1 h2 e))) (Heap.get?_update_self _ hS' rfl) (by rw [Array.toList_push, hacc, List.map_append]; rfl) (by rw [List.length_append, hal]; rfl) ⟨?_, ?_, ?_⟩⟩) (by rw [hsz]; omega) (by show (acc.push (Value.ref h.objs.size)).size ≤ sizeLine + 1; rw [Array.size_push, hsz]; omega)
    · refine List.pairwise_append.mpr ⟨hG.rise, List.pairwise_singleton _ _, fun a ha b hb => ?_⟩
      rw [List.mem_singleton.mp hb]
      exact hG.there ha
    · intro a ha
      rcases List.mem_append.mp ha with ha | ha
      · exact hG.above a ha
      · rw [List.mem_singleton.mp ha]; exact hSl
    · intro j b hj
      rcases Nat.lt_trichotomy j as.length with h1 | h1 | h1
      · rw [List.getElem?_append_left h1] at hj
        obtain ⟨vals', e1, e2⟩ := hG.tups j b hj
        have hb := hG.above b (List.mem_of_getElem? hj)
        exact ⟨vals', e1, up b (Nat.ne_of_gt hb) _ (hkp b _ (hup b hb) e2)⟩
      · subst h1
        have hb : h.objs.size = b := by simpa using hj
        subst hb
        exact ⟨vals, by rw [hal]; exact hv, up _ (Nat.ne_of_gt hSl) _ ht⟩
      · have hnone : (as ++ [h.objs.size])[j]? = none := List.getElem?_eq_none (by rw [List.length_append, List.length_singleton]; omega)
        rw [hnone] at hj; cases hj
/-- a type without a length -/
structure NoLen (T : String) : Prop where
  len : typeLookup (.type T) "__len__" = pure none
  hint : typeLookup (.type T) "__length_hint__" = pure none
  nl : (Value.type T == Value.type "list") = false
  nt : (Value.type T == Value.type "tuple") = false
theorem outs_extend {T : String} (F : NoLen T) (O : Outs prog w A.in1 I fp wr S n P St) (hT : s.TypeIs (.ref I) T) (hself : ∀ (A : Around) (s' : Shared) (Q : Value → Shared → Prop) (E : Value → Shared → Prop), St 0 s'.heap → Q (.ref I) s' → wpAny (model prog w) A (pyIter (.ref I)) Q E s') (hst : St 0 s.heap) (hSI : S ≠ I) (res : Value) (c₀ : Nat)
    (hS : s.heap.get? S = some { cls := .type "list", data := .seq #[] c₀ })
    (hR : ∀ h' tk acc c as, (∀ b o, b ≠ S → b ∉ wr → s.heap.get? b = some o → h'.get? b = some o) → h'.get? S = some { cls := .type "list", dict := none, data := .seq acc c, slots := #[] } → as.length = n → OutG P S h' as →
      acc.toList = as.map Value.ref → R (.ok (.ret res)) { s with heap := h', toks := tk }) (hn : n ≤ sizeLine) :
    wpAny (model prog w) A.in1 (Builtin.List.listExtendWith (.ref S) (.ref I) res)
      (fun fin s' => match fin with | .done f => R (.ok f) s' | .again c' => c'.quiet = true ∧ codeAny (model prog w) A c' R s') (fun e s' => R (.error e) s') s := by
  unfold Builtin.List.listExtendWith
  refine wpAny_bind (wpAny_typeOf hT ?_)
  have h1 : Builtin.List.listSameRef (.ref S) (.ref I) = false := by simp [Builtin.List.listSameRef, hSI]
  simp only [h1, F.nl, F.nt, Bool.or_false, Bool.false_eq_true, if_false]
  refine wpAny_bind (hself _ _ _ _ hst ?_)
  refine wpAny_bind (wpAny_holding ?_)
  unfold Builtin.List.listLengthHint
  refine wpAny_bind (wpAny_specialOf hT F.len ?_)
  show wpAny _ A.in1 (specialOf (Value.ref I) (Str.ofString "__length_hint__") >>= _) _ _ _
  refine wpAny_bind (wpAny_specialOf hT F.hint ?_)
  refine wpAny_pure ?_
  show wpAny _ A.in1 (rule "list.extend.makes-room" >>= fun _ => Builtin.List.listTouch (.ref S) >>= fun _ =>
    again (.builtin "list.extend.loop" ⟨[.ref S, .ref I, res], []⟩)) _ _ _
  refine wpAny_bind (wpAny_rule ?_)
  refine wpAny_bind ?_
  show wpAny _ A.in1 (updateSeq S (·.push .none) >>= fun _ => updateSeq S (·.pop)) _ _ _
  refine wpAny_bind (wpAny_updateSeq hS rfl ?_)
  have hS₂ := Heap.get?_update_self (Obj.mapSeq (·.push Value.none)) hS rfl
  refine wpAny_updateSeq (hz := by seq_fits) hS₂ rfl ?_
  have hS₃ := Heap.get?_update_self (Obj.mapSeq (·.pop)) hS₂ rfl
  have oth : ∀ b, b ≠ S → ∀ o, s.heap.get? b = some o → ((s.heap.update S (Obj.mapSeq (·.push Value.none))).update S (Obj.mapSeq (·.pop))).get? b = some o :=
    fun b hb o e => (Heap.get?_update_other _ _ (Ne.symm hb)).trans ((Heap.get?_update_other _ _ (Ne.symm hb)).trans e)
  refine wpAny_pure ⟨plainId_quiet PySem.F.plain_extend_loop _, outs_loop (s := s) (h₁ := s.heap) O hn res hR n 0 _ _ _ #[] [] (Nat.sub_zero _) (Nat.zero_le _) (O.frame 0 _ _ hst oth) (fun b o hb _ e => oth b hb o e) hS₃ rfl rfl ⟨List.Pairwise.nil, (fun _ ha => nomatch ha), (fun j a hj => by simp at hj)⟩⟩
theorem outs_call {T : String} {E : Value → Shared → Prop} {Q : Value → Shared → Prop} (F : NoLen T) (O : Outs prog w A.in1.in1 I fp wr s.heap.objs.size n P St) (hT : s.TypeIs (.ref I) T) (hself : ∀ (A : Around) (s' : Shared) (Q : Value → Shared → Prop) (E : Value → Shared → Prop), St 0 s'.heap → Q (.ref I) s' → wpAny (model prog w) A (pyIter (.ref I)) Q E s') (hst : St 0 s.heap) (hn : n ≤ sizeLine)
    (hQ : ∀ h' tk acc c as, (∀ b o, b ∉ wr → s.heap.get? b = some o → h'.get? b = some o) → h'.get? s.heap.objs.size = some { cls := .type "list", dict := none, data := .seq acc c, slots := #[] } → as.length = n → OutG P s.heap.objs.size h' as →
      acc.toList = as.map Value.ref → Q (.ref s.heap.objs.size) { s with heap := h', toks := tk }) :
    wpAny (model prog w) A (call (.type "list") [.ref I]) Q E s := by
  refine callType_codes (Q₁ := fun obj s₁ => obj = .ref s.heap.objs.size ∧ s₁ = { s with heap := s.heap.push { cls := .type "list", data := .seq #[] } }) PySem.F.called_list (PySem.F.typeCall_list_1 _) PySem.F.entry_list_init
    (code_list_new _ ⟨rfl, rfl⟩) fun obj s₁ h₁ => ?_
  obtain ⟨rfl, rfl⟩ := h₁
  have hS : (s.heap.push { cls := .type "list", data := .seq #[] }).get? s.heap.objs.size = some { cls := .type "list", data := .seq #[] } := Heap.get?_push_size _ rfl
  have hIl : I < s.heap.objs.size := let ⟨_, ho, _⟩ := hT; Heap.lt_size ho
  refine ⟨⟨_, hS, rfl⟩, PySem.F.args_list_init_2 _ _, ?_⟩
  show wpAny _ _ (do let old ← Builtin.List.listItems (.ref s.heap.objs.size); Builtin.List.listUpdate (.ref s.heap.objs.size) (fun _ => #[]); letGo old.toList.reverse; Builtin.List.listExtendWith (.ref s.heap.objs.size) (.ref I) .none) _ _ _
  refine wpAny_bind ?_
  unfold Builtin.List.listItems
  refine wpAny_bind (wpAny_seqItems hS rfl (wpAny_pure ?_))
  show wpAny _ _ (updateSeq s.heap.objs.size (fun _ => #[]) >>= fun _ => letGo (#[] : Array Value).toList.reverse >>= fun _ => Builtin.List.listExtendWith (.ref s.heap.objs.size) (.ref I) .none) _ _ _
  refine wpAny_bind (wpAny_updateSeq hS rfl ?_)
  have hS₂ := Heap.get?_update_self (Obj.mapSeq (fun _ => (#[] : Array Value))) hS rfl
  have oth : ∀ b, b ≠ s.heap.objs.size → ∀ o, s.heap.get? b = some o → ((s.heap.push { cls := .type "list", data := .seq #[] }).update s.heap.objs.size (Obj.mapSeq (fun _ => (#[] : Array Value)))).get? b = some o :=
    fun b hb o e => (Heap.get?_update_other _ _ (Ne.symm hb)).trans (Heap.get?_push_of_some _ e)
  refine wpAny_bind (wpAny_letGo ?_)
  obtain ⟨oI, hoI, hcI⟩ := id hT
  refine outs_extend F O ⟨oI, oth I (Nat.ne_of_lt hIl) oI hoI, hcI⟩ hself (O.frame 0 _ _ hst fun b hb o e => oth b hb o e) (Nat.ne_of_gt hIl) .none _ hS₂ (fun h' tk acc c as hk hS' hl hG hacc => ?_) hn
  exact ⟨rfl, hQ h' tk acc c as (fun b o hb e => hk b o (Nat.ne_of_lt (Heap.lt_size e)) hb (oth b (Nat.ne_of_lt (Heap.lt_size e)) o e)) hS' hl hG hacc⟩
end
/-! ### enumerate -/
abbrev IsEnumO (h : Heap) (e it : Addr) (i : Int) (item : Value) (a : Addr) (f : Bool) : Prop :=
  h.get? e = some { cls := .type "enumerate", dict := none, data := .fields #[rawInt a, .bool f, .ref it, rawInt i, .none, item], slots := #[] }
section
variable {prog : Program} {w : World} {A : Around} {E : Value → Shared → Prop} {s : Shared}
theorem enum_next_out {e it a : Addr} {f : Bool} {oa : Obj} {fp : List Addr} {n i : Nat} {P : Nat → Value → Prop} {St : Nat → Heap → Prop} {item : Value} {Q : Value → Shared → Prop}
    (D : Draws prog w A it fp n P St) (he : IsEnumO s.heap e it i item a f) (ha : s.heap.get? a = some oa) (hae : a ≠ e) (hai : a ≠ it) (hst : St i s.heap) (hlt : i < n) (hne : e ≠ it) (hef : e ∉ fp)
    (hQ : ∀ x h' tk, P i x → IsEnumO h' e it ((i : Int) + 1) item a true → St (i + 1) h' →
      h'.get? s.heap.objs.size = some { cls := .type "tuple", data := .seq #[.int i tk, x] } → h'.objs.size = s.heap.objs.size + 1 →
      (∀ b o, b ≠ e → b ≠ it → s.heap.get? b = some o → h'.get? b = some o) → Q (.ref s.heap.objs.size) { s with heap := h', toks := tk + 1 }) :
    wpAny (model prog w) A (Builtin.«enumerate.__next__» ⟨[.ref e], []⟩) (fun fin s' => ∃ v, fin = .done (.ret v) ∧ Q v s') E s := by
  obtain ⟨hp, g, d, tk₀, os⟩ := s
  show wpAny _ _ (field (.ref e) 2 >>= _) _ _ _
  refine wpAny_bind (wpAny_field he rfl (x := .ref it) rfl ?_)
  refine wpAny_bind (D.item i _ _ _ hlt hst fun x h₁ tk hPx hit₁ hs₁ => ?_)
  replace hs₁ : Heap.SameBut it hp h₁ := hs₁
  have he₁ : IsEnumO h₁ e it i item a f := (hs₁.2 e hne).trans he
  show wpAny _ _ (field (.ref e) 3 >>= _) _ _ ⟨h₁, g, d, tk, os⟩
  refine wpAny_bind (wpAny_field he₁ rfl (x := rawInt i) rfl ?_)
  show wpAny _ _ (field (.ref e) 4 >>= _) _ _ ⟨h₁, g, d, tk, os⟩
  refine wpAny_bind (wpAny_field he₁ rfl (x := .none) rfl ?_)
  show wpAny _ _ (mkInt i >>= _) _ _ ⟨h₁, g, d, tk, os⟩
  refine wpAny_bind (wpAny_mkInt ?_)
  show wpAny _ _ (setField (.ref e) 3 (rawInt ((i : Int) + 1)) >>= _) _ _ ⟨h₁, g, d, tk + 1, os⟩
  refine wpAny_bind (wpAny_setField_rec he₁ (by simp) fun h₂ he₂ hs₂ => ?_)
  replace hs₂ : Heap.SameBut e h₁ h₂ := hs₂
  replace he₂ : IsEnumO h₂ e it ((i : Int) + 1) item a f := he₂
  show wpAny _ _ (setField (.ref e) 4 .none >>= _) _ _ ⟨h₂, g, d, tk + 1, os⟩
  refine wpAny_bind (wpAny_setField_rec he₂ (by simp) fun h₃ he₃ hs₃ => ?_)
  replace hs₃ : Heap.SameBut e h₂ h₃ := hs₃
  replace he₃ : IsEnumO h₃ e it ((i : Int) + 1) item a f := he₃
  show wpAny _ _ (newTuple [.int i tk, x] >>= _) _ _ ⟨h₃, g, d, tk + 1, os⟩
  refine wpAny_bind (wpAny_newTuple ?_)
  have he₄ : IsEnumO (h₃.push { cls := .type "tuple", data := .seq #[.int i tk, x] }) e it ((i : Int) + 1) item a f := Heap.get?_push_of_some _ he₃
  generalize hh₄ : h₃.push { cls := .type "tuple", data := .seq #[.int i tk, x] } = h₄ at he₄
  have hsz : h₃.objs.size = hp.objs.size := by rw [hs₃.1, hs₂.1, hs₁.1]
  have hel : e < hp.objs.size := Heap.lt_size he
  have ht₄ : h₄.get? hp.objs.size = some { cls := .type "tuple", data := .seq #[.int i tk, x] } := by rw [← hh₄, ← hsz]; exact Heap.get?_push_size _ rfl
  have hz₄ : h₄.objs.size = hp.objs.size + 1 := by rw [← hh₄, Heap.size_push, hsz]
  have hk₄ : ∀ b o, b ≠ e → b ≠ it → hp.get? b = some o → h₄.get? b = some o := fun b o hbe hbi hb => by
    rw [← hh₄]; exact Heap.get?_push_of_some _ (hs₃.extBut b o hbe (hs₂.extBut b o hbe (hs₁.extBut b o hbi hb)))
  have hit₄ : St (i + 1) h₄ := D.frame _ _ _ hit₁ fun b hb o y => by
    have hbe : b ≠ e := fun q => hef (q ▸ hb)
    rw [← hh₄]; exact Heap.get?_push_of_some _ (hs₃.extBut b o hbe (hs₂.extBut b o hbe y))
  have ha₄ : h₄.get? a = some oa := hk₄ a oa hae hai ha
  show wpAny _ _ (Builtin.SmallTypes.ownedTupleIsFree (.ref e) >>= _) _ _ ⟨h₄, g, d, tk + 1, os⟩
  rw [hsz]
  clear hh₄ he₃ hs₃ he₂ hs₂ he₁ hs₁ hit₁ hsz h₃ h₂ h₁
  refine wpAny_bind ?_
  unfold Builtin.SmallTypes.ownedTupleIsFree
  refine wpAny_bind (wpAny_field he₄ rfl (x := rawInt a) rfl ?_)
  show wpAny _ _ (loadIfAlive ((a : Int).toNat) >>= _) _ _ _
  rw [Int.toNat_natCast]
  refine wpAny_bind (PySem.W.kdx_alive ha₄ ?_)
  simp only [Option.isNone_some, Bool.false_eq_true, if_false]
  refine wpAny_bind (wpAny_field he₄ rfl (x := .bool f) rfl ?_)
  have fin : ∀ h₅ : Heap, IsEnumO h₅ e it ((i : Int) + 1) item a true → Heap.SameBut e h₄ h₅ → Q (.ref hp.objs.size) ⟨h₅, g, d, tk + 1, os⟩ := fun h₅ he₅ hs₅ =>
    hQ x h₅ tk hPx he₅ (D.frame _ _ _ hit₄ fun b hb o y => hs₅.extBut b o (fun q => hef (q ▸ hb)) y) (hs₅.extBut _ _ (Nat.ne_of_gt hel) ht₄) (by show h₅.objs.size = hp.objs.size + 1; rw [hs₅.1, hz₄]) fun b o hbe hbi hb => hs₅.extBut b o hbe (hk₄ b o hbe hbi hb)
  cases f with
  | true =>
    rw [if_neg (show ¬ ((Value.bool true != Value.bool true) = true) from Bool.false_ne_true)]
    refine wpAny_pure ?_
    simp only [Bool.false_eq_true, if_false]
    exact wpAny_pure ⟨_, rfl, fin h₄ he₄ (Heap.SameBut.refl _ _)⟩
  | false =>
    rw [if_pos (show (Value.bool false != Value.bool true) = true from rfl)]
    refine wpAny_bind (wpAny_setField_rec he₄ (by simp) fun h₅ he₅ hs₅ => ?_)
    replace hs₅ : Heap.SameBut e h₄ h₅ := hs₅
    replace he₅ : IsEnumO h₅ e it ((i : Int) + 1) item a true := he₅
    refine wpAny_pure ?_
    simp only [Bool.false_eq_true, if_false]
    exact wpAny_pure ⟨_, rfl, fin h₅ he₅ hs₅⟩
theorem enum_end_any {e it : Addr} {o0 o1 o3 o4 o5 : Value} {fp : List Addr} {n : Nat} {P : Nat → Value → Prop} {St : Nat → Heap → Prop} {Q : Option Value → Shared → Prop}
    (D : Draws prog w A.in1 it fp n P St) (he : s.heap.get? e = some { cls := .type "enumerate", dict := none, data := .fields #[o0, o1, .ref it, o3, o4, o5], slots := #[] }) (hst : St n s.heap)
    (hQ : ∀ h', Heap.ExtBut it s.heap h' → Q none { s with heap := h' }) : wpAny (model prog w) A (pyNext (.ref e)) Q E s := by
  have hT : s.TypeIs (.ref e) "enumerate" := ⟨_, he, rfl⟩
  unfold pyNext
  refine wpAny_bind (wpAny_attempt (wpAny_callSpecial?_slot (name := Str.ofString "__next__") hT F.slot_enumerate_next
    (wpAny_call_entry F.slot_enumerate_next hT F.entry_enumerate_next ?_ (F.args_enumerate_next_1 _))))
  show wpAny _ _ (field (.ref e) 2 >>= _) _ _ _
  refine wpAny_bind (wpAny_field he rfl (x := .ref it) rfl ?_)
  refine wpAny_bind (D.done _ _ _ hst fun h' x he' hx' => ?_)
  obtain ⟨o, ho, hc⟩ := hx'
  refine wpAny_bind (wpAny_isInstance (T := "StopIteration") (b := true) ⟨o, ho, hc⟩ isSubtype_stop ?_)
  exact wpAny_pure (hQ _ he')
/-- where an enumerate stands whose tuples are kept -/
def EnSt (St : Nat → Heap → Prop) (e it lo : Addr) (i : Nat) (h : Heap) : Prop :=
  St i h ∧ ((i = 0 ∧ ∃ old, IsEnum h e it 0 old) ∨ ∃ item a f oa, 0 < i ∧ IsEnumO h e it (i : Int) item a f ∧ h.get? a = some oa ∧ lo < a)
theorem outs_enum {e it lo : Addr} {fp : List Addr} {n : Nat} {P : Nat → Value → Prop} {St : Nat → Heap → Prop} (D : Draws prog w A.in1 it fp n P St) (hne : e ≠ it) (hef : e ∉ fp) (hlf : lo ∉ fp) (hel : e < lo) (hil : it < lo) :
    Outs prog w A e fp [e, it] lo n (fun i vals => ∃ t x, P i x ∧ vals = #[.int i t, x]) (EnSt St e it lo) where
  sub := fun b hb => by
    have : b = e ∨ b = it := by simpa using hb
    rcases this with rfl | rfl
    · exact hel
    · exact hil
  frame := fun i h h' st hk => by
    refine ⟨D.frame _ _ _ st.1 fun b hb o e => hk b (fun z => hlf (z ▸ hb)) o e, ?_⟩
    rcases st.2 with ⟨h0, old, he⟩ | ⟨item, a, f, oa, hi0, he, ha, hla⟩
    · exact .inl ⟨h0, old, hk e (Nat.ne_of_lt hel) _ he⟩
    · exact .inr ⟨item, a, f, oa, hi0, hk e (Nat.ne_of_lt hel) _ he, hk a (Nat.ne_of_gt hla) _ ha, hla⟩
  item := fun i s Q E hi st hlo hQ => by
    obtain ⟨st1, st2⟩ := st
    rcases st2 with ⟨rfl, old, he⟩ | ⟨item, a, f, oa, hi0, he, ha, hla⟩
    · refine wpAny_pyNext_enum_itemD D he st1 hi hne hef fun x h' tk hP ho hst' hT hsz hk => ?_
      exact hQ _ h' (tk + 1) ⟨tk, x, hP, rfl⟩ hT hsz ⟨hst', .inr ⟨x, _, false, _, Nat.succ_pos _, ho, hT, hlo⟩⟩ fun b o hb y => hk b o (fun z => hb (by simp [z])) (fun z => hb (by simp [z])) y
    · have hT : s.TypeIs (.ref e) "enumerate" := ⟨_, he, rfl⟩
      have hae : a ≠ e := Nat.ne_of_gt (Nat.lt_trans hel hla)
      have hai : a ≠ it := Nat.ne_of_gt (Nat.lt_trans hil hla)
      unfold pyNext
      refine wpAny_bind (wpAny_attempt (wpAny_callSpecial?_slot (name := Str.ofString "__next__") hT F.slot_enumerate_next
        (wpAny_call_entry F.slot_enumerate_next hT F.entry_enumerate_next
          (enum_next_out D he ha hae hai st1 hi hne hef fun x h' tk hP ho hst' hT hsz hk => wpAny_pure ?_) (F.args_enumerate_next_1 _))))
      exact hQ _ h' (tk + 1) ⟨tk, x, hP, rfl⟩ hT hsz ⟨hst', .inr ⟨item, a, true, oa, Nat.succ_pos _, ho, hk a oa hae hai ha, hla⟩⟩ fun b o hb y => hk b o (fun z => hb (by simp [z])) (fun z => hb (by simp [z])) y
  done := fun s Q E st hQ => by
    obtain ⟨st1, st2⟩ := st
    rcases st2 with ⟨h0, old, he⟩ | ⟨item, a, f, oa, hi0, he, ha, hla⟩
    · exact enum_end_any D he st1 fun h' hx => hQ h' s.toks fun b o hb y => hx b o (fun z => hb (by simp [z])) y
    · exact enum_end_any D he st1 fun h' hx => hQ h' s.toks fun b o hb y => hx b o (fun z => hb (by simp [z])) y
theorem nolen_enum : NoLen "enumerate" := ⟨by rw [typeLookup_type, builtinLookup_eq_fast]; kernel_rfl, by rw [typeLookup_type, builtinLookup_eq_fast]; kernel_rfl, by decide, by decide⟩
end
end PySem


set_option Elab.async false
set_option linter.all false
set_option maxRecDepth 100000
set_option maxHeartbeats 4000000
/-! MiS: list(enumerate(x)) as a rule. -/
namespace Mi
open PySem PySem.Spec PyProof.Rows L2
/-- tuples tracked at their addresses -/
def putV : Hp → List Addr → List (List V) → Hp
  | H, a :: as, p :: kvs => putV (upd H a (.tup p)) as kvs
  | H, _, _ => H
theorem putV_off {b : Addr} : ∀ (as : List Addr) (kvs : List (List V)) (H : Hp), b ∉ as → putV H as kvs b = H b
  | [], _, _, _ => rfl
  | _ :: _, [], _, _ => rfl
  | a :: as, p :: kvs, H, h => by
    show putV (upd H a (.tup p)) as kvs b = H b
    rw [putV_off as kvs _ (fun z => h (List.mem_cons_of_mem _ z)), upd_ne (fun z => h (by rw [z]; exact List.mem_cons_self))]
theorem putV_at : ∀ (as : List Addr) (kvs : List (List V)) (H : Hp), as.length = kvs.length → as.Nodup → ∀ (j : Nat) (a : Addr) (vs : List V), as[j]? = some a → kvs[j]? = some vs → putV H as kvs a = some (.tup vs)
  | [], _, _, _, _, j, a, vs, h, _ => by cases h
  | _ :: _, [], _, h, _, _, _, _, _, _ => by cases h
  | a :: as, p :: kvs, H, h, hn, 0, b, vs, e1, e2 => by
    have hn' := List.nodup_cons.mp hn
    cases e1
    cases e2
    show putV (upd H a (.tup p)) as kvs a = some (.tup p)
    rw [putV_off as kvs _ hn'.1, upd_same]
  | a :: as, p :: kvs, H, h, hn, j + 1, b, vs, e1, e2 => putV_at as kvs (upd H a (.tup p)) (Nat.succ.inj h) (List.nodup_cons.mp hn).2 j b vs e1 e2
section
variable {X : Cx}
theorem outs_laid {pins : List (Addr × Obj)} {σ : L2.St} {H : Hp} {s : Shared} {h' : Heap} {tk : Nat} {vss : List (List V)} {acc : Array Value} {c : Nat} {as : List Addr} {S : Addr} {P : Nat → Array Value → Prop} (I : Inv X pins σ H s) (hz : vss.length ≤ sizeLine) (hv : ∀ j vals, P j vals → ∃ vs, vss[j]? = some vs ∧ vs.length ≤ sizeLine ∧ Vals vs vals.toList)
    (hk : ∀ b o, s.heap.get? b = some o → h'.get? b = some o) (hSs : s.heap.objs.size ≤ S) (hS : h'.get? S = some { cls := .type "list", dict := none, data := .seq acc c, slots := #[] }) (hl : as.length = vss.length) (hG : OutG P S h' as) (hacc : acc.toList = as.map Value.ref) :
    ∃ H' : Hp, (∀ b o, H b = some o → H' b = some o) ∧ H S = none ∧ (∀ t ∈ as, H t = none) ∧ S ∉ as ∧ H' S = some (.lst (as.map V.ref)) ∧ (∀ (j : Nat) (a : Addr) (vs : List V), as[j]? = some a → vss[j]? = some vs → H' a = some (.tup vs)) ∧ Inv X pins σ H' { s with heap := h', toks := tk } := by
  have hSn : S ∉ as := fun z => Nat.lt_irrefl _ (hG.above _ z)
  have nd : as.Nodup := List.Pairwise.imp (fun {a b} (h : a < b) => Nat.ne_of_lt h) hG.rise
  have abv : ∀ t ∈ as, s.heap.objs.size ≤ t := fun t ht => Nat.le_of_lt (Nat.lt_of_le_of_lt hSs (hG.above t ht))
  have new : ∀ t ∈ as, H t = none := fun t ht => I.hok.fresh (abv t ht)
  have newS : H S = none := I.hok.fresh hSs
  have atP := putV_at as vss (upd H S (.lst (as.map V.ref))) hl nd
  have off : ∀ b, b ∉ as → b ≠ S → putV (upd H S (.lst (as.map V.ref))) as vss b = H b := fun b h1 h2 => by rw [putV_off as vss _ h1, upd_ne h2]
  have low : ∀ b o, s.heap.get? b = some o → b ∉ as ∧ b ≠ S := fun b o e => ⟨fun z => absurd (Heap.lt_size e) (Nat.not_lt.mpr (abv b z)), fun z => absurd (Heap.lt_size e) (Nat.not_lt.mpr (z ▸ hSs))⟩
  have kp : ∀ b u, H b = some u → (putV (upd H S (.lst (as.map V.ref))) as vss) b = some u := fun b u e => by
    rw [off b (fun z => by rw [new b z] at e; cases e) (fun z => by rw [z, newS] at e; cases e)]
    exact e
  have eS : putV (upd H S (.lst (as.map V.ref))) as vss S = some (.lst (as.map V.ref)) := by rw [putV_off as vss _ hSn, upd_same]
  refine ⟨putV (upd H S (.lst (as.map V.ref))) as vss, kp, newS, new, hSn, eS, atP, ?_⟩
  refine I.call' (ch := []) rfl ⟨fun b o q _ _ _ => hk b o q, fun b o q _ _ _ => ⟨o.slots, hk b o q⟩, fun b o q n _ => ?_, fun b o q _ => ⟨o, hk b o q⟩, fun b xs q => kp b _ q, fun b o u q => kp b _ q, fun b ps q => ⟨#[], by rw [kp b _ q]; simp⟩⟩ (fun b u q => ?_) I.bare fun b z => by simp at z
  · obtain ⟨z1, z2⟩ := low b o q
    rw [off b z1 z2]
    exact n
  · by_cases hb : b ∈ as
    · obtain ⟨j, hj⟩ := List.mem_iff_getElem?.mp hb
      obtain ⟨vals, f1, f2⟩ := hG.tups j b hj
      obtain ⟨vs, g1, g2, g3⟩ := hv j vals f1
      rw [atP j b vs hj g1] at q
      cases q
      exact ⟨g2, vals.toList, g3, ⟨_, f2, rfl, 0, by rw [Array.toArray_toList]⟩⟩
    · by_cases hb2 : b = S
      · rw [hb2] at q ⊢
        rw [eS] at q
        cases q
        refine ⟨by rw [List.length_map]; omega, acc.toList, c, by rw [hacc]; exact LiI.vals_refs as, ?_⟩
        rw [Array.toArray_toList]
        exact hS
      · rw [off b hb hb2] at q
        exact (I.hok b u q).stay (fun d v _ y => hk d v y) (fun d y => kp d _ y) fun d xs y => kp d _ y
/-- a new list of new tuples -/
def NewTs (H : Hp) (vss : List (List V)) (Q : VK) : Prop := ∀ (H' : Hp) (p : Addr) (ts : List Addr), (∀ b o, H b = some o → H' b = some o) → H p = none → (∀ t ∈ ts, H t = none) → p ∉ ts → ts.length = vss.length → H' p = some (.lst (ts.map V.ref)) →
  (∀ (j : Nat) (a : Addr) (vs : List V), ts[j]? = some a → vss[j]? = some vs → H' a = some (.tup vs)) → Q (.ref p) H'
def enV (xs : List V) : List (List V) := xs.mapIdx fun i x => [.int (i : Nat), x]
theorem enV_at {xs : List V} {i : Nat} {x : V} (h : xs[i]? = some x) : (enV xs)[i]? = some [.int (i : Nat), x] := by
  unfold enV
  rw [List.getElem?_mapIdx, h]; rfl
theorem enV_len (xs : List V) : (enV xs).length = xs.length := by simp [enV]
def tLstEn (K : PySem.W.Frag) (ta : TA) : TE := fun σ H Q => ta σ H fun vs H1 => ∃ a xs, vs = [.ref a] ∧ (SqT K H1 a xs ∨ SqL K H1 a xs) ∧ NewTs H1 (enV xs) Q
theorem pe_listEn {e : Expr} {ta : TA} {p p2 pos pos2 : Pos} (hc : X.calm = true) (hg : Gl X "list") (hm : X.mg "list" = none) (hg2 : Gl X "enumerate") (hm2 : X.mg "enumerate" = none) (ha : PA X [e] ta)
    (hs : starEach [e] X.env = [(false, eval e X.env)] := by rfl)
    (hs2 : starEach [.Call (.Name "enumerate" p2) [e] [] pos2] X.env = (false, eval (.Call (.Name "enumerate" p2) [e] [] pos2) X.env) :: starEach [] X.env := by rfl) :
    PE X (.Call (.Name "list" p) [.Call (.Name "enumerate" p2) [e] [] pos2] [] pos) (tLstEn X.K ta) := by
  refine ⟨fun pins s σ H Q I h => ?_⟩
  refine Call_ (ld_blt I hg hm boot_list (PyProof.Rows.callWith_type1 (args_cons (Call_ (ld_blt I hg2 hm2 boot_enumerate (PyProof.Rows.callWith_type1 (thn (ha.run pos2 pins s σ H _ I h) fun us s1 ⟨vs, H1, I1, r1, q1⟩ => ?_) hs rfl))) hs2) hs2 rfl))
  obtain ⟨a, xs, ex, hq, q⟩ := q1
  subst ex
  cases r1 with
  | cons r rr =>
    cases rr
    cases r
    have key : ∀ (its : List Value) (h' : Heap) (fp : List Addr) (St : Nat → Heap → Prop), Vals xs its → xs.length ≤ sizeLine → (D : Draws X.prog X.w X.A.in1.in1.in1 s1.heap.objs.size fp its.toArray.size (fun i v => its.toArray[i]? = some v) St) → (∀ b ∈ fp, b < s1.heap.objs.size + 1) → IsEnum h' (s1.heap.objs.size + 1) s1.heap.objs.size 0 .none → St 0 h' → h'.objs.size = s1.heap.objs.size + 2 →
        (∀ b o, s1.heap.get? b = some o → h'.get? b = some o) → wpAny (model X.prog X.w) X.A (call (.type "list") [.ref (s1.heap.objs.size + 1)]) (EP X pins σ Q) X.xe { s1 with heap := h' } := fun its h' fp St rv hz D hfp he hst hsz hk => by
      have hnf : s1.heap.objs.size + 1 ∉ fp := fun z => Nat.lt_irrefl _ (hfp _ z)
      have hlf : h'.objs.size ∉ fp := fun z => by have q : @LT.lt Nat _ h'.objs.size (s1.heap.objs.size + 1) := hfp _ z; omega
      refine outs_call (s := { s1 with heap := h' }) nolen_enum (outs_enum D (Nat.succ_ne_self _) hnf hlf (by show s1.heap.objs.size + 1 < h'.objs.size; omega) (by show s1.heap.objs.size < h'.objs.size; omega)) ⟨_, he, rfl⟩
        (fun A s' Q E st hQ => ?_) ⟨hst, .inl ⟨rfl, .none, he⟩⟩ (by rw [List.size_toArray, ← rv.length]; exact hz) fun h2 tk acc c as hk2 hS hl hG hacc => ?_
      · rcases st.2 with ⟨_, old, he⟩ | ⟨item, a, f, oa, hi0, _, _, _⟩
        · exact wpAny_pyIter_enum he hQ
        · exact absurd hi0 (Nat.lt_irrefl 0)
      · have hkk : ∀ b o, s1.heap.get? b = some o → h2.get? b = some o := fun b o e => hk2 b o (fun z => by
          have hb : @LT.lt Nat _ b s1.heap.objs.size := Heap.lt_size e
          have : b = s1.heap.objs.size + 1 ∨ b = s1.heap.objs.size := by simpa using z
          rcases this with z | z
          · exact absurd hb (by rw [z]; exact Nat.not_lt.mpr (Nat.le_succ _))
          · exact absurd hb (by rw [z]; exact Nat.lt_irrefl _)) (hk b o e)
        obtain ⟨H', k1, k2, k3, k4, k5, k6, J⟩ := outs_laid (tk := tk) (vss := enV xs) I1 (by rw [enV_len]; exact hz) (fun j vals hP => by
          obtain ⟨t, x, h1, rfl⟩ := hP
          have hj : its[j]? = some x := by simpa using h1
          obtain ⟨v, ev, rvv⟩ : ∃ v, xs[j]? = some v ∧ RelV v x := by
            rcases vals_get rv j with ⟨v, u, e1, e2, r⟩ | ⟨e1, e2⟩
            · rw [hj] at e2; cases e2; exact ⟨v, e1, r⟩
            · rw [hj] at e2; cases e2
          exact ⟨_, enV_at ev, by show 2 ≤ sizeLine; decide, .cons ⟨_, rfl⟩ (.cons rvv .nil)⟩) hkk (by show s1.heap.objs.size ≤ h'.objs.size; omega) hS (by rw [hl, List.size_toArray, enV_len, rv.length]) hG hacc
        exact ⟨.ref _, H', J, rfl, q H' _ as k1 k2 k3 k4 (by rw [hl, List.size_toArray, enV_len, rv.length]) k5 k6⟩
    rcases hq with hq | hq
    · obtain ⟨its, rv, p', hz⟩ := I1.tuple hq
      have la : a < s1.heap.objs.size := p'.lt
      refine mi_enum_begins1 (begins_tuple a its.toArray) p' fun h' he hit hsz hk => args_nil ?_
      exact key its h' _ _ rv hz (Draws.tuple (A := X.A.in1.in1.in1) (I1.ok.hd hc) s1.heap.objs.size a (Nat.ne_of_lt la) its.toArray) (fun b hb => by
        have : b = s1.heap.objs.size ∨ b = a := by simpa using hb
        rcases this with rfl | rfl
        · exact Nat.lt_succ_self _
        · exact Nat.lt_succ_of_lt la) he ⟨⟨_, hit, rfl, rfl⟩, let ⟨o, ho, r⟩ := p'; ⟨o, hk _ _ ho, r⟩⟩ hsz hk
    · obtain ⟨its, rv, p', hz⟩ := I1.list hq
      refine call_enumerate_list p'.isList fun h' he hit hsz hk => args_nil ?_
      have la : a < s1.heap.objs.size := let ⟨_, ho, _⟩ := p'.isList; Heap.lt_size ho
      exact key its h' _ _ rv hz (Draws.list (A := X.A.in1.in1.in1) (I1.ok.hd hc) s1.heap.objs.size a (Nat.ne_of_lt la) its.toArray) (fun b hb => by
        have : b = s1.heap.objs.size ∨ b = a := by simpa using hb
        rcases this with rfl | rfl
        · exact Nat.lt_succ_self _
        · exact Nat.lt_succ_of_lt la) he ⟨hit, p'.isList.at fun o e => hk _ _ e⟩ hsz hk
/-- .. frozen -/
theorem newTs_ok {W : Wo} {p : Addr} {F H : Hp} {u : PuS} {vss : List (List V)} {dss : List (List D)} {Q : VK} (g : Gd p u F H) (hl : vss.length = dss.length) (hr : ∀ (j : Nat) (vs : List V) (ds : List D), vss[j]? = some vs → dss[j]? = some ds → Reps W p F vs ds)
    (h : After p F H (some (D.lst (dss.map D.tup), u)) fun d _ F' H' => ∀ v, Rep W p F' v d → Q v H') : NewTs H vss Q := by
  intro H' q ts hk hq hts hqn htl hH hT
  have hF : ∀ b o, F b = some o → b ≠ q ∧ b ∉ ts := fun b o e => by
    have e' := g.ex _ _ e
    refine ⟨fun z => ?_, fun z => ?_⟩
    · rw [z, hq] at e'; cases e'
    · rw [hts b z] at e'; cases e'
  have hp : p ≠ q ∧ p ∉ ts := ⟨fun z => g.ne (z ▸ hq), fun z => g.ne (hts p z)⟩
  let F' : Hp := fun b => if b = q ∨ b ∈ ts then H' b else F b
  have f1 : ∀ b, b = q ∨ b ∈ ts → F' b = H' b := fun b hb => if_pos hb
  have f2 : ∀ b, ¬ (b = q ∨ b ∈ ts) → F' b = F b := fun b hb => if_neg hb
  have sm : Same F F' := fun b o e => by
    obtain ⟨z1, z2⟩ := hF b o e
    rw [f2 b (fun z => z.elim z1 z2)]; exact e
  refine h F' H' ⟨sm, fun a o _ e => hk a o e, fun a o e => ?_⟩ ⟨fun a o e => ?_, ?_, fun l e => ?_⟩ (.ref q) (Rep.mkL (vs := ts.map V.ref) (by rw [f1 q (.inl rfl)]; exact hH) ⟨by simp [htl, hl], fun i v d e1 e2 => ?_⟩)
  · by_cases z : a = q ∨ a ∈ ts
    · rcases z with z | z
      · rw [z]; exact .inr hq
      · exact .inr (hts a z)
    · rw [f2 a z] at e; exact .inl e
  · by_cases z : a = q ∨ a ∈ ts
    · rw [f1 a z] at e; exact e
    · rw [f2 a z] at e; exact hk a o (g.ex a o e)
  · exact hk p _ g.pu
  · rw [f2 p (fun z => z.elim hp.1 hp.2)]; exact g.off l e
  · rw [List.getElem?_map] at e1 e2
    cases e3 : ts[i]? with
    | none => rw [e3] at e1; cases e1
    | some t =>
      rw [e3] at e1
      cases e1
      cases e4 : dss[i]? with
      | none => rw [e4] at e2; cases e2
      | some ds =>
        rw [e4] at e2
        cases e2
        have hi : i < vss.length := by rw [hl]; exact (List.getElem?_eq_some_iff.mp e4).1
        have e5 : vss[i]? = some vss[i] := List.getElem?_eq_getElem hi
        have e6 := hT i t _ e3 e5
        exact Rep.mkT (by rw [f1 t (.inr (List.mem_of_getElem? e3))]; exact e6) ((hr i _ ds e5 e4).mono sm)
/-- list(enumerate(e)) -/
def enL : List D → Option D := fun ds => (enumA ds).map .lst
theorem dLstEn {X : Cx} {c : Cf} {e : Expr} {ms : MA} {p p2 pos pos2 : Pos} (hc : X.calm = true) (hg : Gl X "list") (hm : X.mg "list" = none) (hg2 : Gl X "enumerate") (hm2 : X.mg "enumerate" = none) (ha : DA X c [e] ms)
    (hs : starEach [e] X.env = [(false, eval e X.env)] := by rfl)
    (hs2 : starEach [.Call (.Name "enumerate" p2) [e] [] pos2] X.env = (false, eval (.Call (.Name "enumerate" p2) [e] [] pos2) X.env) :: starEach [] X.env := by rfl) (hK : X.K = c.W.K := by rfl) :
    DE X c (.Call (.Name "list" p) [.Call (.Name "enumerate" p2) [e] [] pos2] [] pos) (mCB enL ms) :=
  (pe_listEn hc hg hm hg2 hm2 ha hs hs2).imp fun σ H Q ⟨F, u, ρ, S, h⟩ => ⟨F, u, ρ, S, (After.split h).imp fun xs u1 F1 H1 _ s1 g1 h1 vs rvs => by
    obtain ⟨d, e1, h2⟩ := lft_some h1
    have key : ∀ (v : V) (ds : List D) (a : Addr) (ws : List V), Reps c.W c.p F1 ws ds → d = .lst (enumD ds) → NewTs H1 (enV ws) Q := fun v ds a ws rs ed => by
      have ed2 : d = .lst ((ds.mapIdx fun i x => [D.int (i : Nat), x]).map D.tup) := by
        rw [ed]; unfold enumD
        congr 1
        apply List.ext_getElem?
        intro i
        rw [List.getElem?_map, List.getElem?_mapIdx, List.getElem?_mapIdx, Option.map_map]
        rfl
      rw [ed2] at h2
      refine newTs_ok g1 (by simp [enV_len, rs.1]) (fun j vs ds' e3 e4 => ?_) h2
      rw [List.getElem?_mapIdx] at e4
      unfold enV at e3
      rw [List.getElem?_mapIdx] at e3
      cases e5 : ds[j]? with
      | none => rw [e5] at e4; cases e4
      | some x =>
        rw [e5] at e4
        cases e4
        obtain ⟨y, ey, ry⟩ := rs.get e5
        rw [ey] at e3
        cases e3
        exact Reps.cons (.int _) (Reps.cons ry Reps.nil)
    unfold enL enumA at e1
    split at e1
    · cases e1
      obtain ⟨v, rfl, rv⟩ := rvs.one
      obtain ⟨a, ws, rfl, ha, rs⟩ := rv.lst_
      exact ⟨a, ws, rfl, .inr (by rw [hK]; exact SqL.of (g1.ex _ _ ha)), key (.ref a) _ a ws rs rfl⟩
    · cases e1
      obtain ⟨v, rfl, rv⟩ := rvs.one
      obtain ⟨a, ws, rfl, ha, rs⟩ := rv.tup_
      exact ⟨a, ws, rfl, .inl (by rw [hK]; exact sq_t g1.ex ha), key (.ref a) _ a ws rs rfl⟩
    · cases e1⟩
end
end Mi


set_option Elab.async false
set_option linter.all false
set_option maxRecDepth 100000
set_option maxHeartbeats 4000000
/-! MiT: reversed, range downwards, sorted ints, f-strings. -/
namespace Mi
open PySem PySem.Spec PyProof.Rows L2
/-! ### reversed(list) -/
def revL : List D → Option (List D) := fun ds => match ds with
  | [.lst xs] => some xs.reverse
  | _ => none
@[simp] theorem s_revL {xs : List D} : revL [.lst xs] = some xs.reverse := rfl
def mIrev (ms : MA) : MA := fun ρ => M.bind (ms ρ) fun ds => lft (revL ds)
theorem dIrev {X : Cx} {c : Cf} {tg e : Expr} {ms : MA} {pos q : Pos} (hg : Gl X "reversed") (hm : X.mg "reversed" = none) (ha : DA X c [e] ms) (hs : starEach [e] X.env = [(false, eval e X.env)] := by rfl) (hK : X.K = c.W.K := by rfl) : DI X c tg (.Call (.Name "reversed" q) [e] [] pos) (mIrev ms) :=
  (pi_reversed hg hm ha hs).imp fun σ H R ⟨F, u, ρ, S, h⟩ => ⟨F, u, ρ, S, (After.split h).imp fun ds u1 F1 H1 _ s1 g1 h1 vs rvs => by
    obtain ⟨es, e1, h2⟩ := lft_some h1
    unfold revL at e1
    split at e1
    · rename_i xs _
      cases e1
      obtain ⟨v, rfl, rv⟩ := rvs.one
      obtain ⟨a, ws, rfl, ha, rs⟩ := rv.lst_
      refine ⟨a, ws, rfl, by rw [hK]; exact SqL.of (g1.ex _ _ ha), ?_⟩
      rw [hK]
      refine After.now g1 h2 _ ⟨_, _, by rw [List.length_reverse, ← rs.1]; exact walk_rev, fun H e => SqL.of (e _ _ ha), fun i H x H' F2 u d hd e g hy => ?_⟩
      obtain ⟨rfl, hx⟩ := hy
      refine ⟨F2, Stp.refl, g, ?_⟩
      have hi : i < xs.length := by
        have := (List.getElem?_eq_some_iff.mp hd).1
        simpa using this
      rw [List.getElem?_reverse hi] at hd
      rw [rs.1] at hx
      exact (rs.2 _ x d hx hd).mono e
    · cases e1⟩
@[simp] theorem ok_Irev {ρ : Env} {u : PuS} {ms : MA} {P : List D → PuS → Prop} : Ok (mIrev ms ρ) u P ↔ Ok (ms ρ) u fun ds u1 => ∃ z, revL ds = some z ∧ P z u1 := by unfold mIrev; simp only [ok_bind, ok_lft]
/-! ### range(a, b, -1) -/
/-! ### sorted ints -/
def srtI (b : Bool) (ns : List Int) : List Int := ns.mergeSort fun x y => if b = true then decide (y ≤ x) else decide (x ≤ y)
theorem srtI_perm (b : Bool) (ns : List Int) : (srtI b ns).Perm ns := List.mergeSort_perm _ _
theorem srtI_ord (b : Bool) (ns : List Int) : OrdB b (srtI b ns) := by
  have h := List.pairwise_mergeSort (le := fun x y : Int => if b = true then decide (y ≤ x) else decide (x ≤ y)) (by
    intro x y z h1 h2
    cases b with
    | true =>
      have h1 := of_decide_eq_true h1
      have h2 := of_decide_eq_true h2
      exact decide_eq_true (by omega)
    | false =>
      have h1 := of_decide_eq_true h1
      have h2 := of_decide_eq_true h2
      exact decide_eq_true (by omega)) (by
    intro x y
    cases b with
    | true =>
      show (decide (y ≤ x) || decide (x ≤ y)) = true
      by_cases z : y ≤ x
      · simp [z]
      · have : x ≤ y := by omega
        simp [this]
    | false =>
      show (decide (x ≤ y) || decide (y ≤ x)) = true
      by_cases z : y ≤ x
      · simp [z]
      · have : x ≤ y := by omega
        simp [this]) ns
  unfold OrdB srtI
  cases b with
  | true => exact h.imp fun {x y} z => of_decide_eq_true z
  | false => exact h.imp fun {x y} z => of_decide_eq_true z
theorem ordB_uniq {b : Bool} {xs ys : List Int} (h1 : OrdB b xs) (h2 : OrdB b ys) (p : xs.Perm ys) : xs = ys := by
  unfold OrdB at h1 h2
  cases b with
  | true => exact List.Perm.eq_of_pairwise (le := fun x y : Int => x ≥ y) (fun x y _ _ z1 z2 => by omega) h1 h2 p
  | false => exact List.Perm.eq_of_pairwise (le := fun x y : Int => x ≤ y) (fun x y _ _ z1 z2 => by omega) h1 h2 p
theorem bb_sorted : bootBuiltins "sorted" = some (.builtin "sorted") := by decide +kernel
def srtO (b : Bool) : List D → Option (List D) := fun ds => match ds with
  | [.lst xs] => (intsD xs).map fun ns => (srtI b ns).map D.int
  | _ => none
theorem srt_ok {W : Wo} {p : Addr} {F H H00 : Hp} {u : PuS} {vs : List V} {as es : List D} {b : Bool} {Q : VK} (g : Gd p u F H) (bk : ∀ q, H q = none → H00 q = none) (r : Reps W p F vs as) (e : srtO b as = some es)
    (h : After p F H (some (es, u)) fun ds _ F' H' => ∀ q vs, F' q = none → H00 q = none → H' q = some (.lst vs) → Reps W p F' vs ds → Q (.ref q) H') :
    ∃ (a : Addr) (ns : List Int), vs = [V.ref a] ∧ SqL W.K H a (ns.map V.int) ∧ ∀ (ns' : List Int) (q : Addr), ns'.Perm ns → OrdB b ns' → H q = none → Q (.ref q) (upd H q (.lst (ns'.map V.int))) := by
  unfold srtO at e
  split at e
  · rename_i xs
    cases e1 : intsD xs with
    | none => rw [e1] at e; cases e
    | some ns =>
      rw [e1] at e
      cases e
      obtain ⟨v, rfl, rv⟩ := r.one
      obtain ⟨a, ws, rfl, ha, rs⟩ := rv.lst_
      have ew := intsD_rep rs e1
      subst ew
      refine ⟨a, ns, rfl, SqL.of (g.ex _ _ ha), fun ns' q hp ho hq => ?_⟩
      have en : ns' = srtI b ns := ordB_uniq ho (srtI_ord b ns) (hp.trans (srtI_perm b ns).symm)
      subst en
      exact h _ _ (Stp.own hq) (g.own hq) q _ (g.fresh hq) (bk q hq) upd_same (reps_ints _)
  · cases e
theorem dSort {X : Cx} {c : Cf} {e : Expr} {ms : MA} {p pos : Pos} (hg : Gl X "sorted") (hm : X.mg "sorted" = none) (ha : DA X c [e] ms) (hK : X.K = c.W.K := by rfl)
    (he : starEach (e :: []) X.env = (false, eval e X.env) :: starEach [] X.env := by rfl) : DL X c (.Call (.Name "sorted" p) [e] [] pos) (mCBO (srtO false) ms) :=
  (pe_callB cr_sortedI hg hm bb_sorted ha (by decide) (by decide) he).imp fun σ H Q ⟨F, u, ρ, S, h⟩ => ⟨F, u, ρ, S, (After.split h).imp fun xs u1 F1 H1 _ s1 g1 h1 vs rvs => by
    obtain ⟨es, e1, h2⟩ := lft_some h1
    obtain ⟨a, ns, e2, e3, e4⟩ := srt_ok g1 (fun q hq => s1.back g1.ne hq) rvs e1 h2
    exact ⟨a, ns, e2, by rw [hK]; exact e3, fun ns' q hp ho hq => e4 ns' q hp ho hq⟩⟩
/-! ### f-strings -/
def fmtD : D → Option D
  | .str y => if y.length ≤ 100000 then some (.str y) else none
  | .int i => if i.natAbs.log2 < 1920 then some (.str (toString i)) else none
  | _ => none
def mFmt (m : ME) : ME := fun ρ => M.bind (m ρ) fun d => lft (fmtD d)
theorem dFmt {X : Cx} {c : Cf} {e : Expr} {m : ME} {pos : Pos} (he : DE X c e m) : DE X c (.FormattedValue e (-1) none pos) (mFmt m) :=
  (pe_fmt he).imp fun σ H Q ⟨F, u, ρ, S, h⟩ => ⟨F, u, ρ, S, (After.split h).imp fun d u1 F1 H1 _ s1 g1 h1 v rv => by
    obtain ⟨z, e1, h2⟩ := lft_some h1
    unfold fmtD at e1
    cases d with
    | str y =>
      simp only [] at e1
      split at e1
      · rename_i hl
        cases e1
        exact .inl ⟨y, rv.str_, sz5 hl, After.now g1 h2 _ (.str y)⟩
      · cases e1
    | int i =>
      simp only [] at e1
      split at e1
      · rename_i hl
        cases e1
        exact .inr ⟨i, rv.int_, hl, After.now g1 h2 _ (.str _)⟩
      · cases e1
    | _ => cases e1⟩
def mJs : List ME → Str → Env → M Str
  | [], acc, _ => M.pure acc
  | m :: ms, acc, ρ => M.bind (m ρ) fun d => match d with
    | .str y => if (acc ++ y).length ≤ 100000 then mJs ms (acc ++ y) ρ else lft none
    | _ => lft none
def mFs (ms : List ME) : ME := fun ρ => M.bind (mJs ms Str.empty ρ) fun s => M.pure (.str s)
inductive DJ (X : Cx) (c : Cf) : List Expr → List ME → Prop
  | nil : DJ X c [] []
  | cons {e : Expr} {m : ME} {es : List Expr} {ms : List ME} (h : DE X c e m) (r : DJ X c es ms) : DJ X c (e :: es) (m :: ms)
theorem DJ.pj {X : Cx} {c : Cf} {es : List Expr} {ms : List ME} (h : DJ X c es ms) : PJ X es (ms.map (rdE c)) := by
  induction h with
  | nil => exact .nil
  | cons h r ih => exact .cons h ih
theorem rdJs {c : Cf} : ∀ (ms : List ME) (acc : Str) (σ : L2.St) (H : Hp) (Q : Str → Hp → Prop) (F : Hp) (u : PuS) (ρ : Env), Sta c u F H σ ρ → After c.p F H (mJs ms acc ρ u) (fun s _ _ H' => Q s H') → tJs (ms.map (rdE c)) acc σ H Q
  | [], acc, σ, H, Q, F, u, ρ, S, h => After.now S.gd h
  | m :: ms, acc, σ, H, Q, F, u, ρ, S, h => ⟨F, u, ρ, S, (After.split h).imp fun d u1 F1 H1 _ s1 g1 h1 v rv => by
      cases d with
      | str y =>
        have h2 : After c.p F1 H1 ((if (acc ++ y).length ≤ 100000 then mJs ms (acc ++ y) ρ else lft none) u1) (fun s _ _ H' => Q s H') := h1
        by_cases hl : (acc ++ y).length ≤ 100000
        · rw [if_pos hl] at h2
          exact ⟨y, rv.str_, sz5 hl, rdJs ms (acc ++ y) σ H1 Q F1 u1 ρ (S.step s1 g1) h2⟩
        · rw [if_neg hl] at h2; exact False.elim h2
      | _ => exact False.elim h1⟩
theorem dFs {X : Cx} {c : Cf} {v1 v2 : Expr} {rest : List Expr} {ms : List ME} {pos : Pos} (h : DJ X c (v1 :: v2 :: rest) ms) : DE X c (.JoinedStr (v1 :: v2 :: rest) pos) (mFs ms) :=
  (pe_joined h.pj).imp fun σ H Q ⟨F, u, ρ, S, h⟩ => rdJs ms _ σ H _ F u ρ S ((After.split h).imp fun s u1 F1 H1 _ s1 g1 h1 => After.now g1 h1 _ (.str s))
@[simp] theorem ok_Fmt {ρ : Env} {u : PuS} {m : ME} {P : D → PuS → Prop} : Ok (mFmt m ρ) u P ↔ Ok (m ρ) u fun d u1 => ∃ z, fmtD d = some z ∧ P z u1 := by unfold mFmt; simp only [ok_bind, ok_lft]
@[simp] theorem ok_Fs {ρ : Env} {u : PuS} {ms : List ME} {P : D → PuS → Prop} : Ok (mFs ms ρ) u P ↔ Ok (mJs ms Str.empty ρ) u fun s u1 => P (.str s) u1 := by unfold mFs; simp only [ok_bind, ok_pure]
@[simp] theorem ok_Js0 {ρ : Env} {u : PuS} {acc : Str} {P : Str → PuS → Prop} : Ok (mJs [] acc ρ) u P ↔ P acc u := ok_pure
@[simp] theorem ok_Js {ρ : Env} {u : PuS} {acc : Str} {m : ME} {ms : List ME} {P : Str → PuS → Prop} : Ok (mJs (m :: ms) acc ρ) u P ↔ Ok (m ρ) u fun d u1 => ∃ y, d = .str y ∧ (acc ++ y).length ≤ 100000 ∧ Ok (mJs ms (acc ++ y) ρ) u1 P := by
  show Ok (M.bind _ _) u P ↔ _
  rw [ok_bind]
  constructor
  · refine fun h => h.mono fun d u1 z => ?_
    cases d with
    | str y =>
      by_cases hl : (acc ++ y).length ≤ 100000
      · simp only [hl, if_true] at z; exact ⟨y, rfl, hl, z⟩
      · simp only [hl, if_false] at z; exact (ok_none.mp z).elim
    | _ => exact (ok_none.mp z).elim
  · refine fun h => h.mono fun d u1 z => ?_
    obtain ⟨y, rfl, hl, z⟩ := z
    simp only [hl, if_true]; exact z
end Mi


set_option Elab.async false
set_option linter.all false
set_option maxRecDepth 100000
set_option maxHeartbeats 4000000
namespace Mi
open PySem L2
/-- one statement; what follows and what is wanted are hidden -/
theorem seq_go {m n : MS} {ρ : Env} {u : PuS} {P : Fl → PuS → Prop} (h : ∀ (K : Env → PuS → Prop) (R : Fl → PuS → Prop), (∀ ρ1 u1, Ok (n ρ1) u1 P → K ρ1 u1) → (∀ f u1, P f u1 → R f u1) → Ok (m ρ) u fun f u1 => match f with
    | .nx ρ1 => K ρ1 u1
    | f' => R f' u1) : Ok (mSeq m n ρ) u P := ok_seq.mpr ((h (fun ρ1 u1 => Ok (n ρ1) u1 P) P (fun _ _ => id) (fun _ _ => id)).mono fun f u1 z => by
  cases f with
  | nx ρ1 => exact z
  | _ => exact z)
/-- a statement; what is wanted is hidden -/
theorem st_go {m : MS} {ρ : Env} {u : PuS} {P : Fl → PuS → Prop} (h : ∀ (R : Fl → PuS → Prop), (∀ f u1, P f u1 → R f u1) → Ok (m ρ) u R) : Ok (m ρ) u P := h P fun _ _ => id
end Mi


set_option Elab.async false
set_option linter.all false
set_option maxRecDepth 100000
set_option maxHeartbeats 4000000
/-! MiV: a, b, c, d = .., fresh lists among them. -/
namespace Mi
open PySem PySem.Spec PyProof.Rows L2
section
variable {X : Cx} {c : Cf} {pos : Pos} {ms : MM}
end
@[simp] theorem s_setAll4 {k l m n : Nat} {s t r q : Sd} {ρ : Env} : setAll [k, l, m, n] [s, t, r, q] ρ = (((ρ.set k s).set l t).set m r).set n q := rfl
@[simp] theorem s_setAll5 {k l m n o : Nat} {s t r q p : Sd} {ρ : Env} : setAll [k, l, m, n, o] [s, t, r, q, p] ρ = ((((ρ.set k s).set l t).set m r).set n q).set o p := rfl
end Mi





set_option Elab.async false
set_option linter.all false
set_option maxRecDepth 100000
set_option maxHeartbeats 4000000
/-! MiO: in, [..] and the binary operators by own methods. -/
namespace Mi
open PySem PySem.Spec PyProof.Rows L2 He
/-! ### in -/
/-- the right operand is an instance of the class at C, then its own in -/
def rIn (C : Addr) (g : Bool → Bool) (sp : Sp) : R2 := fun x y H Q => ∃ b dy gs, y = .ref b ∧ H b = some (.ins C dy gs) ∧ sp [.ref b, x] H (fun v H' => ∃ c, v = .bl c ∧ Q (.bl (g c)) H') E0
section
variable {X : Cx} {k : Nat} {f C : Addr} {fd : FuncData} {ps : List Str} {sp : Sp}
end
/-! ### mirrors -/
section
variable {X : Cx} {c : Cf} {k : Nat} {f : Addr} {fd : FuncData} {ps : List Str} {mf : List D → M D} {ck : Str} {a b : Expr} {ma mb : ME} {pos : Pos}
end
/-! ### wp -/
section
variable {ρ : Env} {u : PuS} {P : D → PuS → Prop} {k : Str} {mf : List D → M D} {ma mb : ME}
end
end Mi



set_option Elab.async false
set_option linter.all false
set_option maxRecDepth 100000
set_option maxHeartbeats 4000000
/-! MiJ: max(xs, default=d) of ints; [x] * n as a fresh list. -/
namespace L2
open PySem PySem.Spec PyProof.Rows
/-- the greatest one, d if there is none -/
def mxD (d : Int) : List Int → Int
  | [] => d
  | n :: ns => Mi.maxL (n :: ns)
theorem maxOf_int : ∀ (xs : List Int) (x : Int), PySem.W.maxOf x xs ∈ x :: xs ∧ ∀ y ∈ x :: xs, y ≤ PySem.W.maxOf x xs
  | [], x => ⟨by simp [PySem.W.maxOf], fun y hy => by simp [PySem.W.maxOf] at hy ⊢; omega⟩
  | z :: xs, x => by
    have e : PySem.W.maxOf x (z :: xs) = PySem.W.maxOf (if PySem.W.DatumOrd.lt x z = true then z else x) xs := rfl
    have hl : (PySem.W.DatumOrd.lt x z = true) ↔ x < z := by
      show decide (x < z) = true ↔ _
      exact decide_eq_true_iff
    rw [e]
    by_cases h : x < z
    · rw [if_pos (hl.mpr h)]
      obtain ⟨h1, h2⟩ := maxOf_int xs z
      refine ⟨List.mem_cons_of_mem _ h1, fun y hy => ?_⟩
      rcases List.mem_cons.mp hy with rfl | hy
      · have := h2 z List.mem_cons_self; omega
      · exact h2 y hy
    · rw [if_neg (fun q => h (hl.mp q))]
      obtain ⟨h1, h2⟩ := maxOf_int xs x
      refine ⟨?_, fun y hy => ?_⟩
      · rcases List.mem_cons.mp h1 with h1 | h1
        · rw [h1]; exact List.mem_cons_self
        · exact List.mem_cons_of_mem _ (List.mem_cons_of_mem _ h1)
      · rcases List.mem_cons.mp hy with rfl | hy
        · exact h2 _ List.mem_cons_self
        · rcases List.mem_cons.mp hy with rfl | hy
          · have := h2 x List.mem_cons_self; omega
          · exact h2 y (List.mem_cons_of_mem _ hy)
def rMaxDf (K : PySem.W.Frag) (d : Int) : List V → List V → Hp → VK → Prop := fun vs zs H Q => ∃ (a : Addr) (ns : List Int), vs = [V.ref a] ∧ zs = [.int d] ∧ SqL K H a (ns.map V.int) ∧ Q (.int (mxD d ns)) H
section
variable {X : Cx}
theorem dpAll_ints {K : PySem.W.Frag} {H : Hp} : ∀ ns : List Int, DpAll K H (ns.map V.int) (ns.map PyData.int)
  | [] => .nil
  | n :: ns => .cons (.int n) (dpAll_ints ns)
theorem cr_maxDf {d : Int} (hc : X.calm = true) (hu : X.A.units + 65 < cLine) : CallRK X (.builtin "max") [Str.ofString "default"] (rMaxDf X.K d) := by
  intro pins s σ H vs zs us ws Q I r rz h
  obtain ⟨a, ns, rfl, rfl, hs, q⟩ := h
  obtain rfl := Vals.ref1 r
  obtain ⟨w1, rfl, t1, rfl⟩ := vals1 rz
  obtain ⟨its, rv, hl, hz⟩ := I.list hs
  obtain ⟨as, hr⟩ := Dp.readsAll I (ns.map PyData.int) (ns.map V.int) its (dpAll_ints ns) rv
  refine PySem.W.max_list_datum_default (α := Int) (xs := ns) (vs := its.toArray) (I.ok.hd hc) hl.isList ⟨as, hr⟩ ?_ (fun e h' tk hk => ?_) (fun y ys i v h' tk e hi hv hk => ?_)
  · show X.A.units + 1 + 0 < cLine
    omega
  · subst e
    exact ⟨.int d, H, I.kept (t' := tk) hk, ⟨_, rfl⟩, q⟩
  · subst e
    obtain ⟨bs, hv⟩ := hv
    obtain ⟨h1, h2⟩ := maxOf_int ys y
    have em : mxD d (y :: ys) = PySem.W.maxOf y ys := Mi.maxL_is h1 h2
    rw [em] at q
    have hv' : Reads h' v (PyData.int (PySem.W.maxOf y ys)) bs := hv
    cases hv' with
    | int i t => exact ⟨.int _, H, I.kept (t' := tk) hk, ⟨_, rfl⟩, q⟩
end
end L2
namespace Mi
open PySem PySem.Spec PyProof.Rows L2
def maxDf (d : Int) : List D → Option D := fun ds => match ds with
  | [.lst xs] => (intsD xs).map fun ns => .int (mxD d ns)
  | _ => none
theorem room65' {k : Nat} {A : Around} (r : Room k A) : A.units + 65 < cLine := by have := r.un; omega
theorem dMaxDf {X : Cx} {c : Cf} {e : Expr} {ms : MA} {d : Int} {p pos kpos cp : Pos} {kk : Nat} (hc : X.calm = true) (hu : X.A.units + 65 < cLine) (hg : Gl X "max") (hm : X.mg "max" = none) (ha : DA X c [e] ms) (hK : X.K = c.W.K := by rfl)
    (he : backTo pos (starEach (e :: []) X.env) = (false, eval e X.env) :: backTo pos (starEach [] X.env) := by rfl) (hpl : (backTo pos (starEach (e :: []) X.env)).any (fun x => x.fst) = false := by rfl) : DE X c (.Call (.Name "max" p) [e] [⟨some "default", .Constant (.int d) kk cp, kpos⟩] pos) (mCB (maxDf d) ms) :=
  (pe_callBK (ks := [Str.ofString "default"]) (cr_maxDf (d := d) hc hu) hg hm bb_max ha (dKcons (c := c) (me := mC (.int d)) dInt dKnil) (by decide) (by decide) he hpl).imp fun σ H Q ⟨F, u, ρ, S, h⟩ => ⟨F, u, ρ, S, (After.split h).imp fun xs u1 F1 H1 _ s1 g1 h1 vs rvs => by
    obtain ⟨es, e1, h2⟩ := lft_some h1
    refine ⟨F1, u1, ρ, S.step s1 g1, ?_⟩
    show After c.p F1 H1 (some ([D.int d], u1)) _
    intro F2 H2 s2 g2 zs rz
    obtain ⟨z, rfl, rzz⟩ := rz.one
    unfold maxDf at e1
    split at e1
    · rename_i ys _h
      cases e2 : intsD ys with
      | none => rw [e2] at e1; cases e1
      | some ns =>
        rw [e2] at e1
        cases e1
        obtain ⟨v, rfl, rv⟩ := rvs.one
        obtain ⟨a, ws, rfl, ha', rs⟩ := rv.lst_
        have ew := intsD_rep rs e2
        subst ew
        refine ⟨a, ns, rfl, by rw [rzz.int_], by rw [hK]; exact SqL.of (g2.ex _ _ (s2.ef _ _ ha')), ?_⟩
        exact h2 F2 H2 s2 g2 (.int (mxD d ns)) (.int _)
    · cases e1⟩
/-! ### int of a bool -/
def intBD : List D → Option D := fun ds => match ds with
  | [.bl k] => some (.int (if k then 1 else 0))
  | _ => none
theorem m_intB {W : Wo} : CallM W (fun xs H Q => (∃ i, xs = [.int i] ∧ Q (.int i) H) ∨ ∃ k, xs = [.bl k] ∧ Q (.int (if k then 1 else 0)) H) intBD := by
  intro p F H u xs as Q gd r h
  obtain ⟨d, e, _⟩ := lft_some h
  have e0 := e
  unfold intBD at e
  split at e
  · rename_i k
    cases e
    obtain ⟨v, rfl, rv⟩ := r.one
    exact .inr ⟨k, by rw [rv.bl_], OpM.ret gd h e0 (.int _)⟩
  · cases e
@[simp] theorem s_intB {k : Bool} : intBD [.bl k] = some (.int (if k then 1 else 0)) := rfl
/-! ### [x] * n -/
def repO : D → D → Option (List D)
  | .lst a, .int k => if k ≤ 100000 ∧ -100000 ≤ k ∧ a.length * k.toNat ≤ 100000 then some (List.replicate k.toNat a).flatten else none
  | _, _ => none
theorem dRepO {X : Cx} {c : Cf} {pos : Pos} {a b : Expr} {ma mb : ME} (ha : DE X c a ma) (hb : DE X c b mb) : DL X c (.BinOp a .Mult b pos) (mBinO repO ma mb) :=
  (pe_op op_rep ha hb).imp fun σ H Q ⟨F, u, ρ, S, h⟩ => ⟨F, u, ρ, S, (After.split h).imp fun x u1 F1 H1 _ s1 g1 h1 v rv => ⟨F1, u1, ρ, S.step s1 g1, (After.split h1).imp fun y u2 F2 H2 _ s2 g2 h2 w rw => by
    obtain ⟨ds, e, h3⟩ := lft_some h2
    unfold repO at e
    split at e
    · rename_i xs k _h _h2
      split at e
      · rename_i hl
        cases e
        obtain ⟨p1, v1, rfl, f1, q1⟩ := (rv.mono s2.ef).lst_
        refine ⟨p1, k, v1, rfl, rw.int_, g2.ex _ _ f1, by omega, by omega, sz5 (by rw [q1.1]; exact hl.2.2), fun q hq => ?_⟩
        exact h3 _ _ (Stp.own hq) (g2.own hq) q _ (g2.fresh hq) (s1.back g1.ne (s2.back g2.ne hq)) upd_same (q1.rep _)
      · cases e
    · cases e⟩⟩
end Mi


set_option Elab.async false
set_option linter.all false
set_option maxRecDepth 100000
set_option maxHeartbeats 4000000
/-! MiI: repr(..), str(..) by own methods, sep.join(list of texts). -/
namespace Mi
open PySem PySem.Spec PyProof.Rows L2 He
/-! ### str of an instance -/
theorem str_K {prog : Program} {w : World} {A : Around} {E : Value → Shared → Prop} {s : Shared} {K : PySem.W.Frag} {x C L f : Addr} {h₀ : Heap} {m : Str → Option Value} {ox : Obj} {od : Option Obj} {Q : Value → Shared → Prop} (hu : A.in1.in1.units < cLine) (F : Fr h₀ L s.heap m) (X₀ : K.In h₀) (I : PySem.W.InstAt s.heap x ox C od) (hs : PySem.W.findIn K (.ref C) "__str__" = some (some (.ref f))) (hf : PySem.W.isFn K (.ref f) = true)
    (h : wpAny (model prog w) A.in1.in1 (call (.ref f) [.ref x]) (PySem.W.StrBack Q) E s) : wpAny (model prog w) A (call (.type "str") [.ref x]) Q E s := by
  refine callType_codes (Q₁ := fun obj s₁ => s₁.TypeIs obj "str" ∧ Q obj s₁) PySem.F.called_str (PySem.F.typeCall_str_1 _) PySem.F.entry_object_init ?_ fun obj s₁ h₁ =>
    ⟨h₁.1, PySem.F.args_object_init_2 obj _, object_init_meets PySem.F.called_str.init.lookup PySem.F.called_str.made (by decide) prog w A.in1 _ s₁ ⟨h₁.1, rfl, h₁.2⟩⟩
  refine codeAny_call_builtin PySem.F.called_str.plain PySem.F.entry_str_new (wpAny_of_eq (PySem.F.newCall_str_1 _) ?_)
  rw [str_new_tree]
  refine wpAny_bind (wpAny_pure ?_)
  refine wpAny_bind (wpAny_of_eq isSubtype_str_str ?_)
  refine wpAny_bind ?_
  unfold Builtin.Str.strOf
  show wpAny _ _ (do
    cRoomFor "str" [.ref x]
    let some r ← callSpecial? (.ref x) "__str__" | unsupported "internal:no-__str__"
    if (← asStr? r).isNone then
      rule "str-of.not-a-str"; raiseError "TypeError" s!"__str__ returned non-string (type {← typeNameOf r})"
    pure r) _ _ _
  refine wpAny_bind (wpAny_cRoomFor hu ?_)
  refine wpAny_bind (m := callSpecial? (.ref x) (Str.ofString "__str__")) (PySem.W.special_fn (X₀.keeps F.keep) I hs (beq_iff_eq.mp hf) (wpAny_mono h (fun r s' hr => ?_) fun _ _ y => y))
  cases r <;> first | exact hr.elim | skip
  refine wpAny_bind (wpAny_pure ?_)
  refine wpAny_pure ?_
  refine wpAny_pure ?_
  exact ⟨typeIs_str _ _ _, hr⟩
/-! ### repr, str of what is an instance, None or a truth -/
def rTxt (C : Addr) (sp : Sp) : List V → Hp → VK → Prop := fun xs H Q => ∃ a dx fs, xs = [.ref a] ∧ H a = some (.ins C dx fs) ∧ sp [.ref a] H (fun v H' => ∃ n : Str, v = .str n ∧ Q (.str n) H') E0
section
variable {X : Cx} {c : Cf} {k : Nat} {f C : Addr} {fd : FuncData} {ps : List Str} {sp : Sp} {mf : List D → M D} {ck : Str} {a : Expr} {ma : ME} {pos : Pos}
theorem call_reprOb (G : FnOk X.prog X.w X.K X.mg X.base CX0 k f fd ps sp) (hr : Room (k + 1) X.A) (hb : Binds X.K fd ps []) (hc : OwnM X.K C f "__repr__") : CallR X (.builtin "repr") (rTxt C sp) := by
  intro pins s σ H vs us Q I r h
  obtain ⟨a, dx, fs, rfl, ha, q⟩ := h
  obtain ⟨u1, rfl, ru⟩ := Vals.one r
  cases ru
  obtain ⟨mA, J, _⟩ := ins_get I.hok ha
  obtain ⟨od, J, _⟩ := J.look
  obtain ⟨m, hF⟩ := I.fr
  refine PySem.W.repr_K hr.in1.units0 hF I.ok.mod.kin J hc.has hc.fn ?_
  refine wpAny_mono (call_at (vs := [.ref a]) G hr.in1 rfl hb I (.cons rfl .nil) q) (fun v s' z => ?_) fun _ _ z => z
  obtain ⟨w, H', I', rw, n, ew, qq⟩ := z
  subst ew
  obtain ⟨t, rfl⟩ := rw
  exact ⟨.str n, H', I', ⟨_, rfl⟩, qq⟩
theorem call_strOb (G : FnOk X.prog X.w X.K X.mg X.base CX0 k f fd ps sp) (hr : Room (k + 2) X.A) (hb : Binds X.K fd ps []) (hc : OwnM X.K C f "__str__") : CallR X (.type "str") (rTxt C sp) := by
  intro pins s σ H vs us Q I r h
  obtain ⟨a, dx, fs, rfl, ha, q⟩ := h
  obtain ⟨u1, rfl, ru⟩ := Vals.one r
  cases ru
  obtain ⟨mA, J, _⟩ := ins_get I.hok ha
  obtain ⟨od, J, _⟩ := J.look
  obtain ⟨m, hF⟩ := I.fr
  refine str_K hr.in1.in1.units0 hF I.ok.mod.kin J hc.has hc.fn ?_
  refine wpAny_mono (call_at (vs := [.ref a]) G hr.in1.in1 rfl hb I (.cons rfl .nil) q) (fun v s' z => ?_) fun _ _ z => z
  obtain ⟨w, H', I', rw, n, ew, qq⟩ := z
  subst ew
  obtain ⟨t, rfl⟩ := rw
  exact ⟨.str n, H', I', ⟨_, rfl⟩, qq⟩
def bTx (b : Bool) : Str := if b then "True" else "False"
def rRep (C : Addr) (sp : Sp) : List V → Hp → VK → Prop := fun xs H Q => rTxt C sp xs H Q ∨ (xs = [.non] ∧ Q (.str "None") H) ∨ ∃ b, xs = [.bl b] ∧ Q (.str (bTx b)) H
theorem call_repr0 : CallR X (.builtin "repr") (fun xs H Q => (xs = [.non] ∧ Q (.str "None") H) ∨ ∃ b, xs = [.bl b] ∧ Q (.str (bTx b)) H) := by
  intro pins s σ H vs us Q I r h
  rcases h with ⟨rfl, q⟩ | ⟨b, rfl, q⟩
  · obtain ⟨u1, rfl, ru⟩ := Vals.one r
    cases ru
    exact PySem.P.repr_of_none ⟨.str _, H, I.tok _, ⟨_, rfl⟩, q⟩
  · obtain ⟨u1, rfl, ru⟩ := Vals.one r
    cases ru
    exact PySem.P.repr_of_bool ⟨.str _, H, I.tok _, ⟨_, rfl⟩, q⟩
theorem call_reprX (G : FnOk X.prog X.w X.K X.mg X.base CX0 k f fd ps sp) (hr : Room (k + 1) X.A) (hb : Binds X.K fd ps []) (hc : OwnM X.K C f "__repr__") : CallR X (.builtin "repr") (rRep C sp) := by
  intro pins s σ H vs us Q I r h
  rcases h with h | h
  · exact call_reprOb G hr hb hc pins s σ H vs us Q I r h
  · exact call_repr0 pins s σ H vs us Q I r h
def mTxt (mf : List D → M D) (ds : List D) : M D := M.bind (mf ds) fun r => match r with
  | .str n => M.pure (.str n)
  | _ => lft none
/-- repr of an instance of the class k, of None, of a truth -/
def mRep (k : Str) (mf : List D → M D) (mo : ME) : ME := fun ρ => M.bind (mo ρ) fun d => match d with
  | .obj c ks ds => if c = k then mTxt mf [.obj c ks ds] else lft none
  | .non => M.pure (.str "None")
  | .bl b => M.pure (.str (bTx b))
  | _ => lft none
/-- str of an instance of the class k -/
def mStrO (k : Str) (mf : List D → M D) (mo : ME) : ME := fun ρ => M.bind (mo ρ) fun d => match d with
  | .obj c ks ds => if c = k then mTxt mf [.obj c ks ds] else lft none
  | _ => lft none
theorem txt_go {c : Cf} {F1 H1 : Hp} {u1 : PuS} {p1 : Addr} {dx : Addr} {vs : List V} {ks : List Str} {ds : List D} {Q : VK} (g1 : Gd c.p u1 F1 H1) (h3 : F1 p1 = some (.ins (c.W.cl ck) dx (ks.zip vs))) (rv : Rep c.W c.p F1 (.ref p1) (.obj ck ks ds))
    (h1 : After c.p F1 H1 (mTxt mf [.obj ck ks ds] u1) (fun d _ F' H' => ∀ v, Rep c.W c.p F' v d → Q v H')) : rTxt (c.W.cl ck) (spM c.W 1 mf) [.ref p1] H1 Q := by
  refine ⟨p1, dx, _, rfl, g1.ex _ _ h3, rfl, c.p, F1, u1, [_], g1, Reps.cons rv Reps.nil, (After.split h1).imp fun d u3 F3 H3 _ s3 g3 h5 z rz => ?_⟩
  split at h5
  · rename_i n _h
    have h6 : After c.p F3 H3 (some (D.str n, u3)) (fun d _ F' H' => ∀ v, Rep c.W c.p F' v d → Q v H') := h5
    exact ⟨n, rz.str_, After.now g3 h6 _ (.str n)⟩
  · exact False.elim h5
theorem bb_repr : bootBuiltins "repr" = some (.builtin "repr") := by decide +kernel
theorem dRepX {p0 : Pos} (G : FnOk X.prog X.w X.K X.mg X.base CX0 k f fd ps (spM c.W 1 mf)) (hr : Room (k + 1) X.A) (hb : Binds X.K fd ps []) (hc : OwnM X.K (c.W.cl ck) f "__repr__")
    (hg : Gl X "repr") (hm : X.mg "repr" = none) (ha : DE X c a ma) (he : starEach [a] X.env = (false, eval a X.env) :: starEach [] X.env := by rfl) : DE X c (.Call (.Name "repr" p0) [a] [] pos) (mRep ck mf ma) :=
  (pe_callB (call_reprX G hr hb hc) hg hm bb_repr (pa_cons ha pa_nil he) (by decide) (by decide) he rfl).imp fun σ H Q ⟨F, u, ρ, S, h⟩ =>
    ⟨F, u, ρ, S, (After.split h).imp fun x u1 F1 H1 _ s1 g1 h1 v rv => by
      cases x with
      | obj cc ks ds =>
        have h2 : After c.p F1 H1 ((if cc = ck then mTxt mf [.obj cc ks ds] else lft none) u1) (fun d _ F' H' => ∀ v, Rep c.W c.p F' v d → Q v H') := h1
        by_cases hh : cc = ck
        · subst hh
          rw [if_pos rfl] at h2
          obtain ⟨p1, dx, vs, rfl, h3, _⟩ := id rv.obj_
          exact .inl (txt_go g1 h3 rv h2)
        · rw [if_neg hh] at h2; exact False.elim h2
      | non =>
        have h2 : After c.p F1 H1 (some (D.str "None", u1)) (fun d _ F' H' => ∀ v, Rep c.W c.p F' v d → Q v H') := h1
        exact .inr (.inl ⟨by rw [rv.non_], After.now g1 h2 _ (.str _)⟩)
      | bl b =>
        have h2 : After c.p F1 H1 (some (D.str (bTx b), u1)) (fun d _ F' H' => ∀ v, Rep c.W c.p F' v d → Q v H') := h1
        exact .inr (.inr ⟨b, by rw [rv.bl_], After.now g1 h2 _ (.str _)⟩)
      | _ => exact False.elim h1⟩
theorem dStrO {p0 : Pos} (G : FnOk X.prog X.w X.K X.mg X.base CX0 k f fd ps (spM c.W 1 mf)) (hr : Room (k + 2) X.A) (hb : Binds X.K fd ps []) (hc : OwnM X.K (c.W.cl ck) f "__str__")
    (hg : Gl X "str") (hm : X.mg "str" = none) (ha : DE X c a ma) (he : starEach [a] X.env = (false, eval a X.env) :: starEach [] X.env := by rfl) : DE X c (.Call (.Name "str" p0) [a] [] pos) (mStrO ck mf ma) :=
  (pe_callTy (call_strOb G hr hb hc) hg hm bb_str (pa_cons ha pa_nil he) (by decide) (by decide) he rfl).imp fun σ H Q ⟨F, u, ρ, S, h⟩ =>
    ⟨F, u, ρ, S, (After.split h).imp fun x u1 F1 H1 _ s1 g1 h1 v rv => by
      cases x with
      | obj cc ks ds =>
        have h2 : After c.p F1 H1 ((if cc = ck then mTxt mf [.obj cc ks ds] else lft none) u1) (fun d _ F' H' => ∀ v, Rep c.W c.p F' v d → Q v H') := h1
        by_cases hh : cc = ck
        · subst hh
          rw [if_pos rfl] at h2
          obtain ⟨p1, dx, vs, rfl, h3, _⟩ := id rv.obj_
          exact txt_go g1 h3 rv h2
        · rw [if_neg hh] at h2; exact False.elim h2
      | _ => exact False.elim h1⟩
/-! ### join -/
end
@[simp] theorem ok_txt {mf : List D → M D} {ds : List D} {u : PuS} {P : D → PuS → Prop} : Ok (mTxt mf ds) u P ↔ Ok (mf ds) u fun d u1 => ∃ n, d = .str n ∧ P (.str n) u1 := by
  unfold mTxt
  rw [ok_bind]
  constructor
  · refine fun h => h.mono fun d u1 z => ?_
    cases d with
    | str y => exact ⟨y, rfl, ok_pure.mp z⟩
    | _ => exact (ok_none.mp z).elim
  · refine fun h => h.mono fun d u1 z => ?_
    obtain ⟨n, rfl, z⟩ := z
    exact ok_pure.mpr z
theorem ok_rep {k : Str} {mf : List D → M D} {mo : ME} {ρ : Env} {u : PuS} {P : D → PuS → Prop} : Ok (mRep k mf mo ρ) u P ↔ Ok (mo ρ) u fun d u1 => Ok ((match d with
  | .obj c ks ds => if c = k then mTxt mf [.obj c ks ds] else lft none
  | .non => M.pure (.str "None")
  | .bl b => M.pure (.str (bTx b))
  | _ => lft none : M D)) u1 P := by
  unfold mRep
  rw [ok_bind]
theorem ok_strO {k : Str} {mf : List D → M D} {mo : ME} {ρ : Env} {u : PuS} {P : D → PuS → Prop} : Ok (mStrO k mf mo ρ) u P ↔ Ok (mo ρ) u fun d u1 => Ok ((match d with
  | .obj c ks ds => if c = k then mTxt mf [.obj c ks ds] else lft none
  | _ => lft none : M D)) u1 P := by
  unfold mStrO
  rw [ok_bind]
/-! ### == of texts -/
def neSD : D → D → Option D
  | .str a, .str b => some (.bl (!decide (a = b)))
  | _, _ => none
theorem m_neS {W : Wo} : OpM W rNe neSD := by
  intro p F H u x y a b Q gd rx ry h
  obtain ⟨d, e, _⟩ := lft_some h
  have e0 := e
  unfold neSD at e
  split at e
  · cases e
    rename_i a b _hh
    rw [rx.str_, ry.str_]
    refine ⟨rfl, ?_⟩
    have e1 : decide (V.str a = V.str b) = decide (a = b) := by rw [Bool.eq_iff_iff]; simp
    rw [e1]
    exact OpM.ret gd h e0 (.bl _)
  · cases e
@[simp] theorem s_neS' {a b : Str} : neSD (.str a) (.str b) = some (.bl (!decide (a = b))) := rfl
/-! ### recursion -/
end Mi


set_option Elab.async false
set_option linter.all false
set_option maxRecDepth 100000
set_option maxHeartbeats 4000000
/-! MiM: class methods, defs with a star parameter, a class made by a local name. -/
namespace Mi
open PySem PySem.Spec PyProof.Rows L2 He StX
/-! ### a class held in a local -/
section
variable {X : Cx} {CX : CXT} {k i : Nat} {f C : Addr} {fd : FuncData} {ps : List Str} {sp : Sp} {E : XK} {x : Str} {e : Expr} {es : List Expr} {t : TA} {p pos : Pos} {dvs : List V} {ds : List Value}
theorem pe_makeV (M : Mk X.K C f) (F : FnOk X.prog X.w X.K X.mg X.base CX k f fd ps sp) (hr : Room (k + 1) X.A) (hN : X.N[i]? = some x) (hv : Vis X.env.scope x) (hb : Binds X.K fd ps ds) (hd : Vals dvs ds) (hx : Passes CX X E)
    (ha : PA X (e :: es) t) (hdb : (x == ("__debug__" : Str)) = false) (hcd : (x == ("__classdict__" : Str)) = false) (he : starEach (e :: es) X.env = (false, eval e X.env) :: starEach es X.env) (hpl : (backTo pos (starEach es X.env)).any (·.1) = false) :
    PE X (.Call (.Name x p) (e :: es) [] pos) (fun σ H Q => σ[i]? = some (some (.ref C)) ∧ tMake C sp dvs E t σ H Q) := by
  refine ⟨fun pins s σ H Q I h => ?_⟩
  obtain ⟨hi, h⟩ := h
  refine wpAny_Call_Name_kw (thn ((pe_var hN hv hdb hcd).run pins s σ H (fun v H' => v = .ref C ∧ tMake C sp dvs E t σ H' Q) I ⟨_, hi, rfl, h⟩) fun u s1 ⟨v, H1, I1, rv, ev, q⟩ => ?_)
  subst ev
  obtain rfl : u = Value.ref C := rv
  refine PySem.W.callWith_K (h₀ := X.base) I1.ok.mod.kin M.kp (thn (ha.run pos pins s1 σ H1 _ I1 q) fun us s2 ⟨vs, H2, I2, r, q2⟩ => ⟨I2.kIn, ?_⟩) he hpl
  exact run_make M F hr hb hd hx I2 r q2
end
def mMakeV (ck : Str) (i n : Nat) (mf : List D → M (List Str × List D)) (ms : MA) : ME := fun ρ => M.bind (mVar i ρ) fun d => match d with
  | .cls c => if c = ck then mMake ck n mf ms ρ else lft none
  | _ => lft none
section
variable {X : Cx} {c : Cf} {k n : Nat} {f : Addr} {fd : FuncData} {ps : List Str} {x ck : Str} {p pos : Pos} {e : Expr} {es : List Expr} {ms : MA} {mf : List D → M (List Str × List D)}
theorem dMakeV (i : Nat) (hc : ck ∈ c.W.cs) (Mk' : Mk X.K (c.W.cl ck) f) (G : FnOk X.prog X.w X.K X.mg X.base CX0 k f fd ps (spI c.W ck n mf)) (hr : Room (k + 1) X.A) (hb : Binds X.K fd ps [])
    (ha : DA X c (e :: es) ms) (hN : X.N[i]? = some x := by rfl) (hv : Vis X.env.scope x := by first | exact Or.inl rfl | exact Or.inr (Or.inl rfl) | exact Or.inr (Or.inr rfl)) (hdb : (x == ("__debug__" : Str)) = false := by decide) (hcd : (x == ("__classdict__" : Str)) = false := by decide) (he : starEach (e :: es) X.env = (false, eval e X.env) :: starEach es X.env := by rfl) (hpl : (backTo pos (starEach es X.env)).any (·.1) = false := by rfl) :
    DE X c (.Call (.Name x p) (e :: es) [] pos) (mMakeV ck i n mf ms) :=
  (pe_makeV Mk' G hr hN hv hb .nil pass0 ha hdb hcd he hpl).imp fun σ H Q ⟨F, u, ρ, S, h⟩ => by
    unfold mMakeV at h
    obtain ⟨d, e0, h2⟩ : ∃ d, vSh ρ i = some d ∧ After c.p F H ((match d with | .cls c' => if c' = ck then mMake ck n mf ms ρ else lft none | _ => lft none : M D) u) (fun d _ F' H' => ∀ v, Rep c.W c.p F' v d → Q v H') := by
      have h1 : After c.p F H (M.bind (lft (vSh ρ i)) _ u) _ := h
      unfold M.bind lft at h1
      cases e1 : vSh ρ i with
      | none => rw [e1] at h1; exact False.elim h1
      | some d => rw [e1] at h1; exact ⟨d, rfl, h1⟩
    obtain ⟨v, e1, r⟩ := S.var e0
    cases d with
    | cls cc =>
      have h3 : After c.p F H ((if cc = ck then mMake ck n mf ms ρ else lft none) u) (fun d _ F' H' => ∀ v, Rep c.W c.p F' v d → Q v H') := h2
      by_cases hh : cc = ck
      · subst hh
        rw [if_pos rfl] at h3
        have ev : v = .ref (c.W.cl cc) := by cases r; rfl
        subst ev
        refine ⟨e1, F, u, ρ, S, (After.split h3).imp fun ds u1 F1 H1 _ s1 g1 h1 vs rvs => ?_⟩
        intro a dx ha hdx hne
        show spI c.W cc n mf (.ref a :: (vs ++ [])) _ _ _
        rw [List.append_nil]
        exact make_ok hc g1 rvs h1 a dx ha hdx hne
      · rw [if_neg hh] at h3; exact False.elim h3
    | _ => exact False.elim h2
end
/-! ### a def with a star parameter -/
def spS (W : Wo) (n : Nat) (mf : List D → M D) : Sp := fun vs H Q _ => n ≤ vs.length ∧ vs.length ≤ 100000 ∧ ∃ p F u ds, Gd p u F H ∧ Reps W p F vs ds ∧ After p F H (mf ds u) fun d _ F' H' => ∀ v, Rep W p F' v d → Q v H'
def mFnS (n N : Nat) (mb : MS) : List D → M D := fun ds => mFn N mb (ds.take n ++ [.tup (ds.drop n)])
section
variable {P : Program} {w : World} {K : PySem.W.Frag} {mg : Str → Option Value} {base : Heap} {x qual : Str} {params : Arguments} {body : List Stmt} {scope : Scope} {dvs : List V} {kws : List (Str × V)} {f : Addr} {fd : FuncData} {W : Wo} {N ps : List Str} {pv : Str} {k : Nat} {mb : MS}
theorem fn_mirS (F : FunD K x qual params body scope [] kws f fd) (S : FnScope N (ps ++ [pv]) scope)
    (hbd : ∀ (kV doc pm : Value) (an : Option Addr) (cdv ct : Value) (us rest : List Value), us.length = ps.length → bindArgs (PySem.W.fnOf x qual params body scope .none kV doc pm an cdv ct) ⟨us ++ rest, []⟩ = (newTuple rest >>= fun t => pure (ps.zip us ++ [(pv, t)])))
    (hb : ∀ (cdv : Value) (A : Around) (outer : List PySem.Env) (s : Shared) (H : Hp) (E : XK) (p : Addr) (F0 : Hp), Room k (A.deeper (envOfC qual scope s.heap.objs.size f cdv)) → DB (cxOf CX0 P w K mg base N qual scope f cdv A outer s H E).nox ⟨W, p, F0, H, 0⟩ body mb) :
    FnR P w K mg base CX0 (k + 1) f (spS W ps.length (mFnS ps.length N.length mb)) := by
  obtain ⟨oc, od, dV, kV, doc, pm, an, cdv, ct, osl, rfl, lk, hcd, hdf, _⟩ := F.ex
  have hdv : dV = .none := by
    rcases hdf with ⟨_, h⟩ | ⟨h, _⟩
    · exact h
    · exact absurd rfl h
  subst hdv
  have hst := fn_star (P := P) (w := w) (mg := mg) (base := base) (CX := CX0) (k := k) (sp := spM W (ps ++ [pv]).length (mFn N.length mb)) lk hcd S cxUp_none (hbd kV doc pm an cdv ct) (fun A outer s H vs Q E hr h => by
    obtain ⟨hl, p, F0, u, ds, g, r, h⟩ := h
    refine ⟨_, PSs.nox (hb cdv A outer s H E p F0 hr), F0, u, startE N.length ds, ⟨Stp.refl, g, env_start r⟩, ?_⟩
    unfold mFn at h
    cases e : mb (startE N.length ds) u with
    | none => rw [e] at h; exact h
    | some y =>
      obtain ⟨fl, u1⟩ := y
      rw [e] at h
      cases fl with
      | rt d =>
        intro v F' H' s' g' rv
        have h2 : After p F0 H (some (d, u1)) (fun d _ F' H' => ∀ v, Rep W p F' v d → Q v H') := h
        exact h2 F' H' s' g' v rv
      | rl ds' => exact False.elim h
      | nx ρ' =>
        intro σ' F' H' _ S'
        have h2 : After p F0 H (some (D.non, u1)) (fun d _ F' H' => ∀ v, Rep W p F' v d → Q v H') := h
        exact h2 F' H' S'.ent S'.gd .non .non
      | bk ρ' => exact False.elim h
      | ct ρ' => exact False.elim h)
  intro A outer s H us vs Q E hr e0 r hsp
  refine hst A outer s H us vs Q E hr e0 r ?_
  obtain ⟨hn, hl, p, F1, u, ds, g, rr, h⟩ := hsp
  refine ⟨vs.take ps.length, vs.drop ps.length, (List.take_append_drop _ _).symm, by rw [List.length_take]; omega, by rw [List.length_drop]; exact sz5 (by omega), fun q hq => ?_⟩
  refine ⟨by simp; omega, p, upd F1 q (.tup (vs.drop ps.length)), u, ds.take ps.length ++ [.tup (ds.drop ps.length)], g.new hq, ?_, ?_⟩
  · have sm := (Stp.new (o := .tup (vs.drop ps.length)) g hq).ef
    exact ((rr.take _).mono sm).append (Reps.cons (Rep.mkT upd_same ((rr.drop _).mono sm)) Reps.nil)
  · have st := Stp.new (o := .tup (vs.drop ps.length)) g hq
    have h' : After p F1 H (mFn N.length mb (ds.take ps.length ++ [.tup (ds.drop ps.length)]) u) fun d _ F' H' => ∀ v, Rep W p F' v d → Q v H' := h
    cases e : mFn N.length mb (ds.take ps.length ++ [.tup (ds.drop ps.length)]) u with
    | none => rw [e] at h'; exact h'
    | some y =>
      rw [e] at h'
      obtain ⟨d, u1⟩ := y
      exact fun F2 H2 s2 g2 => h' F2 H2 (st.trans (g.new hq).ne s2) g2
end
/-! ### C.m(..), m a class method -/
def mCMeth (ck : Str) (mf : List D → M D) (mo : ME) (ms : MA) : ME := fun ρ => M.bind (mo ρ) fun d => match d with
  | .cls c => if c = ck then M.bind (ms ρ) fun ds => if ds.length < 100000 then mf (.cls ck :: ds) else lft none else lft none
  | _ => lft none
section
variable {X : Cx} {c : Cf} {k n : Nat} {p g : Addr} {mc : Value} {o e : Expr} {es : List Expr} {m ck : Str} {pos apos : Pos} {mo : ME} {ms : MA} {pl : Sem Bool} {mf : List D → M D}
theorem dCMeth (hc : ck ∈ c.W.cs) (he : DE X c o mo) (r : ClX.CRead X.K (c.W.cl ck) mc ∧ ClX.CMet X.K (c.W.cl ck) mc m p g) (hn : n ≤ (e :: es).length + 1) (F : FnR X.prog X.w X.K X.mg X.base CX0 k g (spS c.W n mf)) (hr : Room k X.A) (ha : DA X c (e :: es) ms) (hms : ∀ ρ u ds u', ms ρ u = some (ds, u') → n ≤ ds.length + 1)
    (hst : starEach (e :: es) X.env = (false, eval e X.env) :: starEach es X.env := by rfl) (hpl : (backTo pos (starEach es X.env)).any (·.1) = false := by rfl)
    (ht : eval (.Call (.Attribute o m apos) (e :: es) [] pos) X.env = (do
      let ov ← eval o X.env
      standAt apos.atName
      let (f, first) ← holding [ov] (getMethod ov m pl)
      callWith pos f first (backTo pos (starEach (e :: es) X.env)) (backToKw pos (keywordEach [] X.env))) := by rfl) :
    DE X c (.Call (.Attribute o m apos) (e :: es) [] pos) (mCMeth ck mf mo ms) :=
  (ClX.pe_cmeth he r.1 r.2 F hr pass0 ha hst hpl ht).imp fun σ H Q ⟨F, u, ρ, S, h⟩ => ⟨F, u, ρ, S, (After.split h).imp fun x u1 F1 H1 _ s1 g1 h1 v rv => by
    cases x with
    | cls cc =>
      have h3 : After c.p F1 H1 ((if cc = ck then M.bind (ms ρ) (fun ds => if ds.length < 100000 then mf (.cls ck :: ds) else lft none) else lft none) u1) (fun d _ F' H' => ∀ v, Rep c.W c.p F' v d → Q v H') := h1
      by_cases hh : cc = ck
      · subst hh
        rw [if_pos rfl] at h3
        refine ⟨by cases rv; rfl, F1, u1, ρ, S.step s1 g1, (After.split h3).imp fun ds u2 F2 H2 ems s2 g2 h4 vs rvs => ?_⟩
        have h5 : After c.p F2 H2 ((if ds.length < 100000 then mf (.cls cc :: ds) else lft none) u2) (fun d _ F' H' => ∀ v, Rep c.W c.p F' v d → Q v H') := h4
        by_cases hl : ds.length < 100000
        · rw [if_pos hl] at h5
          have := rvs.1
          have hnn := hms _ _ _ _ ems
          exact ⟨by simp; omega, by simp; omega, c.p, F2, u2, .cls cc :: ds, g2, Reps.cons (.cls cc hc) rvs, h5⟩
        · rw [if_neg hl] at h5; exact False.elim h5
      · rw [if_neg hh] at h3; exact False.elim h3
    | _ => exact False.elim h1⟩
end
theorem ok_makeV {ck : Str} {i n : Nat} {mf : List D → M (List Str × List D)} {ms : MA} {ρ : Env} {u : PuS} {P : D → PuS → Prop} (h : vSh ρ i = some (.cls ck)) : Ok (mMakeV ck i n mf ms ρ) u P ↔ Ok (mMake ck n mf ms ρ) u P := by
  unfold mMakeV mVar
  rw [ok_bind, ok_lft, h]
  simp
theorem ok_cmeth {ck : Str} {mf : List D → M D} {ms : MA} {ρ : Env} {u : PuS} {P : D → PuS → Prop} : Ok (mCMeth ck mf (mC (.cls ck)) ms ρ) u P ↔ Ok (ms ρ) u fun ds u1 => ds.length < 100000 ∧ Ok (mf (.cls ck :: ds)) u1 P := by
  unfold mCMeth
  rw [ok_bind, ok_C]
  simp only [if_true, ok_bind]
  constructor
  · refine fun h => h.mono fun ds u1 z => ?_
    by_cases hl : ds.length < 100000
    · rw [if_pos hl] at z; exact ⟨hl, z⟩
    · rw [if_neg hl] at z; exact (ok_none.mp z).elim
  · refine fun h => h.mono fun ds u1 z => ?_
    rw [if_pos z.1]
    exact z.2
/-! ### a text times a number -/
def mulSD : D → D → Option D
  | .str a, .int n => if 1 < n ∧ n ≤ 1000 ∧ a.length ≤ 100 then some (.str (Txt.mul a n)) else none
  | _, _ => none
theorem op_mulS {X : Cx} : OpR X (binaryOp .Mult) (fun x y H Q => ∃ a n, x = .str a ∧ y = .int n ∧ (1 < n ∧ n ≤ 1000 ∧ a.length ≤ 100) ∧ Q (.str (Txt.mul a n)) H) := by
  intro pins s σ H x y v u Q I rx ry h
  obtain ⟨a, n, rfl, rfl, ⟨h1, h2, h3⟩, q⟩ := h
  obtain ⟨t, rfl⟩ := rx
  obtain ⟨t', rfl⟩ := ry
  refine PySem.SB.mul ⟨by simp; omega, fun _ _ => ?_, fun _ _ => ?_⟩ fun t k => ⟨.str _, H, I.tok _, ⟨_, rfl⟩, q⟩
  · have hd : (2 ^ 63 - 1 : Int) / 1000 ≤ (2 ^ 63 - 1) / n := by
      rw [Int.le_ediv_iff_mul_le (by omega)]
      have : (2 ^ 63 - 1 : Int) / 1000 * n ≤ (2 ^ 63 - 1 : Int) / 1000 * 1000 := Int.mul_le_mul_of_nonneg_left h2 (by decide)
      have h4 : (2 ^ 63 - 1 : Int) / 1000 * 1000 ≤ 2 ^ 63 - 1 := by decide
      omega
    have h5 : (100 : Int) ≤ (2 ^ 63 - 1 : Int) / 1000 := by decide
    omega
  · have h4 : a.length * n.toNat ≤ 100 * 1000 := Nat.mul_le_mul h3 (by omega)
    unfold Builtin.Str.tooLong
    have h5 : ¬ a.length * n.toNat > sizeLine := by
      have : sizeLine = 16777216 := by decide
      omega
    exact decide_eq_false h5
theorem m_mulS {W : Wo} : OpM W (fun x y H Q => ∃ a n, x = .str a ∧ y = .int n ∧ (1 < n ∧ n ≤ 1000 ∧ a.length ≤ 100) ∧ Q (.str (Txt.mul a n)) H) mulSD := by
  intro p F H u x y a b Q gd rx ry h
  obtain ⟨d, e, _⟩ := lft_some h
  have e0 := e
  unfold mulSD at e
  split at e
  · rename_i a n
    split at e
    · rename_i hc
      cases e
      exact ⟨a, n, rx.str_, ry.int_, hc, OpM.ret gd h e0 (.str _)⟩
    · cases e
  · cases e
end Mi


set_option Elab.async false
set_option linter.all false
set_option maxRecDepth 100000
set_option maxHeartbeats 4000000
namespace Sh
open PySem PySem.Spec PyProof.Rows L2 Mi He
@[reducible] def mb_is_integer : MS := mRet (mAndV (mCB isiD (mCons (mVar 0) (mCons (mC (.ty "int")) (mNil)))) (mNotV (mCB isiD (mCons (mVar 0) (mCons (mC (.ty "bool")) (mNil))))))
def mf_is_integer : List D → M D := mFn 1 mb_is_integer
@[reducible] def mb_is_natural : MS := mRet (mAndV (mCall 1 mf_is_integer (mCons (mVar 0) (mNil))) (mBin geD (mVar 0) (mC (.int 0))))
def mf_is_natural : List D → M D := mFn 1 mb_is_natural
end Sh


set_option Elab.async false
set_option linter.all false
set_option maxRecDepth 100000
set_option maxHeartbeats 4000000
namespace Sh
open PySem PySem.Spec PyProof.Rows L2 Mi He
@[reducible] def ce_is_name_1 : ME := mOrV (mBin inD (mVar 1) (mC (.str "abcdefghijklmnopqrstuvwxyz"))) (mBin inD (mVar 1) (mC (.str "0123456789")))
@[reducible] def mb_is_name : MS := mSeq (mIfS (mOr (mNot (mB (mCB isiD (mCons (mVar 0) (mCons (mC (.ty "str")) (mNil)))))) (mOr (mNot (mB (mChain leD leD (mC (.int 1)) (mCB lenD (mCons (mVar 0) (mNil))) (mC (.int 8))))) (mB (mBin ninD (mBin ixD (mVar 0) (mC (.int 0))) (mC (.str "abcdefghijklmnopqrstuvwxyz")))))) (mRet (mC (.bl false))) (mNext)) (mRet (mCB allD (mCons (mFz (mLcO [1] (mIany (mVar 0)) (mGn 1) (mYes) (ce_is_name_1))) (mNil))))
def mf_is_name : List D → M D := mFn 2 mb_is_name
@[reducible] def lb_wrong_pair_1 : MS := mSeq (mIfS (mOr (mNot (mB (mCB isiD (mCons (mVar 3) (mCons (mC (.ty "tuple")) (mNil)))))) (mOr (mB (mBin neMD (mCB lenD (mCons (mVar 3) (mNil))) (mC (.int 2)))) (mB (mBin eqMD (mVar 2) (mC (.int 12)))))) (mRet (mVar 2)) (mNext)) (mSeq (mAsg (mVar 3) (mGt 2 (mGcons (mGn 4) (mGcons (mGn 5) (mGnil))))) (mSeq (mIfS (mBorT 1 (mOr (mNot (mB (mCall 1 mf_is_name (mCons (mVar 4) (mNil))))) (mOr (mNot (mB (mCB isiD (mCons (mVar 5) (mCons (mC (.cls "Card")) (mNil)))))) (mB (mBin inD (mVar 4) (mVar 1)))))) (mRet (mVar 2)) (mNext)) (mApp 1 (mVar 4))))
@[reducible] def mb_wrong_pair : MS := mSeq (mSetO 1 (mLstO (mNil))) (mSeq (mFor (mIof enumA (mCons (mVar 0) (mNil))) (mGt 2 (mGcons (mGn 2) (mGcons (mGn 3) (mGnil)))) (lb_wrong_pair_1)) (mRet (mC .non)))
def mf_wrong_pair : List D → M D := mFn 6 mb_wrong_pair
@[reducible] def mb_Wallet___init__ : MS := mSeq (mIfS (mNot (mB (mCB isiD (mCons (mVar 1) (mCons (mC (.ty "tuple")) (mNil)))))) (mStuck) (mNext)) (mSeq (mSet 2 (mCall 1 mf_wrong_pair (mCons (mVar 1) (mNil)))) (mSeq (mIfS (mB (mBin isntD (mVar 2) (mC .non))) (mStuck) (mNext)) (mSelfSet 0 "Wallet" "pairs" (mVar 1))))
def mf_Wallet___init__ : List D → M (List Str × List D) := mInit 3 "Wallet" mb_Wallet___init__
@[reducible] def mb_Card___init__ : MS := mSeq (mIfS (mNot (mB (mCall 1 mf_is_natural (mCons (mVar 1) (mNil))))) (mStuck) (mNext)) (mSeq (mIfS (mOr (mNot (mB (mCall 1 mf_is_natural (mCons (mVar 2) (mNil))))) (mB (mBin eqMD (mVar 2) (mC (.int 0))))) (mStuck) (mNext)) (mSeq (mIfS (mB (mBin gtD (mVar 1) (mBin mulD (mC (.int 24)) (mVar 2)))) (mStuck) (mNext)) (mSeq (mSelfSet 0 "Card" "held" (mVar 1)) (mSelfSet 0 "Card" "daily" (mVar 2)))))
def mf_Card___init__ : List D → M (List Str × List D) := mInit 3 "Card" mb_Card___init__
@[reducible] def mb_check_wallet : MS := mIfS (mNot (mB (mCB isiD (mCons (mVar 0) (mCons (mC (.cls "Wallet")) (mNil)))))) (mStuck) (mNext)
def mf_check_wallet : List D → M D := mFn 1 mb_check_wallet
@[reducible] def mb_worth : MS := mRet (mCB minD (mCons (mVar 0) (mCons (mBin mulD (mVar 2) (mVar 1)) (mNil))))
def mf_worth : List D → M D := mFn 3 mb_worth
end Sh


set_option Elab.async false
set_option linter.all false
set_option maxRecDepth 100000
set_option maxHeartbeats 4000000
namespace Sh
open PySem PySem.Spec PyProof.Rows L2 Mi He
@[reducible] def mb_check_course : MS := mIfS (mNot (mB (mCB isiD (mCons (mVar 0) (mCons (mC (.cls "Course")) (mNil)))))) (mStuck) (mNext)
def mf_check_course : List D → M D := mFn 1 mb_check_course
@[reducible] def mb_Card_limit : MS := mRet (mUn (fldD "Card" ["held", "daily"] 1) (mVar 0))
def mf_Card_limit : List D → M D := mFn 1 mb_Card_limit
@[reducible] def mb_Card_balance : MS := mRet (mUn (fldD "Card" ["held", "daily"] 0) (mVar 0))
def mf_Card_balance : List D → M D := mFn 1 mb_Card_balance
@[reducible] def ce_asked_sets_1 : ME := mTup (mCons (mBin subD (mVar 6) (mCall 3 mf_worth (mCons (mSelf "Card" mf_Card_balance (mVar 3)) (mCons (mSelf "Card" mf_Card_limit (mVar 3)) (mCons (mCB lenD (mCons (mVar 7) (mNil))) (mNil)))))) (mCons (mVar 7) (mNil)))
@[reducible] def ce_asked_sets_2 : ME := mTup (mCons (mBin addD (mVar 6) (mVar 3)) (mCons (mBin addD (mTup (mCons (mVar 2) (mNil))) (mVar 7)) (mNil)))
@[reducible] def ce_asked_sets_3 : ME := mIf (mB (mBin geD (mBin ixD (mBin ixD (mVar 1) (mVar 8)) (mC (.int 0))) (mBin ixD (mBin ixD (mVar 4) (mBin subD (mVar 8) (mC (.int 1)))) (mC (.int 0))))) (mBin ixD (mVar 1) (mVar 8)) (mBin ixD (mVar 4) (mBin subD (mVar 8) (mC (.int 1))))
@[reducible] def lb_asked_sets_4 : MS := mIfS (mB (mCB isiD (mCons (mVar 3) (mCons (mC (.cls "Card")) (mNil))))) (mSet 1 (mFz (mLcO [6, 7] (mIany (mVar 1)) (mGt 2 (mGcons (mGn 6) (mGcons (mGn 7) (mGnil)))) (mYes) (ce_asked_sets_1)))) (mSeq (mSet 4 (mFz (mLcO [6, 7] (mIany (mVar 1)) (mGt 2 (mGcons (mGn 6) (mGcons (mGn 7) (mGnil)))) (mYes) (ce_asked_sets_2)))) (mSeq (mSet 5 (mFz (mBorLs [] (mLcO [8] (mIof rng2 (mCons (mC (.int 1)) (mCons (mCB lenD (mCons (mVar 1) (mNil))) (mNil)))) (mGn 8) (mYes) (ce_asked_sets_3))))) (mSet 1 (mBin addD (mBin addD (mFz (mLstO (mCons (mBin ixD (mVar 1) (mC (.int 0))) (mNil)))) (mVar 5)) (mFz (mLstO (mCons (mBin ixD (mVar 4) (mUn negD (mC (.int 1)))) (mNil))))))))
@[reducible] def mb_asked_sets : MS := mSeq (mSet 1 (mFz (mLstO (mCons (mTup (mCons (mC (.int 0)) (mCons (mTup (mNil)) (mNil)))) (mNil))))) (mSeq (mFor (mIrev (mCons (mCB enL (mCons (mVar 0) (mNil))) (mNil))) (mGt 2 (mGcons (mGn 2) (mGcons (mGn 3) (mGnil)))) (lb_asked_sets_4)) (mRet (mVar 1)))
def mf_asked_sets : List D → M D := mFn 9 mb_asked_sets
@[reducible] def mb_Course_events : MS := mRet (mUn (fldD "Course" ["passed"] 0) (mVar 0))
def mf_Course_events : List D → M D := mFn 1 mb_Course_events
@[reducible] def mb_Wallet_cards : MS := mRet (mCB tupD (mCons (mFz (mLcO [1, 2] (mIany (mUn (fldD "Wallet" ["pairs"] 0) (mVar 0))) (mGt 2 (mGcons (mGn 1) (mGcons (mGn 2) (mGnil)))) (mYes) (mVar 2))) (mNil)))
def mf_Wallet_cards : List D → M D := mFn 3 mb_Wallet_cards
@[reducible] def ce_amounts_of_1 : ME := mTup (mCons (mSelf "Card" mf_Card_balance (mVar 1)) (mCons (mSelf "Card" mf_Card_limit (mVar 1)) (mNil)))
@[reducible] def mb_amounts_of : MS := mRet (mCB tupD (mCons (mFz (mLcO [1] (mIany (mSelf "Wallet" mf_Wallet_cards (mVar 0))) (mGn 1) (mYes) (ce_amounts_of_1))) (mNil)))
def mf_amounts_of : List D → M D := mFn 2 mb_amounts_of
@[reducible] def lb_wrong_event_1 : MS := mSeq (mIfS (mB (mCB isiD (mCons (mVar 4) (mCons (mC (.cls "Card")) (mNil))))) (mAug 2 addI (mC (.int 1))) (mIfS (mB (mCall 1 mf_is_natural (mCons (mVar 4) (mNil)))) (mAug 1 addI (mC (.int 1))) (mRet (mVar 3)))) (mIfS (mOr (mB (mBin gtD (mVar 1) (mC (.int 12)))) (mB (mBin gtD (mVar 2) (mC (.int 6))))) (mRet (mVar 3)) (mNext))
@[reducible] def mb_wrong_event : MS := mSeq (mSet 1 (mC (.int 0))) (mSeq (mSet 2 (mC (.int 0))) (mSeq (mFor (mIof enumA (mCons (mVar 0) (mNil))) (mGt 2 (mGcons (mGn 3) (mGcons (mGn 4) (mGnil)))) (lb_wrong_event_1)) (mRet (mC .non))))
def mf_wrong_event : List D → M D := mFn 5 mb_wrong_event
@[reducible] def mb_Course___init__ : MS := mSeq (mIfS (mNot (mB (mCB isiD (mCons (mVar 1) (mCons (mC (.ty "tuple")) (mNil)))))) (mStuck) (mNext)) (mSeq (mSet 2 (mCall 1 mf_wrong_event (mCons (mVar 1) (mNil)))) (mSeq (mIfS (mB (mBin isntD (mVar 2) (mC .non))) (mStuck) (mNext)) (mSelfSet 0 "Course" "passed" (mVar 1))))
def mf_Course___init__ : List D → M (List Str × List D) := mInit 3 "Course" mb_Course___init__
@[reducible] def mb_asked : MS := mRet (mSl (mFz (mLcO [1, 2] (mIany (mCall 1 mf_asked_sets (mCons (mVar 0) (mNil)))) (mGt 2 (mGcons (mGn 1) (mGcons (mGn 2) (mGnil)))) (mYes) (mVar 1))) (mOs (mC (.int 1))) (mOn))
def mf_asked : List D → M D := mFn 3 mb_asked
end Sh





set_option Elab.async false
set_option linter.all false
set_option maxRecDepth 100000
set_option maxHeartbeats 4000000
namespace Sh
open PySem PySem.Spec PyProof.Rows L2 Mi He
@[reducible] def ce_lacking_1 : ME := mCall 3 mf_worth (mCons (mVar 4) (mCons (mVar 5) (mCons (mBin addD (mVar 3) (mC (.int 1))) (mNil))))
@[reducible] def ce_lacking_2 : ME := mCB sumD (mCons (mFz (mLcO [4, 5] (mIany (mVar 0)) (mGt 2 (mGcons (mGn 4) (mGcons (mGn 5) (mGnil)))) (mYes) (ce_lacking_1))) (mNil))
@[reducible] def ce_lacking_3 : ME := mCB maxD (mCons (mC (.int 0)) (mCons (mBin subD (mVar 6) (mVar 7)) (mNil)))
@[reducible] def mb_lacking : MS := mSeq (mSet 2 (mFz (mBorLs [] (mLcO [3] (mIof rng1 (mCons (mCB lenD (mCons (mVar 1) (mNil))) (mNil))) (mGn 3) (mYes) (ce_lacking_2))))) (mRet (mFz (mLcO [6, 7] (mIof zipA2 (mCons (mVar 1) (mCons (mVar 2) (mNil)))) (mGt 2 (mGcons (mGn 6) (mGcons (mGn 7) (mGnil)))) (mYes) (ce_lacking_3))))
def mf_lacking : List D → M D := mFn 8 mb_lacking
@[reducible] def mb_upward : MS := mRet (mUn negD (mBin fdivD (mUn negD (mVar 0)) (mVar 1)))
def mf_upward : List D → M D := mFn 2 mb_upward
@[reducible] def ce_least_card_1 : ME := mCall 2 mf_upward (mCons (mVar 5) (mCons (mBin addD (mVar 4) (mC (.int 1))) (mNil)))
@[reducible] def mb_least_card : MS := mSeq (mDrop (mCall 1 mf_check_wallet (mCons (mVar 0) (mNil)))) (mSeq (mDrop (mCall 1 mf_check_course (mCons (mVar 1) (mNil)))) (mSeq (mSet 2 (mCall 2 mf_lacking (mCons (mCall 1 mf_amounts_of (mCons (mVar 0) (mNil))) (mCons (mCall 1 mf_asked (mCons (mSelf "Course" mf_Course_events (mVar 1)) (mNil))) (mNil))))) (mSeq (mSet 3 (mCB (maxDf 0) (mCons (mVar 2) (mNil)))) (mSeq (mIfS (mB (mBin eqMD (mVar 3) (mC (.int 0)))) (mRet (mC .non)) (mNext)) (mRet (mMake "Card" 2 mf_Card___init__ (mCons (mVar 3) (mCons (mCB maxD (mCons (mFz (mLcO [4, 5] (mIof enumA (mCons (mVar 2) (mNil))) (mGt 2 (mGcons (mGn 4) (mGcons (mGn 5) (mGnil)))) (mYes) (ce_least_card_1))) (mNil))) (mNil)))))))))
def mf_least_card : List D → M D := mFn 6 mb_least_card
end Sh


set_option Elab.async false
set_option linter.all false
set_option maxRecDepth 100000
set_option maxHeartbeats 4000000
namespace S3
open PySem PySem.Spec PyProof.Rows L2 Mi He Sh
noncomputable section
@[reducible] def ce__law_purse_1 : ME := mTup (mCons (mBin ixD (mVar 1) (mVar 2)) (mCons (mMake "Card" 2 mf_Card___init__ (mCons (mBin ixD (mBin ixD (mVar 0) (mVar 2)) (mC (.int 0))) (mCons (mBin ixD (mBin ixD (mVar 0) (mVar 2)) (mC (.int 1))) (mNil)))) (mNil)))
@[reducible] def mb__law_purse : MS := mRet (mMake "Wallet" 1 mf_Wallet___init__ (mCons (mCB tupD (mCons (mFz (mLcO [2] (mIof rng1 (mCons (mCB lenD (mCons (mVar 0) (mNil))) (mNil))) (mGn 2) (mYes) (ce__law_purse_1))) (mNil))) (mNil)))
def mf__law_purse : List D → M D := mFn 3 mb__law_purse
@[reducible] def mb__law_draw : MS := mSeq (mPutP 0 (mBin addD (mIxP 0 (mC (.int 2))) (mC (.int 1))) (mC (.int 2))) (mSeq (mSet 2 (mCB int1D (mCons (mIxP 0 (mC (.int 1))) (mNil)))) (mSeq (mPutP 0 (mBin modD (mCB int1D (mCons (mBin addD (mBin addD (mBin mulD (mVar 2) (mC (.int 2862933555777941759))) (mBin mulD (mC (.int 3037000493)) (mIxP 0 (mC (.int 2))))) (mC (.int 11))) (mNil))) (mC (.int 2305843009213693951))) (mC (.int 1))) (mSeq (mIfS (mB (mBin gtD (mIxP 0 (mC (.int 0))) (mC (.int 0)))) (mSeq (mDmP 0 (mC (.int 0)) 3 (mCB dmD (mCons (mIxP 0 (mC (.int 0))) (mCons (mVar 1) (mNil))))) (mRet (mVar 3))) (mNext)) (mRet (mBin modD (mCB int1D (mCons (mBin fdivD (mBin mulD (mBin fdivD (mVar 2) (mC (.int 1048576))) (mBin addD (mBin modD (mCB int1D (mCons (mBin fdivD (mVar 2) (mC (.int 65536))) (mNil))) (mC (.int 32749))) (mC (.int 32771)))) (mC (.int 64))) (mNil))) (mVar 1))))))
def mf__law_draw : List D → M D := mFn 4 mb__law_draw
@[reducible] def mb__law_amount : MS := mSeq (mSet 1 (mCall 2 mf__law_draw (mCons (mVar 0) (mCons (mC (.int 6)) (mNil))))) (mSeq (mIfS (mB (mBin ltD (mVar 1) (mC (.int 3)))) (mRet (mCall 2 mf__law_draw (mCons (mVar 0) (mCons (mC (.int 12)) (mNil))))) (mNext)) (mSeq (mIfS (mB (mBin eqMD (mVar 1) (mC (.int 3)))) (mRet (mBin subD (mBin addD (mBin powD (mC (.int 10)) (mC (.int 9))) (mCall 2 mf__law_draw (mCons (mVar 0) (mCons (mC (.int 3)) (mNil))))) (mC (.int 1)))) (mNext)) (mSeq (mSet 2 (mBin addD (mBin mulD (mCall 2 mf__law_draw (mCons (mVar 0) (mCons (mBin powD (mC (.int 10)) (mC (.int 9))) (mNil)))) (mBin powD (mC (.int 10)) (mC (.int 9)))) (mCall 2 mf__law_draw (mCons (mVar 0) (mCons (mBin powD (mC (.int 10)) (mC (.int 9))) (mNil)))))) (mRet (mIf (mB (mBin eqMD (mVar 1) (mC (.int 4)))) (mVar 2) (mBin addD (mBin mulD (mVar 2) (mBin powD (mC (.int 10)) (mC (.int 10)))) (mCall 2 mf__law_draw (mCons (mVar 0) (mCons (mBin powD (mC (.int 10)) (mC (.int 9))) (mNil))))))))))
def mf__law_amount : List D → M D := mFn 3 mb__law_amount
@[reducible] def mb__law_card : MS := mSeq (mSet 1 (mBin addD (mC (.int 1)) (mCall 1 mf__law_amount (mCons (mVar 0) (mNil))))) (mSeq (mSet 2 (mCall 2 mf__law_draw (mCons (mVar 0) (mCons (mBin ixD (mFz (mLstO (mCons (mC (.int 3)) (mCons (mC (.int 24)) (mNil))))) (mCB intBD (mCons (mBin eqMD (mCall 2 mf__law_draw (mCons (mVar 0) (mCons (mC (.int 4)) (mNil)))) (mC (.int 0))) (mNil)))) (mNil))))) (mRet (mTup (mCons (mBin addD (mBin mulD (mVar 1) (mVar 2)) (mBin modD (mCB int1D (mCons (mCall 1 mf__law_amount (mCons (mVar 0) (mNil))) (mNil))) (mBin addD (mVar 1) (mC (.int 1))))) (mCons (mVar 1) (mNil))))))
def mf__law_card : List D → M D := mFn 3 mb__law_card
@[reducible] def mb__law_worth : MS := mRet (mCB minD (mCons (mBin ixD (mVar 0) (mC (.int 0))) (mCons (mBin mulD (mVar 1) (mBin ixD (mVar 0) (mC (.int 1)))) (mNil))))
def mf__law_worth : List D → M D := mFn 2 mb__law_worth
@[reducible] def ce__law_power_1 : ME := mCall 2 mf__law_worth (mCons (mVar 2) (mCons (mVar 1) (mNil)))
@[reducible] def mb__law_power : MS := mRet (mCB sumD (mCons (mFz (mLcO [2] (mIany (mVar 0)) (mGn 2) (mYes) (ce__law_power_1))) (mNil)))
def mf__law_power : List D → M D := mFn 3 mb__law_power
@[reducible] def ce__law_great_events_1 : ME := mCall 2 mf__law_power (mCons (mVar 1) (mCons (mVar 10) (mNil)))
@[reducible] def ce__law_great_events_2 : ME := mCall 1 mf__law_amount (mCons (mVar 0) (mNil))
@[reducible] def ce__law_great_events_3 : ME := mCB maxD (mCons (mC (.int 0)) (mCons (mBin subD (mBin addD (mBin subD (mBin ixD (mVar 6) (mBin addD (mVar 10) (mC (.int 1)))) (mBin ixD (mVar 6) (mVar 10))) (mCall 2 mf__law_draw (mCons (mVar 0) (mCons (mC (.int 3)) (mNil))))) (mC (.int 1))) (mNil)))
@[reducible] def ce__law_great_events_4 : ME := mCall 1 mf__law_card (mCons (mVar 0) (mNil))
@[reducible] def lb__law_great_events_5 : MS := mSeq (mSet 8 (mCall 2 mf__law_draw (mCons (mVar 0) (mCons (mBin addD (mCB lenD (mCons (mVar 9) (mNil))) (mC (.int 1))) (mNil))))) (mSet 9 (mBin addD (mBin addD (mSl (mVar 9) (mOn) (mOs (mVar 8))) (mFz (mLstO (mCons (mCall 1 mf__law_card (mCons (mVar 0) (mNil))) (mNil))))) (mSl (mVar 9) (mOs (mVar 8)) (mOn))))
@[reducible] def mb__law_great_events : MS := mSeq (mPar [2, 3, 4] (mMsh (mCall 2 mf__law_draw (mCons (mVar 0) (mCons (mC (.int 4)) (mNil)))) (mMsh (mCall 2 mf__law_draw (mCons (mVar 0) (mCons (mC (.int 5)) (mNil)))) (mMsh (mCall 2 mf__law_draw (mCons (mVar 0) (mCons (mC (.int 13)) (mNil)))) (mMnil))))) (mSeq (mSet 5 (mCall 2 mf__law_draw (mCons (mVar 0) (mCons (mIf (mB (mBin eqMD (mVar 3) (mC (.int 0)))) (mC (.int 6)) (mC (.int 13))) (mNil))))) (mSeq (mSet 6 (mFz (mLcO [10] (mIof rng1 (mCons (mBin addD (mVar 5) (mC (.int 1))) (mNil))) (mGn 10) (mYes) (ce__law_great_events_1)))) (mSeq (mIfS (mB (mBin eqMD (mVar 2) (mC (.int 0)))) (mSetO 7 (mBorLs [] (mLcO [10] (mIof rng1 (mCons (mVar 5) (mNil))) (mGn 10) (mYes) (ce__law_great_events_2)))) (mSetO 7 (mBorLs [] (mLcO [10] (mIof rng1 (mCons (mVar 5) (mNil))) (mGn 10) (mYes) (ce__law_great_events_3))))) (mSeq (mIfS (mBorT 7 (mAnd (mB (mBin eqMD (mVar 2) (mC (.int 1)))) (mB (mBin neMD (mVar 7) (mFz (mLstO (mNil))))))) (mPut 7 (mBin addD (mIxO 7 (mBin subD (mVar 5) (mC (.int 1)))) (mCall 1 mf__law_amount (mCons (mVar 0) (mNil)))) (mBin subD (mVar 5) (mC (.int 1)))) (mNext)) (mSeq (mSet 8 (mBin modD (mCB int1D (mCons (mVar 4) (mNil))) (mBin addD (mVar 5) (mC (.int 1))))) (mSeq (mFrz 7 (mSet 9 (mBin addD (mSl (mVar 7) (mOs (mVar 8)) (mOn)) (mSl (mVar 7) (mOn) (mOs (mVar 8)))))) (mSeq (mIfS (mB (mBin eqMD (mVar 3) (mC (.int 1)))) (mRet (mBin addD (mFz (mLcO [10] (mIof rng1 (mCons (mBin addD (mC (.int 1)) (mCall 2 mf__law_draw (mCons (mVar 0) (mCons (mC (.int 6)) (mNil))))) (mNil))) (mGn 10) (mYes) (ce__law_great_events_4))) (mVar 9))) (mNext)) (mSeq (mIfS (mB (mBin eqMD (mVar 3) (mC (.int 0)))) (mFor (mIof rng1 (mCons (mBin addD (mC (.int 1)) (mCall 2 mf__law_draw (mCons (mVar 0) (mCons (mC (.int 2)) (mNil))))) (mNil))) (mGn 10) (lb__law_great_events_5)) (mNext)) (mRet (mVar 9))))))))))
def mf__law_great_events : List D → M D := mFn 11 mb__law_great_events
@[reducible] def ce__law_course_1 : ME := mIf (mB (mCB isiD (mCons (mVar 1) (mCons (mC (.ty "int")) (mNil))))) (mVar 1) (mMake "Card" 2 mf_Card___init__ (mCons (mBin ixD (mVar 1) (mC (.int 0))) (mCons (mBin ixD (mVar 1) (mC (.int 1))) (mNil))))
@[reducible] def mb__law_course : MS := mRet (mMake "Course" 1 mf_Course___init__ (mCons (mCB tupD (mCons (mFz (mLcO [1] (mIany (mVar 0)) (mGn 1) (mYes) (ce__law_course_1))) (mNil))) (mNil)))
def mf__law_course : List D → M D := mFn 2 mb__law_course
@[reducible] def ct__law_asks_1 : MT := mB (mCB isiD (mCons (mBin ixD (mVar 0) (mVar 10)) (mCons (mC (.ty "int")) (mNil))))
@[reducible] def ct__law_asks_2 : MT := mNot (mB (mCB isiD (mCons (mBin ixD (mVar 0) (mVar 10)) (mCons (mC (.ty "int")) (mNil)))))
@[reducible] def ce__law_asks_3 : ME := mBin subD (mCB sumD (mCons (mSl (mVar 3) (mOn) (mOs (mBin addD (mVar 10) (mC (.int 1))))) (mNil))) (mCall 2 mf__law_power (mCons (mVar 4) (mCons (mBin addD (mVar 10) (mC (.int 1))) (mNil))))
@[reducible] def ce__law_asks_4 : ME := mBin addD (mVar 8) (mFz (mLstO (mCons (mVar 6) (mNil))))
@[reducible] def lb__law_asks_5 : MS := mSet 5 (mBin addD (mVar 5) (mFz (mLcO [8] (mIany (mVar 5)) (mGn 8) (mYes) (ce__law_asks_4))))
@[reducible] def lb__law_asks_6 : MS := mSet 9 (mBin subD (mVar 9) (mCall 2 mf__law_worth (mCons (mBin ixD (mVar 0) (mVar 10)) (mCons (mCB lenD (mCons (mFz (mLcO [6] (mIany (mVar 8)) (mGn 6) (mB (mBin gtD (mVar 6) (mVar 10))) (mVar 6))) (mNil))) (mNil)))))
@[reducible] def lb__law_asks_7 : MS := mSeq (mSet 9 (mCB sumD (mCons (mFz (mLcO [6] (mIany (mVar 8)) (mGn 6) (mYes) (mBin ixD (mVar 0) (mVar 6)))) (mNil)))) (mSeq (mFor (mIany (mVar 2)) (mGn 10) (lb__law_asks_6)) (mIfS (mOr (mB (mBin isD (mIxO 7 (mCB lenD (mCons (mVar 8) (mNil)))) (mC .non))) (mB (mBin gtD (mVar 9) (mIxO 7 (mCB lenD (mCons (mVar 8) (mNil))))))) (mPut 7 (mVar 9) (mCB lenD (mCons (mVar 8) (mNil)))) (mNext)))
@[reducible] def mb__law_asks : MS := mSeq (mSet 1 (mFz (mBorLs [] (mLcO [10] (mIof rng1 (mCons (mCB lenD (mCons (mVar 0) (mNil))) (mNil))) (mGn 10) (ct__law_asks_1) (mVar 10))))) (mSeq (mSet 2 (mFz (mBorLs [] (mLcO [10] (mIof rng1 (mCons (mCB lenD (mCons (mVar 0) (mNil))) (mNil))) (mGn 10) (ct__law_asks_2) (mVar 10))))) (mSeq (mIfS (mOr (mB (mBin eqMD (mVar 1) (mFz (mLstO (mNil))))) (mOr (mB (mBin eqMD (mVar 2) (mFz (mLstO (mNil))))) (mB (mBin ltD (mBin ixD (mVar 2) (mUn negD (mC (.int 1)))) (mBin ixD (mVar 1) (mC (.int 0))))))) (mSeq (mAsg (mTup (mCons (mUn revD (mFz (mCBO (srtO false) (mCons (mFz (mLcO [10] (mIany (mVar 1)) (mGn 10) (mYes) (mBin ixD (mVar 0) (mVar 10)))) (mNil))))) (mCons (mFz (mLcO [10] (mIany (mVar 2)) (mGn 10) (mYes) (mBin ixD (mVar 0) (mVar 10)))) (mNil)))) (mGt 2 (mGcons (mGn 3) (mGcons (mGn 4) (mGnil))))) (mRet (mFz (mLcO [10] (mIof rng1 (mCons (mCB lenD (mCons (mVar 3) (mNil))) (mNil))) (mGn 10) (mYes) (ce__law_asks_3))))) (mNext)) (mSeq (mSet 5 (mFz (mLstO (mCons (mFz (mLstO (mNil))) (mNil))))) (mSeq (mFor (mIany (mVar 1)) (mGn 6) (lb__law_asks_5)) (mSeq (mSetO 7 (mBinO repO (mFz (mLstO (mCons (mC .non) (mNil)))) (mBin addD (mCB lenD (mCons (mVar 1) (mNil))) (mC (.int 1))))) (mSeq (mFor (mIany (mVar 5)) (mGn 8) (lb__law_asks_7)) (mFrz 7 (mRet (mSl (mVar 7) (mOs (mC (.int 1))) (mOn))))))))))
def mf__law_asks : List D → M D := mFn 11 mb__law_asks
@[reducible] def mb__law_whole : MS := mRet (mAndV (mCB isiD (mCons (mVar 0) (mCons (mC (.ty "int")) (mNil)))) (mAndV (mNotV (mCB isiD (mCons (mVar 0) (mCons (mC (.ty "bool")) (mNil))))) (mBin geD (mVar 0) (mC (.int 0)))))
def mf__law_whole : List D → M D := mFn 1 mb__law_whole
@[reducible] def ce__law_meets_1 : ME := mBin leD (mBin ixD (mVar 1) (mVar 2)) (mCall 2 mf__law_power (mCons (mVar 0) (mCons (mBin addD (mVar 2) (mC (.int 1))) (mNil))))
@[reducible] def mb__law_meets : MS := mRet (mCB allD (mCons (mFz (mLcO [2] (mIof rng1 (mCons (mCB lenD (mCons (mVar 1) (mNil))) (mNil))) (mGn 2) (mYes) (ce__law_meets_1))) (mNil)))
def mf__law_meets : List D → M D := mFn 3 mb__law_meets
@[reducible] def lbL__law_pot_1 : MS := mSet 2 (mBin modD (mCB int1D (mCons (mBin addD (mBin mulD (mVar 2) (mC (.int 69073))) (mVar 3)) (mNil))) (mC (.int 2305843009213693951)))
@[reducible] def mbL__law_pot : MS := mSeq (mSet 2 (mIf (mB (mBin ltD (mVar 1) (mCB lenD (mCons (mVar 0) (mNil))))) (mBin ixD (mVar 0) (mVar 1)) (mBin addD (mBin mulD (mC (.int 40961)) (mVar 1)) (mC (.int 977))))) (mSeq (mIfS (mB (mBin geD (mVar 1) (mCB lenD (mCons (mVar 0) (mNil))))) (mFor (mIany (mSl (mVar 0) (mOn) (mOs (mC (.int 4))))) (mGn 3) (lbL__law_pot_1)) (mNext)) (mSeq (mSet 4 (mIf (mB (mBin geD (mCB absD (mCons (mVar 2) (mNil))) (mBin powD (mC (.int 10)) (mC (.int 18))))) (mCB absD (mCons (mVar 2) (mNil))) (mC (.int 0)))) (mRetL (mLstO (mCons (mVar 4) (mCons (mBin modD (mCB int1D (mCons (mBin addD (mBin addD (mBin mulD (mVar 2) (mC (.int 6364136223846799))) (mBin mulD (mC (.int 977)) (mVar 1))) (mC (.int 12345))) (mNil))) (mC (.int 2305843009213693951))) (mCons (mC (.int 0)) (mNil))))))))
def mfL__law_pot : List D → M (List D) := mFnL 5 mbL__law_pot
end
end S3


set_option Elab.async false
set_option linter.all false
set_option maxRecDepth 100000
set_option maxHeartbeats 4000000
namespace G48
open PySem PySem.Spec PyProof.Rows L2 Mi He Sh S3
noncomputable section
@[reducible] def lb_Course_of_1 : MS := mIfS (mOr (mNot (mB (mCall 1 mf_is_natural (mCons (mVar 3) (mNil))))) (mB (mBin eqMD (mVar 2) (mC (.int 12))))) (mStuck) (mNext)
@[reducible] def mb_Course_of : MS := mSeq (mFor (mIof enumA (mCons (mVar 1) (mNil))) (mGt 2 (mGcons (mGn 2) (mGcons (mGn 3) (mGnil)))) (lb_Course_of_1)) (mRet (mMakeV "Course" 0 1 mf_Course___init__ (mCons (mVar 1) (mNil))))
def mf_Course_of : List D → M D := mFnS 1 4 mb_Course_of
@[reducible] def mb_Card___str__ : MS := mRet (mFs [mFmt (mUn (fldD "Card" ["held", "daily"] 0) (mVar 0)), mC (.str "/"), mFmt (mUn (fldD "Card" ["held", "daily"] 1) (mVar 0))])
def mf_Card___str__ : List D → M D := mFn 1 mb_Card___str__
@[reducible] def mb_Card___repr__ : MS := mRet (mFs [mC (.str "Card "), mFmt (mUn (fldD "Card" ["held", "daily"] 0) (mVar 0)), mC (.str "/"), mFmt (mUn (fldD "Card" ["held", "daily"] 1) (mVar 0))])
def mf_Card___repr__ : List D → M D := mFn 1 mb_Card___repr__
@[reducible] def mb__law_best_right : MS := mSeq (mIfS (mOr (mB (mBin ltD (mBin ixD (mVar 2) (mC (.int 0))) (mC (.int 1)))) (mOr (mB (mBin ltD (mBin ixD (mVar 2) (mC (.int 1))) (mC (.int 1)))) (mOr (mB (mBin gtD (mBin ixD (mVar 2) (mC (.int 0))) (mBin mulD (mC (.int 24)) (mBin ixD (mVar 2) (mC (.int 1)))))) (mNot (mB (mCall 2 mf__law_meets (mCons (mBin addD (mVar 0) (mFz (mLstO (mCons (mVar 2) (mNil))))) (mCons (mVar 1) (mNil))))))))) (mRet (mC (.bl false))) (mNext)) (mSeq (mIfS (mB (mCall 2 mf__law_meets (mCons (mBin addD (mVar 0) (mFz (mLstO (mCons (mTup (mCons (mBin subD (mBin ixD (mVar 2) (mC (.int 0))) (mC (.int 1))) (mCons (mBin powD (mC (.int 10)) (mC (.int 60))) (mNil)))) (mNil))))) (mCons (mVar 1) (mNil))))) (mRet (mC (.bl false))) (mNext)) (mRet (mOrV (mBin eqMD (mBin ixD (mVar 2) (mC (.int 1))) (mC (.int 1))) (mNotV (mCall 2 mf__law_meets (mCons (mBin addD (mVar 0) (mFz (mLstO (mCons (mTup (mCons (mBin powD (mC (.int 10)) (mC (.int 60))) (mCons (mBin subD (mBin ixD (mVar 2) (mC (.int 1))) (mC (.int 1))) (mNil)))) (mNil))))) (mCons (mVar 1) (mNil))))))))
def mf__law_best_right : List D → M D := mFn 3 mb__law_best_right
@[reducible] def ce__law_right_1 : ME := mCall 1 mf__law_card (mCons (mVar 0) (mNil))
@[reducible] def ce__law_right_2 : ME := mBin addD (mC (.str "c")) (mCB strID (mCons (mVar 8) (mNil)))
@[reducible] def mb__law_right : MS := mSeq (mSet 1 (mFz (mBorLs [] (mLcO [8] (mIof rng1 (mCons (mCall 2 mf__law_draw (mCons (mVar 0) (mCons (mC (.int 13)) (mNil)))) (mNil))) (mGn 8) (mYes) (ce__law_right_1))))) (mSeq (mPar [2, 3] (mMsh (mCall 2 mf__law_great_events (mCons (mVar 0) (mCons (mVar 1) (mNil)))) (mMsh (mFz (mLcO [8] (mIof rng1 (mCons (mC (.int 12)) (mNil))) (mGn 8) (mYes) (ce__law_right_2))) (mMnil)))) (mSeq (mPar [4, 5, 6] (mMsh (mCall 1 mf__law_asks (mCons (mVar 2) (mNil))) (mMsh (mCall 2 mf__law_purse (mCons (mVar 1) (mCons (mVar 3) (mNil)))) (mMsh (mCall 1 mf__law_course (mCons (mVar 2) (mNil))) (mMnil))))) (mSeq (mSet 7 (mCall 2 mf_least_card (mCons (mVar 5) (mCons (mVar 6) (mNil))))) (mSeq (mIfS (mB (mBin neSD (mRep "Card" mf_Card___repr__ (mCall 2 mf_least_card (mCons (mVar 5) (mCons (mVar 6) (mNil))))) (mRep "Card" mf_Card___repr__ (mVar 7)))) (mRet (mC (.bl false))) (mNext)) (mSeq (mIfS (mB (mCall 2 mf__law_meets (mCons (mVar 1) (mCons (mVar 4) (mNil))))) (mRet (mBin isD (mVar 7) (mC .non))) (mNext)) (mSeq (mIfS (mOr (mNot (mB (mCB isiD (mCons (mVar 7) (mCons (mC (.cls "Card")) (mNil)))))) (mOr (mNot (mB (mCall 1 mf__law_whole (mCons (mSelf "Card" mf_Card_balance (mVar 7)) (mNil))))) (mNot (mB (mCall 1 mf__law_whole (mCons (mSelf "Card" mf_Card_limit (mVar 7)) (mNil))))))) (mRet (mC (.bl false))) (mNext)) (mRet (mCall 3 mf__law_best_right (mCons (mVar 1) (mCons (mVar 4) (mCons (mTup (mCons (mSelf "Card" mf_Card_balance (mVar 7)) (mCons (mSelf "Card" mf_Card_limit (mVar 7)) (mNil)))) (mNil))))))))))))
def mf__law_right : List D → M D := mFn 9 mb__law_right
@[reducible] def ce_law_1 : ME := mBin addD (mC (.str "c")) (mCB strID (mCons (mVar 2) (mNil)))
@[reducible] def ce_law_2 : ME := mWith mf__law_right (mCallL 2 mfL__law_pot (mCons (mVar 0) (mCons (mVar 2) (mNil))))
@[reducible] def mb_law : MS := mSeq (mSet 1 (mCall 2 mf__law_purse (mCons (mBin mulD (mFz (mLstO (mCons (mTup (mCons (mC (.int 0)) (mCons (mC (.int 7)) (mNil)))) (mNil)))) (mC (.int 12))) (mCons (mFz (mLcO [2] (mIof rng1 (mCons (mC (.int 12)) (mNil))) (mGn 2) (mYes) (ce_law_1))) (mNil))))) (mSeq (mIfS (mB (mBin neSD (mStrO "Card" mf_Card___str__ (mCall 2 mf_least_card (mCons (mVar 1) (mCons (mCMeth "Course" mf_Course_of (mC (.cls "Course")) (mCons (mC (.int 5)) (mCons (mC (.int 0)) (mCons (mC (.int 9)) (mCons (mC (.int 7)) (mCons (mC (.int 1)) (mCons (mC (.int 1)) (mCons (mC (.int 1)) (mCons (mC (.int 1)) (mCons (mC (.int 1)) (mCons (mC (.int 1)) (mCons (mC (.int 1)) (mCons (mC (.int 1)) (mNil)))))))))))))) (mNil))))) (mC (.str "29/9")))) (mRet (mC (.bl false))) (mNext)) (mSeq (mIfS (mB (mBin neSD (mStrO "Card" mf_Card___str__ (mCall 2 mf_least_card (mCons (mVar 1) (mCons (mMake "Course" 1 mf_Course___init__ (mCons (mCB tupD (mCons (mBin mulD (mFz (mLstO (mCons (mBin addD (mBin powD (mC (.int 10)) (mC (.int 29))) (mC (.int 1))) (mNil)))) (mC (.int 12))) (mNil))) (mNil))) (mNil))))) (mBin addD (mBin addD (mBin addD (mBin addD (mC (.str "12")) (mBin mulSD (mC (.str "0")) (mC (.int 27)))) (mC (.str "12/1"))) (mBin mulSD (mC (.str "0")) (mC (.int 28)))) (mC (.str "1"))))) (mRet (mC (.bl false))) (mNext)) (mRet (mCB allD (mCons (mFz (mLcO [2] (mIof rng1 (mCons (mCB maxD (mCons (mC (.int 2)) (mCons (mCB minD (mCons (mCB lenD (mCons (mVar 0) (mNil))) (mCons (mC (.int 4)) (mNil)))) (mNil)))) (mNil))) (mGn 2) (mYes) (ce_law_2))) (mNil))))))
def mf_law : List D → M D := mFn 3 mb_law
end
end G48





set_option Elab.async false
set_option linter.all false
set_option maxRecDepth 100000
set_option maxHeartbeats 4000000
/-! P20m: the least falling row above given sums, plain. -/
namespace P20
/-- what must still come on a day: the greatest of the rounded-up means -/
def need (total : Int) (i : Nat) (s : Int) : Int := -((total - s) / ((i : Int) + 1))
/-- k is the greatest of the needs -/
def IsMax (k total : Int) (ss : List Int) : Prop := (∃ i s, ss[i]? = some s ∧ k = need total i s) ∧ ∀ i s, ss[i]? = some s → need total i s ≤ k
theorem need_le {total s k : Int} {i : Nat} (h : need total i s ≤ k) : s - total ≤ k * ((i : Int) + 1) := by
  unfold need at h
  have hp : (0 : Int) < (i : Int) + 1 := by omega
  have h1 : -k ≤ (total - s) / ((i : Int) + 1) := by omega
  have h2 : (-k) * ((i : Int) + 1) ≤ total - s := (Int.le_ediv_iff_mul_le hp).mp h1
  rw [Int.neg_mul] at h2
  omega
theorem need_gt {total s k : Int} {i : Nat} (h : k ≤ need total i s) : (k - 1) * ((i : Int) + 1) < s - total := by
  unfold need at h
  have hp : (0 : Int) < (i : Int) + 1 := by omega
  have h1 : (total - s) / ((i : Int) + 1) < -k + 1 := by omega
  have h2 : total - s < (-k + 1) * ((i : Int) + 1) := Int.lt_mul_of_ediv_lt hp h1
  have e : (-k + 1) * ((i : Int) + 1) = -((k - 1) * ((i : Int) + 1)) := by
    rw [← Int.neg_mul]; congr 1; omega
  rw [e] at h2
  omega
/-- the row as it is built, from the sums ss that are left behind a total -/
inductive Least : Int → List Int → List Int → Prop
  | nil (total : Int) : Least total [] []
  | stop {total k : Int} {ss : List Int} (h : IsMax k total ss) (hk : k ≤ 0) : Least total ss []
  | more {total k s : Int} {ss row : List Int} (h : IsMax k total (s :: ss)) (hk : 0 < k) (r : Least (total + k) ss row) : Least total (s :: ss) (k :: row)
theorem Least.len {t : Int} {ss row : List Int} (h : Least t ss row) : row.length ≤ ss.length := by
  induction h with
  | nil => simp
  | stop => simp
  | more _ _ _ ih => simpa using ih
theorem Least.pos {t : Int} {ss row : List Int} (h : Least t ss row) : ∀ x ∈ row, 0 < x := by
  induction h with
  | nil => simp
  | stop => simp
  | more _ hk _ ih =>
    intro x hx
    rcases List.mem_cons.mp hx with rfl | hx
    · exact hk
    · exact ih x hx
/-- the first number behind a day is at most the day's -/
theorem Least.fall {t k s : Int} {ss row : List Int} (hm : IsMax k t (s :: ss)) (hk : 0 < k) (h : Least (t + k) ss row) : ∀ x, row[0]? = some x → x ≤ k := by
  intro x hx
  cases h with
  | nil => cases hx
  | stop => cases hx
  | more h2 hk2 r =>
    simp at hx
    subst hx
    obtain ⟨⟨i, s2, e, rfl⟩, _⟩ := h2
    have h3 := need_le (hm.2 (i + 1) s2 (by simpa using e))
    have h4 := @need_gt (t + k) s2 _ i (Int.le_refl _)
    apply Decidable.byContradiction
    intro hc
    have h5 : k ≤ need (t + k) i s2 - 1 := by omega
    have h6 : k * ((i : Int) + 1) ≤ (need (t + k) i s2 - 1) * ((i : Int) + 1) := Int.mul_le_mul_of_nonneg_right h5 (by omega)
    have h7 : k * (((i + 1 : Nat) : Int) + 1) = k * ((i : Int) + 1) + k := by
      rw [show (((i + 1 : Nat) : Int) + 1) = ((i : Int) + 1) + 1 by omega, Int.mul_add, Int.mul_one]
    rw [h7] at h3
    omega
theorem Least.falls {t : Int} {ss row : List Int} (h : Least t ss row) : ∀ (k : Nat) (x y : Int), row[k]? = some x → row[k + 1]? = some y → y ≤ x := by
  induction h with
  | nil => intro k x y h; cases h
  | stop => intro k x y h; cases h
  | more hm hk r ih =>
    intro k x y hx hy
    cases k with
    | zero =>
      simp at hx hy
      subst hx
      exact Least.fall hm hk r y (by simpa using hy)
    | succ k => exact ih k x y (by simpa using hx) (by simpa using hy)
/-- sum of the first n numbers -/
def sumN (row : List Int) : Nat → Int
  | 0 => 0
  | n + 1 => row.headD 0 + sumN row.tail n
theorem sumN_nil (n : Nat) : sumN [] n = 0 := by
  induction n with
  | zero => rfl
  | succ n ih => show (0 : Int) + sumN [] n = 0; rw [ih]; rfl
theorem Least.tight {t : Int} {ss row : List Int} (h : Least t ss row) : ∀ (k : Nat) (x : Int), row[k]? = some x → ∃ (i : Nat) (s : Int), ss[k + i]? = some s ∧ t + sumN row k + ((i : Int) + 1) * (x - 1) < s := by
  induction h with
  | nil => intro k x h; cases h
  | stop => intro k x h; cases h
  | @more t m s0 ss row h hk r ih =>
    intro k x e
    cases k with
    | zero =>
      simp at e
      subst e
      obtain ⟨⟨i, s, e1, e2⟩, _⟩ := h
      have h2 := @need_gt t s m i (by omega)
      rw [Int.mul_comm] at h2
      refine ⟨i, s, by simpa using e1, ?_⟩
      show t + 0 + _ < s
      omega
    | succ k =>
      obtain ⟨i, s, e1, h1⟩ := ih k x (by simpa using e)
      refine ⟨i, s, by rw [show k + 1 + i = (k + i) + 1 by omega]; simpa using e1, ?_⟩
      show t + (m + sumN row k) + _ < s
      omega
/-- the least row is one only -/
theorem IsMax.uniq {a b t : Int} {ss : List Int} (h : IsMax a t ss) (k : IsMax b t ss) : a = b := by
  obtain ⟨⟨i, s, e, rfl⟩, h2⟩ := h
  obtain ⟨⟨j, s', e', rfl⟩, k2⟩ := k
  have := h2 _ _ e'
  have := k2 _ _ e
  omega
theorem Least.uniq {t : Int} {ss row row' : List Int} (h : Least t ss row) (k : Least t ss row') : row = row' := by
  induction h generalizing row' with
  | nil =>
    cases k with
    | nil => rfl
    | stop => rfl
  | stop h hk =>
    cases k with
    | nil => rfl
    | stop => rfl
    | more h2 hk2 r => have := h.uniq h2; omega
  | more h hk r ih =>
    cases k with
    | stop h2 hk2 => have := h.uniq h2; omega
    | more h2 hk2 r2 =>
      have := h.uniq h2
      subst this
      rw [ih r2]
/-- a falling row of numbers above 0 is the least one above its own sums -/
def Falls (row : List Int) : Prop := (∀ x ∈ row, 0 < x) ∧ ∀ (k : Nat) (x y : Int), row[k]? = some x → row[k + 1]? = some y → y ≤ x
theorem Falls.tail {x : Int} {row : List Int} (h : Falls (x :: row)) : Falls row := ⟨fun y hy => h.1 y (List.mem_cons_of_mem _ hy), fun k a b e1 e2 => h.2 (k + 1) a b (by simpa using e1) (by simpa using e2)⟩
end P20


set_option Elab.async false
set_option linter.all false
set_option maxRecDepth 100000
set_option maxHeartbeats 4000000
namespace Sh
open PySem L2 Mi P20
@[simp] theorem isint_ok {n : Int} {u : PuS} {P : D → PuS → Prop} : Ok (mf_is_integer [.int n]) u P ↔ P (.bl true) u := ok_of rfl
@[simp] theorem isnat_ok {n : Int} {u : PuS} {P : D → PuS → Prop} : Ok (mf_is_natural [.int n]) u P ↔ P (.bl (decide (0 ≤ n))) u := by
  unfold mf_is_natural mb_is_natural
  simp
theorem getI {ns : List Int} {k : Nat} {x : Int} (h : ns[k]? = some x) : atI (ns.map D.int) (k : Int) = some (.int x) := at_nat (by rw [List.getElem?_map, h]; rfl)
/-- the needs of the days behind k -/
def nd (ns : List Int) (k : Nat) (t : Int) (i : Nat) : Int := need t i ((ns.drop k).getD i 0)
end Sh


set_option Elab.async false
set_option linter.all false
set_option maxRecDepth 100000
set_option maxHeartbeats 4000000
/-! W2m: what cards can pay, plain. -/
namespace P20
theorem mono_mul {a b l : Int} (h : a ≤ b) (hl : 0 ≤ l) : a * l ≤ b * l := Int.mul_le_mul_of_nonneg_right h hl
/-- what a card can pay in k days -/
def wor (b l : Int) (k : Nat) : Int := min b ((k : Int) * l)
/-- what cards can pay in k days -/
def FF (am : List (Int × Int)) (k : Nat) : Int := (am.map fun q => wor q.1 q.2 k).sum
/-- cards as they may be -/
def Am (am : List (Int × Int)) : Prop := ∀ q ∈ am, 1 ≤ q.2 ∧ 0 ≤ q.1 ∧ q.1 ≤ 24 * q.2
theorem Am.tail {q : Int × Int} {am : List (Int × Int)} (h : Am (q :: am)) : Am am := fun x hx => h x (List.mem_cons_of_mem _ hx)
theorem Am.nil : Am [] := fun q h => by cases h
theorem Am.cons {q : Int × Int} {am : List (Int × Int)} (h : 1 ≤ q.2 ∧ 0 ≤ q.1 ∧ q.1 ≤ 24 * q.2) (a : Am am) : Am (q :: am) := fun x hx => by
  rcases List.mem_cons.mp hx with rfl | hx
  · exact h
  · exact a x hx
theorem Am.append {am bm : List (Int × Int)} (a : Am am) (b : Am bm) : Am (am ++ bm) := fun x hx => by
  rcases List.mem_append.mp hx with h | h
  · exact a x h
  · exact b x h
theorem FF_nil (k : Nat) : FF [] k = 0 := rfl
theorem FF_cons (q : Int × Int) (am : List (Int × Int)) (k : Nat) : FF (q :: am) k = wor q.1 q.2 k + FF am k := by simp [FF]
theorem FF_append (am bm : List (Int × Int)) (k : Nat) : FF (am ++ bm) k = FF am k + FF bm k := by simp [FF]
theorem wor_zero {b l : Int} (h : 0 ≤ b) : wor b l 0 = 0 := by unfold wor; simp; omega
theorem succ_mul' (k : Nat) (l : Int) : ((k + 1 : Nat) : Int) * l = (k : Int) * l + l := by
  rw [show ((k + 1 : Nat) : Int) = (k : Int) + 1 by omega, Int.add_mul, Int.one_mul]
theorem wor_mono {b l : Int} (hl : 0 ≤ l) (k : Nat) : wor b l k ≤ wor b l (k + 1) := by
  unfold wor
  rw [succ_mul']
  omega
theorem wor_conc {b l : Int} (hl : 0 ≤ l) (k : Nat) : wor b l (k + 2) - wor b l (k + 1) ≤ wor b l (k + 1) - wor b l k := by
  unfold wor
  rw [show k + 2 = (k + 1) + 1 from rfl, succ_mul' (k + 1), succ_mul' k]
  omega
theorem wor_step {b l : Int} (hl : 1 ≤ l) (k : Nat) : wor b l k < wor b l (k + 1) ↔ (k : Int) * l < b := by
  unfold wor
  rw [succ_mul']
  omega
theorem wor_nonneg {b l : Int} (hb : 0 ≤ b) (hl : 0 ≤ l) (k : Nat) : 0 ≤ wor b l k := by
  have : 0 ≤ (k : Int) * l := Int.mul_nonneg (by omega) hl
  unfold wor
  omega
theorem FF_nonneg {am : List (Int × Int)} (h : Am am) (k : Nat) : 0 ≤ FF am k := by
  induction am with
  | nil => simp [FF]
  | cons q am ih =>
    have := ih h.tail
    obtain ⟨h1, h2, h3⟩ := h q List.mem_cons_self
    have := wor_nonneg h2 (by omega : 0 ≤ q.2) k
    rw [FF_cons]
    omega
theorem FF_zero {am : List (Int × Int)} (h : Am am) : FF am 0 = 0 := by
  induction am with
  | nil => rfl
  | cons q am ih => rw [FF_cons, ih h.tail, wor_zero (h q List.mem_cons_self).2.1]; rfl
theorem FF_mono {am : List (Int × Int)} (h : Am am) (k : Nat) : FF am k ≤ FF am (k + 1) := by
  induction am with
  | nil => simp [FF]
  | cons q am ih =>
    have := ih h.tail
    have := wor_mono (b := q.1) (show 0 ≤ q.2 by have := (h q List.mem_cons_self).1; omega) k
    rw [FF_cons, FF_cons]
    omega
theorem FF_conc {am : List (Int × Int)} (h : Am am) (k : Nat) : FF am (k + 2) - FF am (k + 1) ≤ FF am (k + 1) - FF am k := by
  induction am with
  | nil => simp [FF]
  | cons q am ih =>
    have := ih h.tail
    have := wor_conc (b := q.1) (show 0 ≤ q.2 by have := (h q List.mem_cons_self).1; omega) k
    rw [FF_cons, FF_cons, FF_cons]
    omega
/-- on day k + 1 some card can still pay -/
def Mor (am : List (Int × Int)) (k : Nat) : Prop := ∃ q ∈ am, (k : Int) * q.2 < q.1
theorem Mor.less {am : List (Int × Int)} (h : Am am) {k : Nat} : Mor am (k + 1) → Mor am k := by
  rintro ⟨q, hq, h1⟩
  refine ⟨q, hq, ?_⟩
  have := (h q hq).1
  rw [succ_mul'] at h1
  omega
theorem FF_step {am : List (Int × Int)} (h : Am am) (k : Nat) : FF am k < FF am (k + 1) ↔ Mor am k := by
  induction am with
  | nil => simp [FF, Mor]
  | cons q am ih =>
    have ih := ih h.tail
    have h1 := FF_mono h.tail k
    have h0 := (h q List.mem_cons_self).1
    have h2 := wor_mono (b := q.1) (show 0 ≤ q.2 by omega) k
    have h3 := wor_step (b := q.1) h0 k
    rw [FF_cons, FF_cons]
    constructor
    · intro z
      by_cases hq : (k : Int) * q.2 < q.1
      · exact ⟨q, List.mem_cons_self, hq⟩
      · obtain ⟨x, hx, hm⟩ := ih.mp (by omega)
        exact ⟨x, List.mem_cons_of_mem _ hx, hm⟩
    · rintro ⟨x, hx, hm⟩
      rcases List.mem_cons.mp hx with rfl | hx
      · have := h3.mpr hm; omega
      · have := ih.mpr ⟨x, hx, hm⟩; omega
/-- the row of cards: the numbers by which the sums grow, as long as they do -/
def IsRow (am : List (Int × Int)) (row : List Int) : Prop := ∃ d : Nat, d ≤ 24 ∧ (∀ k, k < d → Mor am k) ∧ ¬ Mor am d ∧ row = (List.range d).map fun k => FF am (k + 1) - FF am k
theorem Am.stop {am : List (Int × Int)} (h : Am am) : ¬ Mor am 24 := by
  rintro ⟨q, hq, h1⟩
  have := (h q hq).2.2
  omega
theorem sumN_app : ∀ (n : Nat) (row : List Int), sumN row (n + 1) = sumN row n + row.getD n 0
  | 0, row => by cases row <;> simp [sumN]
  | n + 1, row => by
    show row.headD 0 + sumN row.tail (n + 1) = (row.headD 0 + sumN row.tail n) + row.getD (n + 1) 0
    rw [sumN_app n row.tail]
    have : row.getD (n + 1) 0 = row.tail.getD n 0 := by cases row <;> simp
    omega
theorem Mor.from {am : List (Int × Int)} (h : Am am) {d : Nat} (hd : ¬ Mor am d) : ∀ k, d ≤ k → ¬ Mor am k := by
  intro k hk
  induction k with
  | zero => have : d = 0 := by omega
            subst this; exact hd
  | succ k ih =>
    by_cases e : d = k + 1
    · subst e; exact hd
    · exact fun z => ih (by omega) (z.less h)
theorem FF_flat {am : List (Int × Int)} (h : Am am) {d : Nat} (hd : ¬ Mor am d) : ∀ k, d ≤ k → FF am k = FF am d := by
  intro k hk
  induction k with
  | zero => have : d = 0 := by omega
            subst this; rfl
  | succ k ih =>
    by_cases e : d = k + 1
    · subst e; rfl
    · have h1 := ih (by omega)
      have h2 := Mor.from h hd k (by omega)
      have h3 := FF_mono h k
      have h4 := mt (FF_step h k).mp h2
      omega
theorem IsRow.sum {am : List (Int × Int)} (h : Am am) {row : List Int} (r : IsRow am row) : ∀ n, sumN row n = FF am n := by
  obtain ⟨d, hd, h1, h2, rfl⟩ := r
  intro n
  induction n with
  | zero => rw [FF_zero h]; rfl
  | succ n ih =>
    rw [sumN_app, ih]
    by_cases hn : n < d
    · have : ((List.range d).map fun k => FF am (k + 1) - FF am k).getD n 0 = FF am (n + 1) - FF am n := by
        rw [List.getD_eq_getElem?_getD, List.getElem?_map, List.getElem?_range hn]; rfl
      omega
    · have : ((List.range d).map fun k => FF am (k + 1) - FF am k).getD n 0 = 0 := by
        rw [List.getD_eq_getElem?_getD, List.getElem?_eq_none (by simp; omega)]; rfl
      have := FF_flat h h2 n (by omega)
      have := FF_flat h h2 (n + 1) (by omega)
      omega
theorem IsRow.len {am : List (Int × Int)} {row : List Int} (r : IsRow am row) : row.length ≤ 24 := by
  obtain ⟨d, hd, h1, h2, rfl⟩ := r
  simpa using hd
theorem IsRow.falls {am : List (Int × Int)} (h : Am am) {row : List Int} (r : IsRow am row) : Falls row := by
  obtain ⟨d, hd, h1, h2, rfl⟩ := r
  refine ⟨fun x hx => ?_, fun k x y hx hy => ?_⟩
  · obtain ⟨k, hk, rfl⟩ := List.mem_map.mp hx
    have := (FF_step h k).mpr (h1 k (List.mem_range.mp hk))
    omega
  · rw [List.getElem?_map] at hx hy
    have hk : k + 1 < d := by
      by_cases z : k + 1 < d
      · exact z
      · rw [List.getElem?_eq_none (by simp; omega)] at hy; cases hy
    rw [List.getElem?_range (by omega)] at hx
    rw [List.getElem?_range hk] at hy
    cases hx
    cases hy
    exact FF_conc h k
/-- rows of numbers above 0 are told apart by their sums -/
theorem pos_uniq : ∀ {a b : List Int}, (∀ x ∈ a, 0 < x) → (∀ x ∈ b, 0 < x) → (∀ n, sumN a n = sumN b n) → a = b
  | [], [], _, _, _ => rfl
  | [], y :: b, _, hb, h => by
    have h1 := h 1
    have := hb y List.mem_cons_self
    simp [sumN] at h1
    omega
  | x :: a, [], ha, _, h => by
    have h1 := h 1
    have := ha x List.mem_cons_self
    simp [sumN] at h1
    omega
  | x :: a, y :: b, ha, hb, h => by
    have h1 := h 1
    simp [sumN] at h1
    subst h1
    rw [pos_uniq (a := a) (b := b) (fun z hz => ha z (List.mem_cons_of_mem _ hz)) (fun z hz => hb z (List.mem_cons_of_mem _ hz)) fun n => ?_]
    have h2 := h (n + 1)
    simp [sumN] at h2
    exact h2
theorem IsRow.uniq {am : List (Int × Int)} (h : Am am) {row row' : List Int} (r : IsRow am row) (r' : IsRow am row') : row = row' :=
  pos_uniq (r.falls h).1 (r'.falls h).1 fun n => by rw [r.sum h, r'.sum h]
theorem sumN_flat : ∀ (row : List Int) (n : Nat), row.length ≤ n → sumN row n = sumN row row.length
  | [], n, _ => by rw [sumN_nil, sumN_nil]
  | x :: row, 0, h => by simp at h
  | x :: row, n + 1, h => by
    show x + sumN row n = x + sumN row row.length
    rw [sumN_flat row n (by simpa using h)]
theorem sumN_mono {row : List Int} (h : ∀ x ∈ row, 0 ≤ x) : ∀ n, sumN row n ≤ sumN row (n + 1) := by
  intro n
  rw [sumN_app]
  by_cases hn : n < row.length
  · have : 0 ≤ row.getD n 0 := by
      rw [List.getD_eq_getElem?_getD, List.getElem?_eq_getElem hn]
      exact h _ (List.getElem_mem hn)
    omega
  · have : row.getD n 0 = 0 := by rw [List.getD_eq_getElem?_getD, List.getElem?_eq_none (by omega)]; rfl
    omega
end P20


set_option Elab.async false
set_option linter.all false
set_option maxRecDepth 100000
set_option maxHeartbeats 4000000
namespace Mi
open PySem L2
/-- a comprehension over data made of plain things, that draws nothing -/
theorem ok_lcm {α : Type} {g : MG} {mt : MT} {me : ME} {ρ : Env} {u : PuS} {xs : List α} {f : α → D} (r : α → Env) (t : α → Bool) (e : α → D) {P : List D → PuS → Prop} (h1 : ∀ x ∈ xs, g (f x) ρ = some (r x)) (h2 : ∀ x ∈ xs, Ok (mt (r x)) u fun b u' => b = t x ∧ u' = u)
    (h3 : ∀ x ∈ xs, t x = true → Ok (me (r x)) u fun b u' => b = e x ∧ u' = u) (h : P ((xs.filter t).map e) u) : Ok (lcD g mt me ρ (xs.map f)) u P := by
  have : lcD g mt me ρ (xs.map f) u = some ((xs.filter t).map e, u) := by
    clear h
    induction xs with
    | nil => rfl
    | cons x xs ih =>
      have ih := ih (fun y hy => h1 y (List.mem_cons_of_mem _ hy)) (fun y hy => h2 y (List.mem_cons_of_mem _ hy)) (fun y hy => h3 y (List.mem_cons_of_mem _ hy))
      refine eq_of_ok ?_
      rw [List.map_cons]
      unfold lcD
      rw [ok_bind, ok_lft]
      refine ⟨_, h1 x List.mem_cons_self, ?_⟩
      rw [ok_bind, ok_of (eq_of_ok (h2 x List.mem_cons_self))]
      cases ht : t x with
      | false =>
        rw [if_neg (by decide), ok_of ih]
        simp [ht]
      | true =>
        rw [if_pos rfl, ok_bind, ok_of (eq_of_ok (h3 x List.mem_cons_self ht)), ok_bind, ok_of ih, ok_pure]
        simp [ht]
  exact (ok_of this).mpr h
/-- .. of all items -/
theorem ok_lca {α : Type} {g : MG} {me : ME} {ρ : Env} {u : PuS} {xs : List α} {f : α → D} (r : α → Env) (e : α → D) {P : List D → PuS → Prop} (h1 : ∀ x ∈ xs, g (f x) ρ = some (r x))
    (h3 : ∀ x ∈ xs, Ok (me (r x)) u fun b u' => b = e x ∧ u' = u) (h : P (xs.map e) u) : Ok (lcD g mYes me ρ (xs.map f)) u P :=
  ok_lcm r (fun _ => true) e h1 (fun x hx => by simp) (fun x hx _ => h3 x hx) (by rw [List.filter_eq_self.mpr fun _ _ => rfl]; exact h)
/-- .. of all items of a range -/
theorem ok_lcra {g : MG} {me : ME} {ρ : Env} {u : PuS} {lo : Int} {n : Nat} (r : Nat → Env) (e : Nat → D) {P : List D → PuS → Prop} (h1 : ∀ i, i < n → g (.int (lo + (i : Nat))) ρ = some (r i))
    (h3 : ∀ i, i < n → Ok (me (r i)) u fun b u' => b = e i ∧ u' = u) (h : P ((List.range n).map e) u) : Ok (lcD g mYes me ρ (rngD lo n)) u P :=
  ok_lcr r (fun _ => true) e h1 (fun i hi => by simp) (fun i hi _ => h3 i hi) (by rw [List.filter_eq_self.mpr fun _ _ => rfl]; exact h)
theorem flatDs_strs (ns : List Str) : flatDs (ns.map D.str) = some (ns.map V.str) := by
  induction ns with
  | nil => rfl
  | cons n ns ih =>
    show (match flatD (.str n), flatDs (ns.map D.str) with
      | some a, some as => some (a :: as)
      | _, _ => none) = _
    rw [ih]; rfl
theorem inV_strs (x : Str) (ns : List Str) : inV (.str x) (ns.map V.str) = decide (x ∈ ns) := by
  induction ns with
  | nil => rfl
  | cons n ns ih =>
    show (eqV (.str n) (.str x) || inV (.str x) (ns.map V.str)) = _
    rw [ih]
    have : eqV (.str n) (.str x) = decide (x = n) := by
      show (n == x) = _
      by_cases h : x = n
      · subst h; simp
      · have : ¬ n = x := fun z => h z.symm
        simp [h, this]
    rw [this]
    by_cases h : x = n <;> simp [h]
@[simp] theorem s_inStrs {x : Str} {ns : List Str} : inD (.str x) (.lst (ns.map D.str)) = some (.bl (decide (x ∈ ns))) := by
  show (inB (.str x) (.lst (ns.map D.str))).map D.bl = _
  have : inB (.str x) (.lst (ns.map D.str)) = (flatDs (ns.map D.str)).map fun ws => inV (.str x) ws := rfl
  rw [this, flatDs_strs]
  show some (D.bl (inV (.str x) (ns.map V.str))) = _
  rw [inV_strs]
@[simp] theorem s_inStrsT {x : Str} {ns : List Str} : inD (.str x) (.tup (ns.map D.str)) = some (.bl (decide (x ∈ ns))) := by
  show (inB (.str x) (.tup (ns.map D.str))).map D.bl = _
  have : inB (.str x) (.tup (ns.map D.str)) = (flatDs (ns.map D.str)).map fun ws => inV (.str x) ws := rfl
  rw [this, flatDs_strs]
  show some (D.bl (inV (.str x) (ns.map V.str))) = _
  rw [inV_strs]
theorem s_sumI {ns : List Int} : sumD [.lst (ns.map D.int)] = some (.int ns.sum) := by
  show (intsD (ns.map D.int)).map (fun ns => D.int ns.sum) = _
  rw [intsD_map]; rfl
end Mi
namespace Sh
open PySem L2 Mi P20
def prD (q : Int × Int) : D := .tup [.int q.1, .int q.2]
def cardD (q : Int × Int) : D := .obj "Card" ["held", "daily"] [.int q.1, .int q.2]
def pairD (x : Str × (Int × Int)) : D := .tup [.str x.1, cardD x.2]
def walD (ps : List (Str × (Int × Int))) : D := .obj "Wallet" ["pairs"] [.tup (ps.map pairD)]
theorem worth_ok {b l : Int} {k : Nat} (hk : k ≤ 1000) {u : PuS} {P : D → PuS → Prop} (h : P (.int (wor b l k)) u) : Ok (mf_worth [.int b, .int l, .int k]) u P := by
  unfold mf_worth mb_worth
  simp
  refine ⟨.inl (.inl (by omega)), ?_⟩
  have : (if (k : Int) * l < b then (k : Int) * l else b) = wor b l k := by unfold wor; split <;> omega
  rw [this]
  exact h
theorem card_init {b l : Int} (hl : 1 ≤ l) (hb : 0 ≤ b) (h24 : b ≤ 24 * l) {u : PuS} {P : List Str × List D → PuS → Prop} (h : P (["held", "daily"], [.int b, .int l]) u) : Ok (mf_Card___init__ [.int b, .int l]) u P := by
  unfold mf_Card___init__ mb_Card___init__
  have h1 : 0 ≤ l := by omega
  have h2 : ¬ l = 0 := by omega
  have h3 : ¬ 24 * l < b := by omega
  simp [startI, hb, h1, h2, h3]
  exact ⟨[], [], ⟨rfl, rfl⟩, by simp, by decide, ⟨by simp, by decide⟩, by decide, h⟩
def IsNm (x : Str) : Prop := ∀ u, mf_is_name [.str x] u = some (.bl true, u)
structure Nms (ps : List (Str × (Int × Int))) : Prop where
  len : ps.length ≤ 12
  nd : (ps.map Prod.fst).Nodup
  nm : ∀ p ∈ ps, IsNm p.1
theorem wrong_pair_ok {ps : List (Str × (Int × Int))} (hn : Nms ps) {u : PuS} {P : D → PuS → Prop} (h : P .non u) : Ok (mf_wrong_pair [.tup (ps.map pairD)]) u P := by
  unfold mf_wrong_pair mb_wrong_pair
  simp
  refine ok_list (enumD (ps.map pairD)) (fun k ρ u' => u' = u ∧ ∃ a b c d, ρ = [.sh (.tup (ps.map pairD)), .ow (((ps.take k).map Prod.fst).map D.str), a, b, c, d]) ?_ ?_ _ _ ⟨rfl, _, _, _, _, rfl⟩
  · rintro k d ρ u' e ⟨rfl, a, b, c, d, rfl⟩
    obtain ⟨x, ex, rfl⟩ := enumD_at e
    rw [List.getElem?_map] at ex
    cases e2 : ps[k]? with
    | none => rw [e2] at ex; cases ex
    | some p =>
      rw [e2] at ex
      cases ex
      have hk : k < ps.length := (List.getElem?_eq_some_iff.mp e2).1
      have hl := hn.len
      unfold lb_wrong_pair_1
      have h1 : ¬ (k : Int) = 12 := by omega
      have e3 : isiD [pairD p, .ty "tuple"] = some (.bl true) := rfl
      have e4 : isiD [cardD p.2, .cls "Card"] = some (.bl true) := rfl
      have e5 : ¬ p.1 ∈ (ps.take k).map Prod.fst := by
        intro hm
        have hnd := hn.nd
        have e6 : ps.map Prod.fst = (ps.take k).map Prod.fst ++ p.1 :: (ps.drop (k + 1)).map Prod.fst := by
          have : p = ps[k] := (List.getElem?_eq_some_iff.mp e2).2.symm
          rw [this, ← List.map_cons (f := Prod.fst), ← List.drop_eq_getElem_cons hk, ← List.map_append, List.take_append_drop]
        rw [e6] at hnd
        exact (List.nodup_append.mp hnd).2.2 _ hm _ List.mem_cons_self rfl
      have e7 : (ps.take (k + 1)).map Prod.fst = (ps.take k).map Prod.fst ++ [p.1] := by
        rw [List.take_succ, e2]; simp
      have hlen : ((ps.take k).map Prod.fst).length ≤ 12 := by simp; omega
      rw [e7]
      generalize (ps.take k).map Prod.fst = nk at e5 hlen ⊢
      simp [e3, h1, -List.map_map]
      have e8 : lenD [pairD p] = some (.int 2) := rfl
      simp [e8, -List.map_map]
      refine ⟨_, rfl, ?_⟩
      simp [-List.map_map]
      rw [ok_of (hn.nm p (List.mem_of_getElem? e2) u')]
      simp [e4, e5]
      omega
  · rintro ρ u' ⟨rfl, a, b, c, d, rfl⟩
    simpa using h
theorem wal_init {ps : List (Str × (Int × Int))} (hn : Nms ps) {u : PuS} {P : List Str × List D → PuS → Prop} (h : P (["pairs"], [.tup (ps.map pairD)]) u) : Ok (mf_Wallet___init__ [.tup (ps.map pairD)]) u P := by
  unfold mf_Wallet___init__ mb_Wallet___init__
  have e : isiD [.tup (ps.map pairD), .ty "tuple"] = some (.bl true) := rfl
  simp [startI, e]
  refine wrong_pair_ok hn ?_
  have e2 : isntD .non .non = some (.bl false) := rfl
  simp [e2]
  exact ⟨[], [], ⟨rfl, rfl⟩, by simp, by decide, h⟩
@[simp] theorem check_wallet_ok {ps : List (Str × (Int × Int))} {u : PuS} {P : D → PuS → Prop} : Ok (mf_check_wallet [walD ps]) u P ↔ P .non u := by
  unfold mf_check_wallet mb_check_wallet
  have e : isiD [walD ps, .cls "Wallet"] = some (.bl true) := rfl
  simp [e]
theorem dmC_log {a b : Int} (h : 0 < b) (h2 : b.natAbs.log2 < 8000) : dmC a b = true := by
  unfold dmC
  have e : Builtin.divisionGoesByPylong a b = false := by
    unfold Builtin.divisionGoesByPylong
    simp only []
    have hb : ¬ ((if (b == 0) = true then 0 else b.natAbs.log2 / 30 + 1) > 300) := by
      split
      · omega
      · omega
    simp only [hb, decide_false, Bool.false_and]
  rw [e, decide_eq_true h]; rfl
end Sh


set_option Elab.async false
set_option linter.all false
set_option maxRecDepth 100000
set_option maxHeartbeats 4000000
/-! K2m: what courses ask, plain. -/
namespace P20
/-- an event: a bill, or a card that comes -/
abbrev Ev := Sum Int (Int × Int)
def isB : Ev → Bool
  | .inl _ => true
  | .inr _ => false
def nB (evs : List Ev) : Nat := (evs.filter isB).length
def nC (evs : List Ev) : Nat := (evs.filter fun e => !isB e).length
theorem nB_inl (x : Int) (r : List Ev) : nB (.inl x :: r) = nB r + 1 := rfl
theorem nB_inr (q : Int × Int) (r : List Ev) : nB (.inr q :: r) = nB r := rfl
/-- sets of days with their worth -/
inductive Sel : Int → List Ev → List Int → Int → Prop
  | nil (i : Int) : Sel i [] [] 0
  | card {i b l v : Int} {rest : List Ev} {s : List Int} (h : Sel (i + 1) rest s v) : Sel i (.inr (b, l) :: rest) s (v - wor b l s.length)
  | skip {i x v : Int} {rest : List Ev} {s : List Int} (h : Sel (i + 1) rest s v) : Sel i (.inl x :: rest) s v
  | take {i x v : Int} {rest : List Ev} {s : List Int} (h : Sel (i + 1) rest s v) : Sel i (.inl x :: rest) (i :: s) (x + v)
/-- one step of the table, at an event with this index -/
def askStep (i : Int) (e : Ev) (best : List (Int × List Int)) : List (Int × List Int) := match e with
  | .inr (b, l) => best.map fun q => (q.1 - wor b l q.2.length, q.2)
  | .inl x =>
    let longer := best.map fun q => (q.1 + x, i :: q.2)
    [best.headD (0, [])] ++ ((List.range (best.length - 1)).map fun k => if (longer.getD k (0, [])).1 ≤ (best.getD (k + 1) (0, [])).1 then best.getD (k + 1) (0, []) else longer.getD k (0, [])) ++ [longer.getLastD (0, [])]
def asked (i : Int) : List Ev → List (Int × List Int)
  | [] => [(0, [])]
  | e :: rest => askStep i e (asked (i + 1) rest)
/-- a table as it should be -/
structure Tab (i : Int) (evs : List Ev) (t : List (Int × List Int)) : Prop where
  len : t.length = nB evs + 1
  at_ : ∀ (k : Nat) (a : Int) (ds : List Int), t[k]? = some (a, ds) → ds.length = k ∧ Sel i evs ds a ∧ ∀ s v, Sel i evs s v → s.length = k → v ≤ a
theorem Sel.len {i : Int} {evs : List Ev} {s : List Int} {v : Int} (h : Sel i evs s v) : s.length ≤ nB evs := by
  induction h with
  | nil => exact Nat.le_refl _
  | card h ih => rw [nB_inr]; exact ih
  | skip h ih => rw [nB_inl]; omega
  | take h ih => rw [nB_inl, List.length_cons]; omega
theorem asked_tab : ∀ (evs : List Ev) (i : Int), Tab i evs (asked i evs)
  | [], i => ⟨rfl, fun k a ds e => by
      cases k with
      | zero =>
        simp [asked] at e
        obtain ⟨rfl, rfl⟩ := e
        exact ⟨rfl, .nil i, fun s v h _ => by cases h; exact Int.le_refl _⟩
      | succ k => simp [asked] at e⟩
  | .inr (b, l) :: rest, i => by
    have ih := asked_tab rest (i + 1)
    refine ⟨?_, fun k a ds e => ?_⟩
    · show ((asked (i + 1) rest).map _).length = _
      rw [List.length_map, ih.len, nB_inr]
    · have e' : ((asked (i + 1) rest).map fun q => (q.1 - wor b l q.2.length, q.2))[k]? = some (a, ds) := e
      rw [List.getElem?_map] at e'
      cases e1 : (asked (i + 1) rest)[k]? with
      | none => rw [e1] at e'; cases e'
      | some q =>
        obtain ⟨a', ds'⟩ := q
        rw [e1] at e'
        cases e'
        obtain ⟨h1, h2, h3⟩ := ih.at_ k a' _ e1
        refine ⟨h1, .card h2, fun s v h hs => ?_⟩
        cases h with
        | card h =>
          have := h3 _ _ h hs
          rw [hs, h1]
          omega
  | .inl x :: rest, i => by
    have ih := asked_tab rest (i + 1)
    have hn : nB (.inl x :: rest) = nB rest + 1 := rfl
    have hlen : (asked (i + 1) rest).length = nB rest + 1 := ih.len
    generalize hb : asked (i + 1) rest = best at ih hlen
    have hres : asked i (.inl x :: rest) = askStep i (.inl x) best := by rw [← hb]; rfl
    rw [hres]
    obtain ⟨q0, br, rfl⟩ : ∃ q br, best = q :: br := by
      cases best with
      | nil => simp at hlen
      | cons q br => exact ⟨q, br, rfl⟩
    have hget : ∀ k, k < nB rest + 1 → (q0 :: br)[k]? = some ((q0 :: br).getD k (0, [])) := fun k hk => by
      rw [List.getD_eq_getElem?_getD, List.getElem?_eq_getElem (by omega)]; rfl
    have hgl : ∀ k, k < nB rest + 1 → ((q0 :: br).map fun q => (q.1 + x, i :: q.2)).getD k (0, []) = (((q0 :: br).getD k (0, [])).1 + x, i :: ((q0 :: br).getD k (0, [])).2) := fun k hk => by
      rw [List.getD_eq_getElem?_getD, List.getElem?_map, hget k hk]; rfl
    have hst : ∀ k, k ≤ nB rest + 1 → (askStep i (.inl x) (q0 :: br))[k]? = some (if k = 0 then q0 else if h : k < nB rest + 1 then (if ((q0 :: br).getD (k - 1) (0, [])).1 + x ≤ ((q0 :: br).getD k (0, [])).1 then (q0 :: br).getD k (0, []) else (((q0 :: br).getD (k - 1) (0, [])).1 + x, i :: ((q0 :: br).getD (k - 1) (0, [])).2)) else (((q0 :: br).getD (nB rest) (0, [])).1 + x, i :: ((q0 :: br).getD (nB rest) (0, [])).2)) := fun k hk => by
      unfold askStep
      simp only []
      cases k with
      | zero => simp
      | succ k =>
        rw [if_neg (by omega)]
        show ((([(q0 :: br).headD (0, [])] ++ _) ++ [_])[k + 1]?) = _
        by_cases hk2 : k + 1 < nB rest + 1
        · have hlen' : br.length = nB rest := by rw [List.length_cons] at hlen; omega
          rw [dif_pos hk2, List.getElem?_append_left (by simp; omega)]
          show ((List.range ((q0 :: br).length - 1)).map _)[k]? = _
          rw [List.getElem?_map, List.getElem?_range (by rw [hlen]; omega)]
          simp only [Option.map_some, hgl k (by omega)]
          rfl
        · rw [dif_neg hk2]
          have hke : k = nB rest := by omega
          have hlen' : br.length = nB rest := by rw [List.length_cons] at hlen; omega
          rw [List.getElem?_append_right (by simp; omega)]
          have e0 : k + 1 - ([(q0 :: br).headD (0, [])] ++ ((List.range ((q0 :: br).length - 1)).map fun k => if (((q0 :: br).map fun q => (q.1 + x, i :: q.2)).getD k (0, [])).1 ≤ ((q0 :: br).getD (k + 1) (0, [])).1 then (q0 :: br).getD (k + 1) (0, []) else ((q0 :: br).map fun q => (q.1 + x, i :: q.2)).getD k (0, []))).length = 0 := by simp; omega
          rw [e0]
          simp only [List.getElem?_cons_zero]
          congr 1
          rw [List.getLastD_eq_getLast?, List.getLast?_eq_getElem?]
          have e1 : ((q0 :: br).map fun q => (q.1 + x, i :: q.2)).length - 1 = nB rest := by rw [List.length_map, hlen]; omega
          rw [e1, List.getElem?_map, hget (nB rest) (by omega)]
          rfl
    refine ⟨?_, fun k a ds e => ?_⟩
    · rw [hn]
      unfold askStep
      simp
      simp at hlen
      omega
    · have hk : k ≤ nB rest + 1 := by
        have := (List.getElem?_eq_some_iff.mp e).1
        have h2 : (askStep i (.inl x) (q0 :: br)).length = nB rest + 2 := by
          unfold askStep
          simp
          simp at hlen
          omega
        omega
      rw [hst k hk] at e
      have e := Option.some.inj e
      have tk : ∀ j, j < nB rest + 1 → ∀ q, q = (q0 :: br).getD j (0, []) → q.2.length = j ∧ Sel (i + 1) rest q.2 q.1 ∧ ∀ s v, Sel (i + 1) rest s v → s.length = j → v ≤ q.1 := fun j hj q hq => ih.at_ j q.1 q.2 (by rw [hget j hj, hq])
      have cmp : ∀ (s : List Int) (v : Int), Sel i (.inl x :: rest) s v → (Sel (i + 1) rest s v) ∨ ∃ s' v', s = i :: s' ∧ v = x + v' ∧ Sel (i + 1) rest s' v' := fun s v h => by
        cases h with
        | skip h => exact .inl h
        | take h => exact .inr ⟨_, _, rfl, rfl, h⟩
      by_cases k0 : k = 0
      · subst k0
        rw [if_pos rfl] at e
        obtain ⟨h1, h2, h3⟩ := tk 0 (by omega) q0 rfl
        subst e
        refine ⟨h1, .skip h2, fun s v h hs => ?_⟩
        rcases cmp s v h with h | ⟨s', v', es, ev, h'⟩
        · exact h3 s v h hs
        · rw [es] at hs; simp at hs
      · rw [if_neg k0] at e
        obtain ⟨p1, p2, p3⟩ := tk (k - 1) (by omega) _ rfl
        by_cases hk2 : k < nB rest + 1
        · rw [dif_pos hk2] at e
          obtain ⟨h1, h2, h3⟩ := tk k hk2 _ rfl
          split at e
          · rename_i hc
            rw [e] at h1 h2 h3 hc
            refine ⟨h1, .skip h2, fun s v h hs => ?_⟩
            rcases cmp s v h with h | ⟨s', v', es, ev, h'⟩
            · exact h3 s v h hs
            · have := p3 s' v' h' (by rw [es, List.length_cons] at hs; omega)
              simp only [] at hc
              omega
          · rename_i hc
            obtain ⟨ea, ed⟩ := Prod.mk.inj e
            subst ea ed
            refine ⟨by rw [List.length_cons, p1]; omega, ?_, fun s v h hs => ?_⟩
            · rw [Int.add_comm]; exact .take p2
            · rcases cmp s v h with h | ⟨s', v', es, ev, h'⟩
              · have := h3 s v h hs; omega
              · have := p3 s' v' h' (by rw [es, List.length_cons] at hs; omega); omega
        · rw [dif_neg hk2] at e
          have hke : k - 1 = nB rest := by omega
          rw [← hke] at e
          obtain ⟨ea, ed⟩ := Prod.mk.inj e
          subst ea ed
          refine ⟨by rw [List.length_cons, p1]; omega, ?_, fun s v h hs => ?_⟩
          · rw [Int.add_comm]; exact .take p2
          · rcases cmp s v h with h | ⟨s', v', es, ev, h'⟩
            · have := h.len; omega
            · have := p3 s' v' h' (by rw [es, List.length_cons] at hs; omega); omega
/-- what a course asks of 1, 2, .. days -/
def asks (evs : List Ev) : List Int := ((asked 0 evs).map Prod.fst).drop 1
theorem asked_len (evs : List Ev) (i : Int) : (asked i evs).length = nB evs + 1 := (asked_tab evs i).len
theorem asks_len (evs : List Ev) : (asks evs).length = nB evs := by simp [asks, asked_len]
theorem asked_zero : ∀ (evs : List Ev) (i : Int), Am (evs.filterMap fun e => match e with | .inr q => some q | .inl _ => none) → (asked i evs)[0]? = some (0, [])
  | [], i, _ => rfl
  | .inr (b, l) :: rest, i, h => by
    have ih := asked_zero rest (i + 1) (fun q hq => h q (by simp; exact .inr (by simpa using hq)))
    show ((asked (i + 1) rest).map _)[0]? = _
    rw [List.getElem?_map, ih]
    have := (h (b, l) (by simp)).2.1
    simp [wor_zero this]
  | .inl x :: rest, i, h => by
    have ih := asked_zero rest (i + 1) (fun q hq => h q (by simpa using hq))
    show (askStep i (.inl x) (asked (i + 1) rest))[0]? = _
    unfold askStep
    cases hb : asked (i + 1) rest with
    | nil => rw [hb] at ih; simp at ih
    | cons q br => rw [hb] at ih; simp at ih; simp [ih]
/-! ### sets of days, one by one -/
def spotsI : Int → List Ev → List Int
  | _, [] => []
  | i, .inl _ :: r => i :: spotsI (i + 1) r
  | i, .inr _ :: r => spotsI (i + 1) r
theorem spotsI_ge : ∀ (evs : List Ev) (i d : Int), d ∈ spotsI i evs → i ≤ d
  | [], i, d, h => by cases h
  | .inl x :: r, i, d, h => by
    rcases List.mem_cons.mp h with rfl | h
    · exact Int.le_refl _
    · have := spotsI_ge r (i + 1) d h; omega
  | .inr q :: r, i, d, h => by have := spotsI_ge r (i + 1) d h; omega
theorem spotsI_len : ∀ (evs : List Ev) (i : Int), (spotsI i evs).length = nB evs
  | [], i => rfl
  | .inl x :: r, i => by rw [nB_inl]; show (spotsI (i + 1) r).length + 1 = _; rw [spotsI_len r]
  | .inr q :: r, i => by rw [nB_inr]; exact spotsI_len r (i + 1)
def bAt (evs : List Ev) (d : Int) : Int := match evs[d.toNat]? with
  | some (.inl x) => x
  | _ => 0
def cutSum : Int → List Ev → List Int → Int
  | _, [], _ => 0
  | i, .inr q :: r, s => wor q.1 q.2 (s.filter fun d => decide (i < d)).length + cutSum (i + 1) r s
  | i, .inl _ :: r, s => cutSum (i + 1) r s
def lv (i : Int) (evs : List Ev) (s : List Int) : Int := (s.map fun d => bAt evs (d - i)).sum - cutSum i evs s
theorem bAt_cons {e : Ev} {r : List Ev} {i d : Int} (h : i + 1 ≤ d) : bAt (e :: r) (d - i) = bAt r (d - (i + 1)) := by
  unfold bAt
  have : (d - i).toNat = (d - (i + 1)).toNat + 1 := by omega
  rw [this]
  rfl
theorem cutSum_drop : ∀ (evs : List Ev) (i j : Int) (s : List Int), j < i → cutSum i evs (j :: s) = cutSum i evs s
  | [], i, j, s, h => rfl
  | .inr q :: r, i, j, s, h => by
    show wor q.1 q.2 ((j :: s).filter fun d => decide (i < d)).length + cutSum (i + 1) r (j :: s) = _
    rw [cutSum_drop r (i + 1) j s (by omega), List.filter_cons_of_neg (by simp; omega)]
    rfl
  | .inl x :: r, i, j, s, h => cutSum_drop r (i + 1) j s (by omega)
theorem sel_of_sub : ∀ (evs : List Ev) (i : Int) (s : List Int), s.Sublist (spotsI i evs) → Sel i evs s (lv i evs s)
  | [], i, s, h => by
    have : s = [] := List.eq_nil_of_sublist_nil h
    subst this
    exact .nil i
  | .inr (b, l) :: r, i, s, h => by
    have hs : s.Sublist (spotsI (i + 1) r) := h
    have ge : ∀ d ∈ s, i + 1 ≤ d := fun d hd => spotsI_ge r (i + 1) d (hs.subset hd)
    have ih := sel_of_sub r (i + 1) s hs
    have e : lv i (.inr (b, l) :: r) s = lv (i + 1) r s - wor b l s.length := by
      unfold lv
      have e1 : (s.map fun d => bAt (.inr (b, l) :: r) (d - i)) = s.map fun d => bAt r (d - (i + 1)) := List.map_congr_left fun d hd => bAt_cons (ge d hd)
      have e2 : s.filter (fun d => decide (i < d)) = s := List.filter_eq_self.mpr fun d hd => decide_eq_true (by have := ge d hd; omega)
      show _ - (wor b l (s.filter fun d => decide (i < d)).length + cutSum (i + 1) r s) = _
      rw [e1, e2]
      omega
    rw [e]
    exact .card ih
  | .inl x :: r, i, s, h => by
    have hs : s.Sublist (i :: spotsI (i + 1) r) := h
    have key : ∀ s' : List Int, s'.Sublist (spotsI (i + 1) r) → lv i (.inl x :: r) s' = lv (i + 1) r s' := fun s' hs' => by
      have ge : ∀ d ∈ s', i + 1 ≤ d := fun d hd => spotsI_ge r (i + 1) d (hs'.subset hd)
      unfold lv
      have e1 : (s'.map fun d => bAt (.inl x :: r) (d - i)) = s'.map fun d => bAt r (d - (i + 1)) := List.map_congr_left fun d hd => bAt_cons (ge d hd)
      rw [e1]
      rfl
    rcases List.sublist_cons_iff.mp hs with hs' | ⟨s', rfl, hs'⟩
    · rw [key s hs']
      exact .skip (sel_of_sub r (i + 1) s hs')
    · have ge : ∀ d ∈ s', i + 1 ≤ d := fun d hd => spotsI_ge r (i + 1) d (hs'.subset hd)
      have e : lv i (.inl x :: r) (i :: s') = x + lv (i + 1) r s' := by
        rw [← key s' hs']
        unfold lv
        rw [List.map_cons, List.sum_cons]
        have e2 : bAt (.inl x :: r) (i - i) = x := by rw [Int.sub_self]; rfl
        have e3 : cutSum i (.inl x :: r) (i :: s') = cutSum i (.inl x :: r) s' := cutSum_drop r (i + 1) i s' (by omega)
        rw [e2, e3]
        omega
      rw [e]
      exact .take (sel_of_sub r (i + 1) s' hs')
theorem Sel.sub {i : Int} {evs : List Ev} {s : List Int} {v : Int} (h : Sel i evs s v) : s.Sublist (spotsI i evs) := by
  induction h with
  | nil => exact List.Sublist.refl _
  | card h ih => exact ih
  | skip h ih => exact ih.cons _
  | take h ih => exact ih.cons_cons _
theorem Sel.uniq {i : Int} {evs : List Ev} {s : List Int} {v v' : Int} (h : Sel i evs s v) (h' : Sel i evs s v') : v = v' := by
  induction h generalizing v' with
  | nil => cases h'; rfl
  | card h ih =>
    cases h' with
    | card h2 => rw [ih h2]
  | @skip i x v rest s h ih =>
    cases h' with
    | skip h2 => exact ih h2
    | take h2 =>
      have := spotsI_ge _ _ _ (h.sub.subset List.mem_cons_self)
      omega
  | @take i x v rest s h ih =>
    cases h' with
    | take h2 => rw [ih h2]
    | skip h2 =>
      have := spotsI_ge _ _ _ (h2.sub.subset List.mem_cons_self)
      omega
theorem Sel.val {i : Int} {evs : List Ev} {s : List Int} {v : Int} (h : Sel i evs s v) : v = lv i evs s := h.uniq (sel_of_sub evs i s h.sub)
/-- all sets, as they are made one by one -/
def subsets (xs : List Int) : List (List Int) := xs.foldl (fun ss x => ss ++ ss.map fun s => s ++ [x]) [[]]
theorem subsets_snoc (xs : List Int) (x : Int) : subsets (xs ++ [x]) = subsets xs ++ (subsets xs).map fun s => s ++ [x] := by
  unfold subsets
  rw [List.foldl_append]
  rfl
theorem mem_subsets (xs s : List Int) : s ∈ subsets xs ↔ s.Sublist xs := by
  induction hn : xs.length generalizing xs s with
  | zero =>
    have : xs = [] := List.length_eq_zero_iff.mp hn
    subst this
    simp [subsets]
  | succ n ih =>
    obtain ⟨ys, y, rfl⟩ : ∃ ys y, xs = ys ++ [y] := by
      rcases List.eq_nil_or_concat xs with h | ⟨p, l, h⟩
      · rw [h] at hn; simp at hn
      · exact ⟨p, l, by simpa using h⟩
    have ih' := fun s => ih ys s (by simp at hn; exact hn)
    rw [subsets_snoc, List.mem_append, ih', List.mem_map, List.sublist_append_iff]
    constructor
    · rintro (h | ⟨s', h, rfl⟩)
      · exact ⟨s, [], by simp, h, List.nil_sublist _⟩
      · exact ⟨s', [y], rfl, (ih' s').mp h, List.Sublist.refl _⟩
    · rintro ⟨l1, l2, rfl, h1, h2⟩
      rcases List.sublist_cons_iff.mp h2 with h3 | ⟨l3, rfl, h3⟩
      · have := List.eq_nil_of_sublist_nil h3
        subst this
        exact .inl (by simpa using h1)
      · have := List.eq_nil_of_sublist_nil h3
        subst this
        exact .inr ⟨l1, (ih' l1).mpr h1, rfl⟩
theorem subsets_len (xs : List Int) : (subsets xs).length = 2 ^ xs.length := by
  induction hn : xs.length generalizing xs with
  | zero =>
    have : xs = [] := List.length_eq_zero_iff.mp hn
    subst this
    rfl
  | succ n ih =>
    obtain ⟨ys, y, rfl⟩ : ∃ ys y, xs = ys ++ [y] := by
      rcases List.eq_nil_or_concat xs with h | ⟨p, l, h⟩
      · rw [h] at hn; simp at hn
      · exact ⟨p, l, by simpa using h⟩
    have := ih ys (by simp at hn; exact hn)
    rw [subsets_snoc, List.length_append, List.length_map, this, Nat.pow_succ]
    omega
end P20


set_option Elab.async false
set_option linter.all false
set_option maxRecDepth 100000
set_option maxHeartbeats 4000000
namespace Sh
open PySem L2 Mi P20
def evD : Ev → D
  | .inl x => .int x
  | .inr q => cardD q
def courD (evs : List Ev) : D := .obj "Course" ["passed"] [.tup (evs.map evD)]
def evOk : Ev → Prop
  | .inl x => 0 ≤ x
  | .inr q => 1 ≤ q.2 ∧ 0 ≤ q.1 ∧ q.1 ≤ 24 * q.2
structure EvsOk (evs : List Ev) : Prop where
  each : ∀ e ∈ evs, evOk e
  bills : nB evs ≤ 12
  cards : nC evs ≤ 6
theorem nBC : ∀ evs : List Ev, nB evs + nC evs = evs.length
  | [] => rfl
  | .inl x :: r => by have := nBC r; rw [nB_inl]; show nB r + 1 + nC r = r.length + 1; omega
  | .inr q :: r => by have := nBC r; rw [nB_inr]; show nB r + (nC r + 1) = r.length + 1; omega
theorem EvsOk.len {evs : List Ev} (h : EvsOk evs) : evs.length ≤ 18 := by have := nBC evs; have := h.bills; have := h.cards; omega
theorem nB_append (a b : List Ev) : nB (a ++ b) = nB a + nB b := by simp [nB]
theorem nC_append (a b : List Ev) : nC (a ++ b) = nC a + nC b := by simp [nC]
theorem nB_take (evs : List Ev) (k : Nat) : nB (evs.take k) ≤ nB evs := by
  have := nB_append (evs.take k) (evs.drop k)
  rw [List.take_append_drop] at this
  omega
theorem nC_take (evs : List Ev) (k : Nat) : nC (evs.take k) ≤ nC evs := by
  have := nC_append (evs.take k) (evs.drop k)
  rw [List.take_append_drop] at this
  omega
@[simp] theorem bal_ok {q : Int × Int} {u : PuS} {P : D → PuS → Prop} : Ok (mf_Card_balance [.obj "Card" ["held", "daily"] [.int q.1, .int q.2]]) u P ↔ P (.int q.1) u := by
  unfold mf_Card_balance mb_Card_balance
  simp
@[simp] theorem lim_ok {q : Int × Int} {u : PuS} {P : D → PuS → Prop} : Ok (mf_Card_limit [.obj "Card" ["held", "daily"] [.int q.1, .int q.2]]) u P ↔ P (.int q.2) u := by
  unfold mf_Card_limit mb_Card_limit
  simp
theorem wrong_event_ok {evs : List Ev} (h : EvsOk evs) {u : PuS} {P : D → PuS → Prop} (hp : P .non u) : Ok (mf_wrong_event [.tup (evs.map evD)]) u P := by
  unfold mf_wrong_event mb_wrong_event
  simp
  refine ok_list (enumD (evs.map evD)) (fun k ρ u' => u' = u ∧ ∃ a b, ρ = [.sh (.tup (evs.map evD)), .sh (.int (nB (evs.take k))), .sh (.int (nC (evs.take k))), a, b]) ?_ ?_ _ _ ⟨rfl, _, _, rfl⟩
  · rintro k d ρ u' e ⟨rfl, a, b, rfl⟩
    obtain ⟨x, ex, rfl⟩ := enumD_at e
    rw [List.getElem?_map] at ex
    cases e2 : evs[k]? with
    | none => rw [e2] at ex; cases ex
    | some ev =>
      rw [e2] at ex
      cases ex
      have e7 : evs.take (k + 1) = evs.take k ++ [ev] := by rw [List.take_succ, e2]; simp
      have hb := nB_take evs (k + 1)
      have hc := nC_take evs (k + 1)
      have b12 := h.bills
      have c6 := h.cards
      unfold lb_wrong_event_1
      rw [e7] at hb hc ⊢
      rw [nB_append] at hb
      rw [nC_append] at hc
      rw [nB_append, nC_append]
      have hev := h.each ev (List.mem_of_getElem? e2)
      cases ev with
      | inl x =>
        have e3 : isiD [.int x, .cls "Card"] = some (.bl false) := rfl
        have n1 : nB [(Sum.inl x : Ev)] = 1 := rfl
        have n2 : nC [(Sum.inl x : Ev)] = 0 := rfl
        rw [n1] at hb
        rw [n2] at hc
        rw [n1, n2]
        have hx : 0 ≤ x := hev
        have h1 : ¬ (12 : Int) < (nB (evs.take k) : Int) + 1 := by omega
        have h2 : ¬ (6 : Int) < (nC (evs.take k) : Int) := by omega
        have e4 : evD (.inl x) = .int x := rfl
        simp [e3, e4, hx, h1, h2]
      | inr q =>
        have e3 : isiD [evD (.inr q), .cls "Card"] = some (.bl true) := rfl
        have n1 : nB [(Sum.inr q : Ev)] = 0 := rfl
        have n2 : nC [(Sum.inr q : Ev)] = 1 := rfl
        rw [n1] at hb
        rw [n2] at hc
        rw [n1, n2]
        have h1 : ¬ (12 : Int) < (nB (evs.take k) : Int) := by omega
        have h2 : ¬ (6 : Int) < (nC (evs.take k) : Int) + 1 := by omega
        simp [e3, h1, h2]
  · rintro ρ u' ⟨rfl, a, b, rfl⟩
    simpa using hp
theorem cour_init {evs : List Ev} (h : EvsOk evs) {u : PuS} {P : List Str × List D → PuS → Prop} (hp : P (["passed"], [.tup (evs.map evD)]) u) : Ok (mf_Course___init__ [.tup (evs.map evD)]) u P := by
  unfold mf_Course___init__ mb_Course___init__
  have e : isiD [.tup (evs.map evD), .ty "tuple"] = some (.bl true) := rfl
  simp [startI, e]
  refine wrong_event_ok h ?_
  have e2 : isntD .non .non = some (.bl false) := rfl
  simp [e2]
  exact ⟨[], [], ⟨rfl, rfl⟩, by simp, by decide, hp⟩
@[simp] theorem check_course_ok {evs : List Ev} {u : PuS} {P : D → PuS → Prop} : Ok (mf_check_course [courD evs]) u P ↔ P .non u := by
  unfold mf_check_course mb_check_course
  have e : isiD [courD evs, .cls "Course"] = some (.bl true) := rfl
  simp [e]
/-- an entry of the table -/
def askD (q : Int × List Int) : D := .tup [.int q.1, .tup (q.2.map D.int)]
theorem drop_cons {evs : List Ev} {k : Nat} {ev : Ev} (h : evs[k]? = some ev) : evs.drop k = ev :: evs.drop (k + 1) := by
  have hk : k < evs.length := (List.getElem?_eq_some_iff.mp h).1
  have e : ev = evs[k] := (List.getElem?_eq_some_iff.mp h).2.symm
  rw [e]; exact List.drop_eq_getElem_cons hk
theorem asked_sets_ok {evs : List Ev} (h18 : evs.length ≤ 100) {u : PuS} {P : D → PuS → Prop} (hp : P (.lst ((asked 0 evs).map askD)) u) : Ok (mf_asked_sets [.tup (evs.map evD)]) u P := by
  unfold mf_asked_sets mb_asked_sets
  simp
  have e0 : enL [.tup (evs.map evD)] = some (.lst (enumD (evs.map evD))) := rfl
  simp [e0]
  refine ok_list (enumD (evs.map evD)).reverse (fun k ρ u' => u' = u ∧ ∃ a b c d e f g, ρ = [.sh (.tup (evs.map evD)), .sh (.lst ((asked ((evs.length - k : Nat) : Int) (evs.drop (evs.length - k))).map askD)), a, b, c, d, e, f, g]) ?_ ?_ _ _ ?_
  · rintro k d ρ u' e ⟨rfl, a, b, c, d', e', f, g, rfl⟩
    have hk : k < evs.length := by
      have := (List.getElem?_eq_some_iff.mp e).1
      simpa [enumD_len] using this
    rw [List.getElem?_reverse (by rw [enumD_len, List.length_map]; exact hk), enumD_len, List.length_map] at e
    obtain ⟨x, ex, rfl⟩ := enumD_at e
    rw [List.getElem?_map] at ex
    have hj : evs.length - 1 - k + 1 = evs.length - k := by omega
    rw [show evs.length - (k + 1) = evs.length - 1 - k by omega]
    generalize hjj : evs.length - 1 - k = j at hj ex
    rw [← hj]
    cases e2 : evs[j]? with
    | none => rw [e2] at ex; cases ex
    | some ev =>
      rw [e2] at ex
      cases ex
      rw [drop_cons e2]
      have hn : (asked ((j + 1 : Nat) : Int) (evs.drop (j + 1))).length ≤ 101 := by
        rw [asked_len]
        have := nBC (evs.drop (j + 1))
        simp at this
        omega
      have hst : asked (j : Int) (ev :: evs.drop (j + 1)) = askStep (j : Int) ev (asked ((j + 1 : Nat) : Int) (evs.drop (j + 1))) := by
        show askStep (j : Int) ev (asked ((j : Int) + 1) _) = _
        rw [show ((j + 1 : Nat) : Int) = (j : Int) + 1 by omega]
      rw [hst]
      have hlen1 : 1 ≤ (asked ((j + 1 : Nat) : Int) (evs.drop (j + 1))).length := by rw [asked_len]; omega
      have hds : ∀ q ∈ asked ((j + 1 : Nat) : Int) (evs.drop (j + 1)), q.2.length ≤ 100 := fun q hq => by
        obtain ⟨n, hn', e3⟩ := List.mem_iff_getElem.mp hq
        have := ((asked_tab (evs.drop (j + 1)) ((j + 1 : Nat) : Int)).at_ n q.1 q.2 (by rw [List.getElem?_eq_getElem hn', e3])).1
        omega
      generalize asked ((j + 1 : Nat) : Int) (evs.drop (j + 1)) = best at hn hlen1 hds ⊢
      cases ev with
      | inr q =>
        have e3 : isiD [evD (.inr q), .cls "Card"] = some (.bl true) := rfl
        simp [e3, -s_Gt]
        refine ⟨_, rfl, ?_⟩
        simp [e3]
        refine ⟨by omega, ?_⟩
        refine ok_lca (fun z => [.sh (.tup (evs.map evD)), .sh (.lst (best.map askD)), .sh (.int j), .sh (evD (.inr q)), c, d', .sh (.int z.1), .sh (.tup (z.2.map D.int)), g]) (fun z => askD (z.1 - wor q.1 q.2 z.2.length, z.2)) ?_ ?_ ?_
        · intro z hz; rfl
        · intro z hz
          unfold ce_asked_sets_1
          simp
          refine ⟨_, _, rfl, ?_⟩
          simp
          refine ⟨_, _, rfl, ?_⟩
          simp
          refine worth_ok (by have := hds z hz; omega) ?_
          simp
          rfl
        · have e5 : best.map (fun z => askD (z.1 - wor q.1 q.2 z.2.length, z.2)) = (askStep (j : Int) (.inr q) best).map askD := by
            show _ = (best.map _).map askD
            rw [List.map_map]; rfl
          exact ⟨rfl, e5⟩
      | inl x =>
        have e3 : isiD [evD (.inl x), .cls "Card"] = some (.bl false) := rfl
        have ev4 : evD (.inl x) = .int x := rfl
        refine ⟨_, rfl, ?_⟩
        unfold lb_asked_sets_4
        rw [ok_ifS]
        simp only [ok_B, ok_CB, ok_cons, ok_nil, ok_var, ok_C, s_vSh, List.set_cons_succ, List.set_cons_zero, List.getElem?_cons_succ, List.getElem?_cons_zero, Option.some.injEq, exists_eq_left', e3, onB_bl, br_f]
        have hstp : (askStep (j : Int) (.inl x) best).map askD = [askD (best.headD (0, []))] ++ ((List.range (best.length - 1)).map fun k => askD (if ((best.map fun z => (z.1 + x, (j : Int) :: z.2)).getD k (0, [])).1 ≤ (best.getD (k + 1) (0, [])).1 then best.getD (k + 1) (0, []) else (best.map fun z => (z.1 + x, (j : Int) :: z.2)).getD k (0, []))) ++ [askD ((best.map fun z => (z.1 + x, (j : Int) :: z.2)).getLastD (0, []))] := by
          unfold askStep
          simp only [List.map_append, List.map_cons, List.map_nil, List.map_map]
          rfl
        generalize (askStep (j : Int) (.inl x) best).map askD = res at hstp ⊢
        refine seq_step fun kk hkk => ?_
        simp
        refine ⟨by omega, ?_⟩
        refine ok_lca (fun z => [.sh (.tup (evs.map evD)), .sh (.lst (best.map askD)), .sh (.int j), .sh (evD (.inl x)), c, d', .sh (.int z.1), .sh (.tup (z.2.map D.int)), g]) (fun z => askD (z.1 + x, (j : Int) :: z.2)) ?_ ?_ ?_
        · intro z hz; rfl
        · intro z hz
          unfold ce_asked_sets_2
          have ea : addD (.tup [.int (j : Int)]) (.tup (z.2.map D.int)) = some (.tup (((j : Int) :: z.2).map D.int)) := if_pos (by have := hds z hz; simp; omega)
          simp [ev4, ea]
          rfl
        have el : best.map (fun z => askD (z.1 + x, (j : Int) :: z.2)) = (best.map fun z => (z.1 + x, (j : Int) :: z.2)).map askD := by rw [List.map_map]; rfl
        rw [el]
        have hll : (best.map fun z => (z.1 + x, (j : Int) :: z.2)).length = best.length := List.length_map ..
        generalize (best.map fun z => (z.1 + x, (j : Int) :: z.2)) = longer at hll hstp ⊢
        refine hkk _ _ ?_
        clear hkk kk
        refine seq_step fun kk hkk => ?_
        simp [mBorLs]
        refine ⟨by omega, by rw [rngD_len]; omega, ?_⟩
        refine ok_lcra (fun k => [.sh (.tup (evs.map evD)), .sh (.lst (best.map askD)), .sh (.int j), .sh (evD (.inl x)), .sh (.lst (longer.map askD)), d', e', f, .sh (.int (1 + (k : Nat)))]) (fun k => askD (if (longer.getD k (0, [])).1 ≤ (best.getD (k + 1) (0, [])).1 then best.getD (k + 1) (0, []) else longer.getD k (0, []))) ?_ ?_ ?_
        · intro k hk; rfl
        · intro k hk
          unfold ce_asked_sets_3
          have i1 : atI (best.map askD) (1 + (k : Int)) = some (askD (best.getD (k + 1) (0, []))) := by
            rw [show (1 + (k : Int)) = ((k + 1 : Nat) : Int) by omega]
            exact at_nat (by rw [List.getElem?_map, List.getD_eq_getElem?_getD, List.getElem?_eq_getElem (by omega)]; rfl)
          have i2 : atI (longer.map askD) (1 + (k : Int) - 1) = some (askD (longer.getD k (0, []))) := by
            rw [show (1 + (k : Int) - 1) = (k : Int) by omega]
            exact at_nat (by rw [List.getElem?_map, List.getD_eq_getElem?_getD, List.getElem?_eq_getElem (by omega)]; rfl)
          have i3 : ∀ q, ixD (askD q) (.int 0) = some (.int q.1) := fun q => rfl
          generalize best.getD (k + 1) (0, []) = q1 at i1 ⊢
          generalize longer.getD k (0, []) = q2 at i2 ⊢
          simp [i1, i2, i3]
          refine brd (fun z => ?_) (fun z => ?_)
          · simp [z]
          · have z' : q1.1 < q2.1 := by omega
            simp [z, z']
        have hk0 : atI (best.map askD) 0 = some (askD (best.headD (0, []))) := by
          refine at_nat (k := 0) ?_
          cases best with
          | nil => simp at hlen1
          | cons a b => rfl
        have hkl : atI (longer.map askD) (-1) = some (askD (longer.getLastD (0, []))) := by
          obtain ⟨pre, last, rfl⟩ : ∃ pre last, longer = pre ++ [last] := by
            rcases List.eq_nil_or_concat longer with h | ⟨p, l, h⟩
            · rw [h] at hll; simp at hll; omega
            · exact ⟨p, l, by simpa using h⟩
          rw [List.map_append]
          simp only [List.map_cons, List.map_nil]
          rw [at_last, List.getLastD_eq_getLast?]
          simp
        refine hkk _ _ ?_
        clear hkk kk
        have hkp : ∃ kept : List D, ((List.range (best.length - 1)).map fun k => askD (if (longer.getD k (0, [])).1 ≤ (best.getD (k + 1) (0, [])).1 then best.getD (k + 1) (0, []) else longer.getD k (0, []))) = kept ∧ kept.length ≤ 200 := ⟨_, rfl, by simp; omega⟩
        obtain ⟨kept, ek, hkept⟩ := hkp
        rw [ek] at hstp ⊢
        generalize askD (best.headD (0, [])) = fst at hk0 hstp ⊢
        generalize askD (longer.getLastD (0, [])) = lst at hkl hstp ⊢
        have a1 : addD (.lst [fst]) (.lst kept) = some (.lst ([fst] ++ kept)) := s_addL (by simp; omega)
        have a2 : addD (.lst ([fst] ++ kept)) (.lst [lst]) = some (.lst (([fst] ++ kept) ++ [lst])) := s_addL (by simp; omega)
        simp only [List.singleton_append] at a1 a2
        rw [hstp]
        simp [hk0, hkl, a1, a2]
  · rintro ρ u' ⟨rfl, a, b, c, d', e', f, g, rfl⟩
    simp [enumD_len]
    simpa using hp
  · refine ⟨rfl, .un, .un, .un, .un, .un, .un, .un, ?_⟩
    rw [Nat.sub_zero, List.drop_eq_nil_of_le (Nat.le_refl _)]
    rfl
theorem asked_ok {evs : List Ev} (h18 : evs.length ≤ 100) {u : PuS} {P : D → PuS → Prop} (hp : P (.lst ((asks evs).map D.int)) u) : Ok (mf_asked [.tup (evs.map evD)]) u P := by
  unfold mf_asked mb_asked
  simp
  refine asked_sets_ok h18 ?_
  have hl : (asked 0 evs).length ≤ 101 := by rw [asked_len]; have := nBC evs; omega
  simp
  refine ⟨by omega, ?_⟩
  refine ok_lca (fun z => [.sh (.tup (evs.map evD)), .sh (.int z.1), .sh (.tup (z.2.map D.int))]) (fun z => .int z.1) ?_ ?_ ?_
  · intro z hz; rfl
  · intro z hz; simp
  have e : cutD ((asked 0 evs).map fun z => D.int z.1) (some 1) none = (asks evs).map D.int := by
    rw [show (1 : Int) = ((1 : Nat) : Int) from rfl, cut_from]
    unfold asks
    rw [List.map_drop, List.map_map]
    rfl
  simp [e]
  exact hp
@[simp] theorem events_ok {evs : List Ev} {u : PuS} {P : D → PuS → Prop} : Ok (mf_Course_events [.obj "Course" ["passed"] [.tup (evs.map evD)]]) u P ↔ P (.tup (evs.map evD)) u := by
  unfold mf_Course_events mb_Course_events
  simp
@[simp] theorem cards_ok {ps : List (Str × (Int × Int))} (hl : ps.length ≤ 1000) {u : PuS} {P : D → PuS → Prop} (hp : P (.tup (ps.map fun p => cardD p.2)) u) : Ok (mf_Wallet_cards [.obj "Wallet" ["pairs"] [.tup (ps.map pairD)]]) u P := by
  unfold mf_Wallet_cards mb_Wallet_cards
  simp
  refine ⟨by omega, ?_⟩
  refine ok_lca (fun p => [.sh (walD ps), .sh (.str p.1), .sh (cardD p.2)]) (fun p => cardD p.2) ?_ ?_ ?_
  · intro p hp; rfl
  · intro p hp; simp
  exact hp
theorem amounts_ok {ps : List (Str × (Int × Int))} (hl : ps.length ≤ 1000) {u : PuS} {P : D → PuS → Prop} (hp : P (.tup ((ps.map Prod.snd).map prD)) u) : Ok (mf_amounts_of [walD ps]) u P := by
  unfold mf_amounts_of mb_amounts_of
  simp
  refine ⟨_, _, rfl, ?_⟩
  refine cards_ok hl ?_
  simp
  refine ⟨by omega, ?_⟩
  refine ok_lca (xs := ps) (f := fun p => cardD p.2) (fun p => [.sh (walD ps), .sh (cardD p.2)]) (fun p => prD p.2) ?_ ?_ ?_
  · intro p hp; rfl
  · intro p hp
    unfold ce_amounts_of_1
    simp
    refine ⟨_, _, rfl, ?_⟩
    rw [bal_ok]
    refine ⟨_, _, rfl, ?_⟩
    rw [lim_ok]
    exact ⟨rfl, rfl⟩
  rw [List.map_map] at hp
  exact hp
end Sh


set_option Elab.async false
set_option linter.all false
set_option maxRecDepth 100000
set_option maxHeartbeats 4000000
/-! K3m: rows of bills with cards ahead and behind, plain. -/
namespace P20
open Mi L2
theorem asked_is {evs : List Ev} {i : Int} {L : List Int} (hl : L.length = nB evs + 1) (h : ∀ (k : Nat) (x : Int), L[k]? = some x → (∃ s, Sel i evs s x ∧ s.length = k) ∧ ∀ s v, Sel i evs s v → s.length = k → v ≤ x) : (asked i evs).map Prod.fst = L := by
  have T := asked_tab evs i
  apply List.ext_getElem?
  intro k
  by_cases hk : k < nB evs + 1
  · have hk1 : k < (asked i evs).length := by rw [T.len]; exact hk
    have hk2 : k < L.length := by rw [hl]; exact hk
    have e1 : (asked i evs)[k]? = some (asked i evs)[k] := List.getElem?_eq_getElem hk1
    have e2 : L[k]? = some L[k] := List.getElem?_eq_getElem hk2
    rw [List.getElem?_map, e1, e2]
    obtain ⟨t1, t2, t3⟩ := T.at_ k _ _ e1
    obtain ⟨⟨s, s1, s2⟩, s3⟩ := h k _ e2
    have h1 := t3 s _ s1 s2
    have h2 := s3 _ _ t2 t1
    simp only [Option.map_some]
    exact congrArg some (Int.le_antisymm h2 h1)
  · rw [List.getElem?_eq_none (by rw [List.length_map, T.len]; omega), List.getElem?_eq_none (by omega)]
/-- cards alone ask nothing -/
theorem sel_cards : ∀ {cs : List (Int × Int)} {i : Int} {s : List Int} {v : Int}, Am cs → Sel i (cs.map Sum.inr) s v → s = [] ∧ v = 0
  | [], i, s, v, _, h => by cases h; exact ⟨rfl, rfl⟩
  | (b, l) :: cs, i, s, v, ha, h => by
    cases h with
    | card h =>
      obtain ⟨rfl, rfl⟩ := sel_cards ha.tail h
      have := wor_zero (l := l) (ha (b, l) List.mem_cons_self).2.1
      exact ⟨rfl, by simp at this ⊢; omega⟩
theorem sel_cards' : ∀ {cs : List (Int × Int)} {i : Int}, Am cs → Sel i (cs.map Sum.inr) [] 0
  | [], i, _ => .nil i
  | (b, l) :: cs, i, ha => by
    have h := Sel.card (b := b) (l := l) (sel_cards' (cs := cs) (i := i + 1) ha.tail)
    have := wor_zero (l := l) (ha (b, l) List.mem_cons_self).2.1
    have e : (0 : Int) - wor b l ([] : List Int).length = 0 := by simp; omega
    rw [e] at h
    exact h
theorem sel_bills : ∀ {bs : List Int} {cs : List (Int × Int)} {i : Int} {s : List Int} {v : Int}, Am cs → Sel i (bs.map Sum.inl ++ cs.map Sum.inr) s v → ∃ t : List Int, t.Sublist bs ∧ t.length = s.length ∧ t.sum = v
  | [], cs, i, s, v, ha, h => by
    obtain ⟨rfl, rfl⟩ := sel_cards ha h
    exact ⟨[], List.Sublist.refl _, rfl, rfl⟩
  | b :: bs, cs, i, s, v, ha, h => by
    cases h with
    | skip h =>
      obtain ⟨t, h1, h2, h3⟩ := sel_bills ha h
      exact ⟨t, h1.cons _, h2, h3⟩
    | take h =>
      obtain ⟨t, h1, h2, h3⟩ := sel_bills ha h
      exact ⟨b :: t, h1.cons_cons _, by simp [h2], by simp [h3]⟩
theorem bills_sel : ∀ {bs : List Int} {cs : List (Int × Int)} {i : Int} {t : List Int}, Am cs → t.Sublist bs → ∃ s, Sel i (bs.map Sum.inl ++ cs.map Sum.inr) s t.sum ∧ s.length = t.length
  | [], cs, i, t, ha, h => by
    have := List.eq_nil_of_sublist_nil h
    subst this
    exact ⟨[], sel_cards' ha, rfl⟩
  | b :: bs, cs, i, t, ha, h => by
    rcases List.sublist_cons_iff.mp h with h' | ⟨t', rfl, h'⟩
    · obtain ⟨s, h1, h2⟩ := bills_sel (i := i + 1) ha h'
      exact ⟨s, .skip h1, h2⟩
    · obtain ⟨s, h1, h2⟩ := bills_sel (i := i + 1) ha h'
      exact ⟨i :: s, by rw [List.sum_cons]; exact .take h1, by simp [h2]⟩
theorem sel_ahead : ∀ {cs : List (Int × Int)} {rest : List Ev} {i : Int} {s : List Int} {v : Int}, Sel i (cs.map Sum.inr ++ rest) s v ↔ Sel (i + cs.length) rest s (v + FF cs s.length)
  | [], rest, i, s, v => by simp [FF]
  | (b, l) :: cs, rest, i, s, v => by
    have e : i + (((b, l) :: cs).length : Nat) = i + 1 + (cs.length : Nat) := by simp; omega
    rw [e, FF_cons]
    constructor
    · intro h
      cases h with
      | card h =>
        have := sel_ahead.mp h
        rename_i v'
        have e2 : v' - wor b l s.length + (wor b l s.length + FF cs s.length) = v' + FF cs s.length := by omega
        show Sel _ rest s (v' - wor b l s.length + (wor b l s.length + FF cs s.length))
        rw [e2]
        exact this
    · intro h
      have h2 : Sel (i + 1) (cs.map Sum.inr ++ rest) s (v + wor b l s.length) := sel_ahead.mpr (by
        have e2 : v + wor b l s.length + FF cs s.length = v + (wor b l s.length + FF cs s.length) := by omega
        rw [e2]; exact h)
      have h3 := Sel.card (b := b) (l := l) h2
      have e3 : v + wor b l s.length - wor b l s.length = v := by omega
      rw [e3] at h3
      exact h3
/-! ### the greatest ones -/
theorem take_le {x : Int} {r : List Int} (h : ∀ y ∈ r, y ≤ x) : ∀ n, n ≤ r.length → (r.take n).sum ≤ ((x :: r).take n).sum
  | 0, _ => by simp
  | n + 1, hn => by
    have hn' : n < r.length := by omega
    have := h r[n] (List.getElem_mem hn')
    have e : (r.take (n + 1)).sum = (r.take n).sum + r[n] := by
      rw [List.take_succ, List.getElem?_eq_getElem hn', List.sum_append]
      simp
    rw [e, List.take_succ_cons, List.sum_cons]
    omega
theorem sub_le : ∀ {r t : List Int}, r.Pairwise (· ≥ ·) → t.Sublist r → t.sum ≤ (r.take t.length).sum
  | [], t, _, h => by
    have := List.eq_nil_of_sublist_nil h
    subst this
    simp
  | x :: r, t, hr, h => by
    obtain ⟨h1, h2⟩ := List.pairwise_cons.mp hr
    rcases List.sublist_cons_iff.mp h with h' | ⟨t', rfl, h'⟩
    · have := sub_le h2 h'
      have := take_le (x := x) (r := r) (fun y hy => h1 y hy) t.length h'.length_le
      omega
    · have := sub_le h2 h'
      rw [List.sum_cons, List.length_cons, List.take_succ_cons, List.sum_cons]
      omega
theorem perm_sum {a b : List Int} (h : a.Perm b) : a.sum = b.sum := by
  induction h with
  | nil => rfl
  | cons x h ih => simp [ih]
  | swap x y l => simp; omega
  | trans h1 h2 ih1 ih2 => rw [ih1, ih2]
/-- the sums of the greatest ones, less what the cards ahead can pay -/
def dueR (ah : List (Int × Int)) (fs : List Int) : List Int := (List.range (fs.length + 1)).map fun k => (fs.take k).sum - FF ah k
theorem nB_mix (ah : List (Int × Int)) (bs : List Int) (be : List (Int × Int)) : nB (ah.map Sum.inr ++ (bs.map Sum.inl ++ be.map Sum.inr)) = bs.length := by
  have h1 : ∀ cs : List (Int × Int), nB (cs.map (Sum.inr : Int × Int → Ev)) = 0 := fun cs => by
    induction cs with
    | nil => rfl
    | cons c cs ih => exact ih
  have h2 : nB (bs.map (Sum.inl : Int → Ev)) = bs.length := by
    induction bs with
    | nil => rfl
    | cons b bs ih => rw [List.map_cons, nB_inl, ih]; rfl
  have h3 : ∀ a b : List Ev, nB (a ++ b) = nB a + nB b := fun a b => by simp [nB]
  rw [h3, h3, h1, h1, h2]
  omega
theorem asked_mix {ah : List (Int × Int)} {bs : List Int} {be : List (Int × Int)} (hbe : Am be) {fs : List Int} (hp : fs.Perm bs) (ho : fs.Pairwise (· ≥ ·)) : (asked 0 (ah.map Sum.inr ++ (bs.map Sum.inl ++ be.map Sum.inr))).map Prod.fst = dueR ah fs := by
  refine asked_is (by rw [nB_mix]; simp [dueR, hp.length_eq]) fun k x e => ?_
  have hk : k < fs.length + 1 := by
    have := (List.getElem?_eq_some_iff.mp e).1
    simpa [dueR] using this
  unfold dueR at e
  rw [List.getElem?_map, List.getElem?_range hk] at e
  cases e
  constructor
  · obtain ⟨t, ht1, ht2⟩ := List.exists_perm_sublist (List.take_sublist k fs) hp
    obtain ⟨s, s1, s2⟩ := bills_sel (cs := be) (i := 0 + ah.length) hbe ht2
    have hl : t.length = k := by rw [ht1.length_eq, List.length_take]; omega
    refine ⟨s, sel_ahead.mpr ?_, by omega⟩
    have : (fs.take k).sum - FF ah k + FF ah s.length = t.sum := by rw [s2, hl, perm_sum ht1]; omega
    rw [this]
    exact s1
  · intro s v h hs
    obtain ⟨t, t1, t2, t3⟩ := sel_bills hbe (sel_ahead.mp h)
    obtain ⟨t', q1, q2⟩ := List.exists_perm_sublist t1 hp.symm
    have := sub_le ho q2
    have hl : t'.length = k := by rw [q1.length_eq, t2, hs]
    rw [hl, perm_sum q1, t3, hs] at this
    show v ≤ (fs.take k).sum - FF ah k
    omega
end P20


set_option Elab.async false
set_option linter.all false
set_option maxRecDepth 100000
set_option maxHeartbeats 4000000
/-! K4m: the least row among falling rows, plain. -/
namespace P20
open Mi L2
theorem sumN_one {row : List Int} {x : Int} (h : Falls (x :: row)) : sumN row 1 ≤ x := by
  cases row with
  | nil => rw [sumN_nil]; have := h.1 x List.mem_cons_self; omega
  | cons y r =>
    have := h.2 0 x y rfl rfl
    show y + sumN r 0 ≤ x
    have : sumN r 0 = 0 := by cases r <;> rfl
    omega
theorem sumN_ccv : ∀ {row : List Int}, Falls row → ∀ n, sumN row (n + 2) - sumN row (n + 1) ≤ sumN row (n + 1) - sumN row n
  | [], _, n => by simp [sumN_nil]
  | x :: row, h, 0 => by
    have h1 := sumN_one h
    have h2 : sumN (x :: row) 2 = x + sumN row 1 := rfl
    have h3 : sumN (x :: row) 1 = x + sumN row 0 := rfl
    have h4 : sumN row 0 = 0 := by cases row <;> rfl
    have h5 : sumN (x :: row) 0 = 0 := rfl
    show sumN (x :: row) 2 - sumN (x :: row) 1 ≤ sumN (x :: row) 1 - sumN (x :: row) 0
    omega
  | x :: row, h, n + 1 => by
    have ih := sumN_ccv h.tail n
    have h1 : sumN (x :: row) (n + 1 + 2) = x + sumN row (n + 2) := rfl
    have h2 : sumN (x :: row) (n + 1 + 1) = x + sumN row (n + 1) := rfl
    have h3 : sumN (x :: row) (n + 1) = x + sumN row n := rfl
    omega
theorem ccv_many {row : List Int} (h : Falls row) (k : Nat) : ∀ i : Nat, sumN row (k + 1 + i) ≤ sumN row (k + 1) + (i : Int) * (sumN row (k + 1) - sumN row k) ∧ sumN row (k + 1 + i + 1) - sumN row (k + 1 + i) ≤ sumN row (k + 1) - sumN row k
  | 0 => ⟨by simp, sumN_ccv h k⟩
  | i + 1 => by
    obtain ⟨h1, h2⟩ := ccv_many h k i
    have h3 := sumN_ccv h (k + 1 + i)
    refine ⟨?_, by
      show sumN row (k + 1 + i + 2) - sumN row (k + 1 + i + 1) ≤ _
      omega⟩
    rw [show ((i + 1 : Nat) : Int) = (i : Int) + 1 by omega, Int.add_mul, Int.one_mul]
    show sumN row (k + 1 + i + 1) ≤ _
    omega
/-- the least row has the least sums -/
theorem Least.least {t : Int} {ss row other : List Int} (h : Least t ss row) (ho : Falls other) (hc : ∀ (n : Nat) (s : Int), ss[n]? = some s → s ≤ t + sumN other (n + 1)) : ∀ n, sumN row n ≤ sumN other n
  | 0 => by
    have h1 : sumN row 0 = 0 := by cases row <;> rfl
    have h2 : sumN other 0 = 0 := by cases other <;> rfl
    omega
  | k + 1 => by
    have ih := h.least ho hc k
    have hm := sumN_mono (row := other) (fun x hx => by have := ho.1 x hx; omega) k
    by_cases hk : k < row.length
    · have ek : row[k]? = some row[k] := List.getElem?_eq_getElem hk
      obtain ⟨i, s, e1, h1⟩ := h.tight k _ ek
      have h2 := hc _ _ e1
      have h3 := (ccv_many ho k i).1
      have es : sumN row (k + 1) = sumN row k + row[k] := by rw [sumN_app, List.getD_eq_getElem?_getD, ek]; rfl
      rcases Int.lt_or_le (sumN other (k + 1)) (sumN row (k + 1)) with z | z
      · have hd : sumN other (k + 1) - sumN other k ≤ row[k] - 1 := by omega
        have h4 : (i : Int) * (sumN other (k + 1) - sumN other k) ≤ (i : Int) * (row[k] - 1) := Int.mul_le_mul_of_nonneg_left hd (by omega)
        rw [Int.add_mul, Int.one_mul] at h1
        rw [show k + i + 1 = k + 1 + i by omega] at h2
        omega
      · exact z
    · have h1 := sumN_flat row (k + 1) (by omega)
      have h2 := sumN_flat row k (by omega)
      omega
/-! the rows still to be gone through -/
end P20


set_option Elab.async false
set_option linter.all false
set_option maxRecDepth 100000
set_option maxHeartbeats 4000000
/-! W3m: sparing payments, plain. -/
namespace P20
open Mi L2
/-- the parts of the cards at a level -/
def pts (am : List (Int × Int)) (k : Nat) : List Int := am.map fun q => wor q.1 q.2 (k + 1) - wor q.1 q.2 k
theorem pts_sum (am : List (Int × Int)) (k : Nat) : (pts am k).sum = FF am (k + 1) - FF am k := by
  induction am with
  | nil => rfl
  | cons q am ih =>
    rw [FF_cons, FF_cons]
    show (wor q.1 q.2 (k + 1) - wor q.1 q.2 k) + (pts am k).sum = _
    omega
/-- the greatest level with parts for this bill -/
def IsLev (am : List (Int × Int)) (x : Int) (L : Nat) : Prop := (pts am (L + 1)).sum < x ∧ ∀ j, j < L → x ≤ (pts am (j + 1)).sum
theorem IsLev.uniq {am : List (Int × Int)} {x : Int} {L L' : Nat} (h : IsLev am x L) (h' : IsLev am x L') : L = L' := by
  rcases Nat.lt_trichotomy L L' with z | z | z
  · have := h'.2 L z; have := h.1; omega
  · exact z
  · have := h.2 L' z; have := h'.1; omega
/-- the level -/
noncomputable def lev (am : List (Int × Int)) (x : Int) : Nat := by classical exact if h : ∃ L, IsLev am x L then Classical.choose h else 0
theorem IsLev.top {am : List (Int × Int)} {x : Int} {L : Nat} (h : IsLev am x L) (hx : x ≤ FF am 1) (ha : Am am) : x ≤ (pts am L).sum := by
  cases L with
  | zero => rw [pts_sum, FF_zero ha]; show x ≤ FF am (0 + 1) - 0; simpa using hx
  | succ L => exact h.2 L (Nat.lt_succ_self _)
noncomputable def lows (am : List (Int × Int)) (x : Int) : List Int := if x = 0 then am.map (fun _ => 0) else pts am (lev am x + 1)
noncomputable def highs (am : List (Int × Int)) (x : Int) : List Int := if x = 0 then am.map (fun _ => 0) else pts am (lev am x)
/-- a sum is spread between bounds -/
def sprd : Int → List (Int × Int) → List Int
  | _, [] => []
  | r, q :: l => (q.1 + min r (q.2 - q.1)) :: sprd (r - min r (q.2 - q.1)) l
noncomputable def pay (am : List (Int × Int)) (x : Int) : List Int := sprd (x - (lows am x).sum) ((lows am x).zip (highs am x))
/-- a row between bounds -/
def Betw : List Int → List Int → List Int → Prop
  | [], [], [] => True
  | a :: as, y :: ys, b :: bs => a ≤ y ∧ y ≤ b ∧ Betw as ys bs
  | _, _, _ => False
theorem Betw.len : ∀ {as ys bs : List Int}, Betw as ys bs → ys.length = as.length ∧ bs.length = as.length
  | [], [], [], _ => ⟨rfl, rfl⟩
  | _ :: _, _ :: _, _ :: _, h => by
    have := Betw.len h.2.2
    simp [this]
  | [], _ :: _, _, h => by simp [Betw] at h
  | [], [], _ :: _, h => by simp [Betw] at h
  | _ :: _, [], _, h => by simp [Betw] at h
  | _ :: _, _ :: _, [], h => by simp [Betw] at h
def Evs0 (evs : List Ev) : Prop := (∀ q, Sum.inr q ∈ evs → 1 ≤ q.2 ∧ 0 ≤ q.1 ∧ q.1 ≤ 24 * q.2) ∧ ∀ x, Sum.inl x ∈ evs → (0 : Int) ≤ x
theorem Evs0.tail {e : Ev} {evs : List Ev} (h : Evs0 (e :: evs)) : Evs0 evs := ⟨fun q hq => h.1 q (List.mem_cons_of_mem _ hq), fun x hx => h.2 x (List.mem_cons_of_mem _ hx)⟩
end P20



set_option Elab.async false
set_option linter.all false
set_option maxRecDepth 100000
set_option maxHeartbeats 4000000
namespace S2
open PySem PySem.Spec PyProof.Rows L2 Mi He Sh
@[reducible] def mb__law_draw : MS := mSeq (mIfS (mB (mBin gtD (mIxP 0 (mC (.int 1))) (mC (.int 0)))) (mSeq (mDmP 0 (mC (.int 1)) 2 (mCB dmD (mCons (mIxP 0 (mC (.int 1))) (mCons (mVar 1) (mNil))))) (mRet (mVar 2))) (mNext)) (mSeq (mSet 3 (mCB int1D (mCons (mIxP 0 (mC (.int 0))) (mNil)))) (mSeq (mPutP 0 (mBin modD (mCB int1D (mCons (mBin addD (mBin mulD (mVar 3) (mBin addD (mBin modD (mCB int1D (mCons (mVar 3) (mNil))) (mC (.int 997))) (mC (.int 69621)))) (mC (.int 7919))) (mNil))) (mC (.int 2147483629))) (mC (.int 0))) (mRet (mBin modD (mCB int1D (mCons (mBin fdivD (mIxP 0 (mC (.int 0))) (mC (.int 512))) (mNil))) (mVar 1)))))
def mf__law_draw : List D → M D := mFn 4 mb__law_draw
@[reducible] def lb__law_wide_1 : MS := mSet 2 (mBin addD (mBin mulD (mVar 2) (mC (.int 1000003))) (mCall 2 mf__law_draw (mCons (mVar 0) (mCons (mC (.int 1000003)) (mNil)))))
@[reducible] def mb__law_wide : MS := mSeq (mIfS (mOr (mB (mBin ltD (mVar 1) (mC (.int 1000000)))) (mB (mBin gtD (mIxP 0 (mC (.int 1))) (mC (.int 0))))) (mRet (mCall 2 mf__law_draw (mCons (mVar 0) (mCons (mVar 1) (mNil))))) (mNext)) (mSeq (mSet 2 (mC (.int 0))) (mSeq (mFor (mIof rng1 (mCons (mC (.int 6)) (mNil))) (mGn 3) (lb__law_wide_1)) (mRet (mBin modD (mCB int1D (mCons (mVar 2) (mNil))) (mVar 1)))))
def mf__law_wide : List D → M D := mFn 4 mb__law_wide
@[reducible] def mb__law_amount : MS := mRet (mCall 2 mf__law_wide (mCons (mVar 0) (mCons (mBin ixD (mFz (mLstO (mCons (mC (.int 4)) (mCons (mC (.int 10)) (mCons (mC (.int 100)) (mCons (mBin powD (mC (.int 10)) (mC (.int 6))) (mCons (mBin powD (mC (.int 10)) (mC (.int 12))) (mCons (mBin powD (mC (.int 10)) (mC (.int 30))) (mNil))))))))) (mCall 2 mf__law_draw (mCons (mVar 0) (mCons (mC (.int 6)) (mNil))))) (mNil))))
def mf__law_amount : List D → M D := mFn 1 mb__law_amount
end S2


set_option Elab.async false
set_option linter.all false
set_option maxRecDepth 100000
set_option maxHeartbeats 4000000
namespace S2
open PySem PySem.Spec PyProof.Rows L2 Mi He Sh
@[reducible] def ce__law_course_1 : ME := mIf (mB (mCB isiD (mCons (mVar 1) (mCons (mC (.ty "tuple")) (mNil))))) (mMake "Card" 2 mf_Card___init__ (mCons (mBin ixD (mVar 1) (mC (.int 0))) (mCons (mBin ixD (mVar 1) (mC (.int 1))) (mNil)))) (mVar 1)
@[reducible] def mb__law_course : MS := mRet (mMake "Course" 1 mf_Course___init__ (mCons (mCB tupD (mCons (mFz (mLcO [1] (mIany (mVar 0)) (mGn 1) (mYes) (ce__law_course_1))) (mNil))) (mNil)))
def mf__law_course : List D → M D := mFn 2 mb__law_course
@[reducible] def ct__law_asks_1 : MT := mNot (mB (mCB isiD (mCons (mBin ixD (mVar 0) (mVar 7)) (mCons (mC (.ty "tuple")) (mNil)))))
@[reducible] def ce__law_asks_2 : ME := mBin addD (mVar 5) (mFz (mLstO (mCons (mVar 4) (mNil))))
@[reducible] def lb__law_asks_3 : MS := mSet 3 (mBin addD (mVar 3) (mFz (mLcO [5] (mIany (mVar 3)) (mGn 5) (mYes) (ce__law_asks_2))))
@[reducible] def lb__law_asks_4 : MS := mIfS (mB (mCB isiD (mCons (mBin ixD (mVar 0) (mVar 7)) (mCons (mC (.ty "tuple")) (mNil))))) (mSet 6 (mBin subD (mVar 6) (mCB minD (mCons (mBin ixD (mBin ixD (mVar 0) (mVar 7)) (mC (.int 0))) (mCons (mBin mulD (mBin ixD (mBin ixD (mVar 0) (mVar 7)) (mC (.int 1))) (mCB lenD (mCons (mFz (mLcO [4] (mIany (mVar 5)) (mGn 4) (mB (mBin gtD (mVar 4) (mVar 7))) (mVar 4))) (mNil)))) (mNil)))))) (mNext)
@[reducible] def lb__law_asks_5 : MS := mSeq (mSet 6 (mCB sumD (mCons (mFz (mLcO [4] (mIany (mVar 5)) (mGn 4) (mYes) (mBin ixD (mVar 0) (mVar 4)))) (mNil)))) (mSeq (mFor (mIof rng1 (mCons (mCB lenD (mCons (mVar 0) (mNil))) (mNil))) (mGn 7) (lb__law_asks_4)) (mIfS (mOr (mB (mBin isD (mIxO 2 (mCB lenD (mCons (mVar 5) (mNil)))) (mC .non))) (mB (mBin gtD (mVar 6) (mIxO 2 (mCB lenD (mCons (mVar 5) (mNil))))))) (mPut 2 (mVar 6) (mCB lenD (mCons (mVar 5) (mNil)))) (mNext)))
@[reducible] def mb__law_asks : MS := mSeq (mSet 1 (mFz (mBorLs [] (mLcO [7] (mIof rng1 (mCons (mCB lenD (mCons (mVar 0) (mNil))) (mNil))) (mGn 7) (ct__law_asks_1) (mVar 7))))) (mSeq (mPar [2, 3] (mMow (mBinO catO (mFz (mLstO (mCons (mC (.int 0)) (mNil)))) (mBin mulD (mFz (mLstO (mCons (mC .non) (mNil)))) (mCB lenD (mCons (mVar 1) (mNil))))) (mMsh (mFz (mLstO (mCons (mFz (mLstO (mNil))) (mNil)))) (mMnil)))) (mSeq (mFor (mIany (mVar 1)) (mGn 4) (lb__law_asks_3)) (mSeq (mFor (mIany (mVar 3)) (mGn 5) (lb__law_asks_5)) (mFrz 2 (mRet (mVar 2))))))
def mf__law_asks : List D → M D := mFn 8 mb__law_asks
end S2




set_option Elab.async false
set_option linter.all false
set_option maxRecDepth 100000
set_option maxHeartbeats 4000000
namespace S2
open PySem L2 Mi P20 Sh
def Pu (u : PuS) : Prop := ∃ s x : Int, u = .real [s, x] ∧ 0 ≤ s ∧ s < 2147483648
theorem log_big {n : Int} (h : 0 < n ∧ n < 1000000000000000000000000000000000000000000000000000000000000) : n.natAbs.log2 < 200 := by
  refine (Nat.log2_lt (by omega)).mpr ?_
  have : (2 : Nat) ^ 200 = 1606938044258990275541962092341162602522202993782792835301376 := by decide +kernel
  rw [this]
  omega
theorem draw_ok {n : Int} (hn : 0 < n ∧ n < 1000000000000000000000000000000000000000000000000000000000000) {u : PuS} (hu : Pu u) {P : D → PuS → Prop} (h : ∀ r u', 0 ≤ r → r < n → Pu u' → P (.int r) u') : Ok (mf__law_draw [.pur, .int n]) u P := by
  obtain ⟨s, x, rfl, h1, h2⟩ := hu
  unfold mf__law_draw mb__law_draw
  have hd : dmC x n = true := dmC_log hn.1 (by have := log_big hn; omega)
  simp [atI, ixN, hn.1, hd]
  have hh : ∀ k : Int, 0 ≤ k % n ∧ k % n < n := fun k => ⟨Int.emod_nonneg _ (by omega), Int.emod_lt_of_pos _ hn.1⟩
  refine brd (fun hx => ?_) (fun hx => ?_)
  · exact h _ _ (hh _).1 (hh _).2 ⟨_, _, rfl, h1, h2⟩
  · refine ⟨.inl (.inl (by omega)), h _ _ (hh _).1 (hh _).2 ⟨_, _, rfl, ?_, ?_⟩⟩
    all_goals omega
theorem wide_ok {n : Int} (hn : 0 < n ∧ n < 1000000000000000000000000000000000000000000000000000000000000) {u : PuS} (hu : Pu u) {P : D → PuS → Prop} (h : ∀ r u', 0 ≤ r → r < n → Pu u' → P (.int r) u') : Ok (mf__law_wide [.pur, .int n]) u P := by
  unfold mf__law_wide mb__law_wide
  have slow : Ok (loopD (mGn 3) lb__law_wide_1 (rngD 0 6) [.sh .pur, .sh (.int n), .sh (.int 0), .un]) u fun f u1 => match f with
      | .nx ρ1 => ∃ d, vSh ρ1 2 = some d ∧ ∃ z, int1D [d] = some z ∧ ∃ d', vSh ρ1 1 = some d' ∧ ∃ w, modD z d' = some w ∧ P w u1
      | _ => False := by
    refine ok_range 0 6 (fun k ρ u => Pu u ∧ ∃ m t, ρ = [.sh .pur, .sh (.int n), .sh (.int m), t]) ?_ ?_ _ _ ⟨hu, 0, _, rfl⟩
    · rintro k ρ u hk ⟨hu, m, t, rfl⟩
      unfold lb__law_wide_1
      simp
      refine draw_ok (by decide) hu fun r u1 h0 h6 hu1 => ?_
      simp
      exact hu1
    · rintro ρ u ⟨hu, m, t, rfl⟩
      simp [hn.1]
      exact h _ _ (Int.emod_nonneg _ (by omega)) (Int.emod_lt_of_pos _ hn.1) hu
  simp
  refine brd (fun h1 => ?_) (fun h1 => ?_)
  · exact draw_ok hn hu h
  · obtain ⟨s, x, rfl, h3, h4⟩ := id hu
    simp [atI, ixN]
    refine brd (fun h2 => ?_) (fun h2 => ?_)
    · exact draw_ok hn hu h
    · refine slow.mono fun f u1 z => ?_
      cases f with
      | nx ρ1 => simpa using z
      | _ => exact False.elim z
theorem amount_ok {u : PuS} (hu : Pu u) {P : D → PuS → Prop} (h : ∀ r u', 0 ≤ r → r < 1000000000000000000000000000000 → Pu u' → P (.int r) u') : Ok (mf__law_amount [.pur]) u P := by
  unfold mf__law_amount mb__law_amount
  simp
  refine draw_ok (by decide) hu fun r u1 h0 h6 hu1 => ?_
  obtain ⟨n, e, hn⟩ : ∃ n : Int, atI [D.int 4, D.int 10, D.int 100, D.int 1000000, D.int 1000000000000, D.int 1000000000000000000000000000000] r = some (.int n) ∧ 0 < n ∧ n ≤ 1000000000000000000000000000000 := by
    obtain ⟨k, rfl⟩ : ∃ k : Nat, r = (k : Int) := ⟨r.toNat, by omega⟩
    have hk : k < 6 := by omega
    match k, hk with
    | 0, _ => exact ⟨4, rfl, by decide⟩
    | 1, _ => exact ⟨10, rfl, by decide⟩
    | 2, _ => exact ⟨100, rfl, by decide⟩
    | 3, _ => exact ⟨1000000, rfl, by decide⟩
    | 4, _ => exact ⟨1000000000000, rfl, by decide⟩
    | 5, _ => exact ⟨1000000000000000000000000000000, rfl, by decide⟩
  simp [e]
  exact wide_ok (by omega) hu1 fun r u' h1 h2 hu' => h r u' h1 (by omega) hu'
end S2


set_option Elab.async false
set_option linter.all false
set_option maxRecDepth 100000
set_option maxHeartbeats 4000000
namespace S2
open PySem L2 Mi P20 Sh
/-- an event in a law's own row -/
def evR : Ev → D
  | .inl x => .int x
  | .inr q => prD q
theorem course_ok {evs : List Ev} (h : EvsOk evs) {u : PuS} {P : D → PuS → Prop} (hp : P (courD evs) u) : Ok (mf__law_course [.lst (evs.map evR)]) u P := by
  unfold mf__law_course mb__law_course
  have hl := h.len
  simp
  refine ⟨by omega, ?_⟩
  refine ok_lca (fun e => [.sh (.lst (evs.map evR)), .sh (evR e)]) evD ?_ ?_ ?_
  · intro e he; rfl
  · intro e he
    unfold ce__law_course_1
    cases e with
    | inl x =>
      have e1 : isiD [evR (.inl x), .ty "tuple"] = some (.bl false) := rfl
      simp [e1]
      rfl
    | inr q =>
      have e1 : isiD [evR (.inr q), .ty "tuple"] = some (.bl true) := rfl
      have e2 : ixD (evR (.inr q)) (.int 0) = some (.int q.1) := rfl
      have e3 : ixD (evR (.inr q)) (.int 1) = some (.int q.2) := rfl
      obtain ⟨h1, h2, h3⟩ := h.each _ he
      simp [e1, e2, e3]
      exact card_init h1 h2 h3 ⟨rfl, rfl⟩
  exact cour_init h hp
/-- found so far: a number or None -/
def opI : Option Int → D := opD D.int
theorem spots_are : ∀ (evs : List Ev) (i : Int), spotsI i evs = ((List.range evs.length).filter fun k => match evs[k]? with | some e => isB e | none => false).map fun k : Nat => i + (k : Int)
  | [], i => rfl
  | e :: r, i => by
    rw [List.length_cons, List.range_succ_eq_map]
    have ih := spots_are r (i + 1)
    have e2 : ((List.range r.length).map Nat.succ).filter (fun k => match (e :: r)[k]? with | some e => isB e | none => false) = ((List.range r.length).filter fun k => match r[k]? with | some e => isB e | none => false).map Nat.succ := by
      rw [List.filter_map]; rfl
    cases e with
    | inl x =>
      rw [List.filter_cons_of_pos (by rfl), e2, List.map_cons, List.map_map]
      show i :: spotsI (i + 1) r = _
      rw [ih]
      congr 1
      · simp
      · apply List.map_congr_left
        intro k _
        show i + 1 + (k : Int) = i + ((k + 1 : Nat) : Int)
        omega
    | inr q =>
      rw [List.filter_cons_of_neg (by intro z; cases z), e2, List.map_map]
      show spotsI (i + 1) r = _
      rw [ih]
      apply List.map_congr_left
      intro k _
      show i + 1 + (k : Int) = i + ((k + 1 : Nat) : Int)
      omega
end S2


set_option Elab.async false
set_option linter.all false
set_option maxRecDepth 100000
set_option maxHeartbeats 4000000
namespace S2
open PySem L2 Mi P20 Sh
def setD (s : List Int) : D := .lst (s.map D.int)
theorem cutSum_append : ∀ (a b : List Ev) (i : Int) (s : List Int), cutSum i (a ++ b) s = cutSum i a s + cutSum (i + a.length) b s
  | [], b, i, s => by simp [cutSum]
  | .inr q :: a, b, i, s => by
    show wor q.1 q.2 _ + cutSum (i + 1) (a ++ b) s = (wor q.1 q.2 _ + cutSum (i + 1) a s) + cutSum (i + ((Sum.inr q :: a : List Ev).length : Nat)) b s
    rw [cutSum_append a b (i + 1) s, List.length_cons, show i + ((a.length + 1 : Nat) : Int) = i + 1 + (a.length : Int) by omega]
    omega
  | .inl x :: a, b, i, s => by
    show cutSum (i + 1) (a ++ b) s = cutSum (i + 1) a s + cutSum (i + ((Sum.inl x :: a : List Ev).length : Nat)) b s
    rw [cutSum_append a b (i + 1) s, List.length_cons, show i + ((a.length + 1 : Nat) : Int) = i + 1 + (a.length : Int) by omega]
theorem cutSum_take {evs : List Ev} {k : Nat} {e : Ev} (h : evs[k]? = some e) (s : List Int) : cutSum 0 (evs.take (k + 1)) s = cutSum 0 (evs.take k) s + cutSum (k : Int) [e] s := by
  have hk : k < evs.length := (List.getElem?_eq_some_iff.mp h).1
  rw [List.take_succ, h]
  show cutSum 0 (evs.take k ++ [e]) s = _
  rw [cutSum_append, List.length_take, Nat.min_eq_left (by omega), Int.zero_add]
/-- the best so far -/
def bup (cur : Option Int) (v : Int) : Option Int := match cur with
  | none => some v
  | some m => if m < v then some v else some m
def bst (evs : List Ev) (ss : List (List Int)) (k : Nat) : Option Int := ss.foldl (fun cur s => if s.length = k then bup cur (lv 0 evs s) else cur) (if k = 0 then some 0 else none)
theorem bst_snoc (evs : List Ev) (ss : List (List Int)) (s : List Int) (k : Nat) : bst evs (ss ++ [s]) k = if s.length = k then bup (bst evs ss k) (lv 0 evs s) else bst evs ss k := by
  unfold bst
  rw [List.foldl_append]
  rfl
theorem bst_spec (evs : List Ev) (k : Nat) (ss : List (List Int)) : (∀ s ∈ ss, s.length = k → ∃ m, bst evs ss k = some m ∧ lv 0 evs s ≤ m) ∧ ∀ m, bst evs ss k = some m → (k = 0 ∧ m = 0) ∨ ∃ s ∈ ss, s.length = k ∧ m = lv 0 evs s := by
  induction hn : ss.length generalizing ss with
  | zero =>
    have : ss = [] := List.length_eq_zero_iff.mp hn
    subst this
    refine ⟨(fun s hs => by cases hs), fun m hm => ?_⟩
    have hm' : (if k = 0 then some (0 : Int) else none) = some m := hm
    split at hm'
    · cases hm'; exact .inl ⟨by assumption, rfl⟩
    · cases hm'
  | succ n ih =>
    obtain ⟨ys, y, rfl⟩ : ∃ ys y, ss = ys ++ [y] := by
      rcases List.eq_nil_or_concat ss with h | ⟨p, l, h⟩
      · rw [h] at hn; simp at hn
      · exact ⟨p, l, by simpa using h⟩
    obtain ⟨i1, i2⟩ := ih ys (by simp at hn; exact hn)
    rw [bst_snoc]
    by_cases hy : y.length = k
    · rw [if_pos hy]
      cases hb : bst evs ys k with
      | none =>
        refine ⟨fun s hs hk => ?_, fun m hm => ?_⟩
        · rcases List.mem_append.mp hs with hs | hs
          · obtain ⟨m, hm, _⟩ := i1 s hs hk
            rw [hb] at hm; cases hm
          · rw [List.mem_singleton.mp hs]; exact ⟨_, rfl, Int.le_refl _⟩
        · have : m = lv 0 evs y := (Option.some.inj hm).symm
          exact .inr ⟨y, by simp, hy, this⟩
      | some m0 =>
        show _ ∧ ∀ m, (if m0 < lv 0 evs y then some (lv 0 evs y) else some m0) = some m → _
        have hmax : ∃ M, (if m0 < lv 0 evs y then some (lv 0 evs y) else some m0) = some M ∧ m0 ≤ M ∧ lv 0 evs y ≤ M ∧ (M = m0 ∨ M = lv 0 evs y) := by
          by_cases z : m0 < lv 0 evs y
          · exact ⟨_, if_pos z, by omega, by omega, .inr rfl⟩
          · exact ⟨_, if_neg z, by omega, by omega, .inl rfl⟩
        obtain ⟨M, e1, e2, e3, e4⟩ := hmax
        refine ⟨fun s hs hk => ⟨M, e1, ?_⟩, fun m hm => ?_⟩
        · rcases List.mem_append.mp hs with hs | hs
          · obtain ⟨m, hm, hle⟩ := i1 s hs hk
            rw [hb] at hm; cases hm; omega
          · rw [List.mem_singleton.mp hs]; exact e3
        · rw [e1] at hm
          cases hm
          rcases e4 with rfl | rfl
          · rcases i2 _ hb with h | ⟨s, hs, h⟩
            · exact .inl h
            · exact .inr ⟨s, List.mem_append_left _ hs, h⟩
          · exact .inr ⟨y, by simp, hy, rfl⟩
    · rw [if_neg hy]
      refine ⟨fun s hs hk => ?_, fun m hm => ?_⟩
      · rcases List.mem_append.mp hs with hs | hs
        · exact i1 s hs hk
        · rw [List.mem_singleton.mp hs] at hk; exact absurd hk hy
      · rcases i2 m hm with h | ⟨s, hs, h⟩
        · exact .inl h
        · exact .inr ⟨s, List.mem_append_left _ hs, h⟩
theorem bst_all {evs : List Ev} (hz : (asked 0 evs)[0]? = some (0, [])) {k : Nat} (hk : k ≤ nB evs) : bst evs (subsets (spotsI 0 evs)) k = some ((asked 0 evs).getD k (0, [])).1 := by
  have T := asked_tab evs 0
  have hkl : k < (asked 0 evs).length := by rw [T.len]; omega
  have eg : (asked 0 evs)[k]? = some ((asked 0 evs).getD k (0, [])) := by rw [List.getD_eq_getElem?_getD, List.getElem?_eq_getElem hkl]; rfl
  generalize hq : (asked 0 evs).getD k (0, []) = q at eg
  obtain ⟨a, ds⟩ := q
  obtain ⟨t1, t2, t3⟩ := T.at_ k a ds eg
  obtain ⟨b1, b2⟩ := bst_spec evs k (subsets (spotsI 0 evs))
  obtain ⟨m, hm, hle⟩ := b1 ds ((mem_subsets _ _).mpr t2.sub) t1
  rw [← t2.val] at hle
  rw [hm]
  congr 1
  show m = a
  rcases b2 m hm with ⟨rfl, rfl⟩ | ⟨s, hs, hsl, rfl⟩
  · rw [hz] at eg
    cases eg
    rfl
  · have := t3 s _ (sel_of_sub evs 0 s ((mem_subsets _ _).mp hs)) hsl
    omega
theorem asks_ok {evs : List Ev} (hev : ∀ e ∈ evs, evOk e) (hl : evs.length ≤ 100) (hb : nB evs ≤ 12) {u : PuS} {P : D → PuS → Prop} (hp : P (.lst (((asked 0 evs).map Prod.fst).map D.int)) u) : Ok (mf__law_asks [.lst (evs.map evR)]) u P := by
  have hz : (asked 0 evs)[0]? = some (0, []) := asked_zero evs 0 fun q hq => by
    obtain ⟨e, he, h2⟩ := List.mem_filterMap.mp hq
    cases e with
    | inl x => cases h2
    | inr q' => cases h2; exact hev _ he
  have hix : ∀ (k : Nat) e, evs[k]? = some e → atI (evs.map evR) (k : Int) = some (evR e) := fun k e h => at_nat (by rw [List.getElem?_map, h]; rfl)
  have hity : ∀ e, isiD [evR e, .ty "tuple"] = some (.bl (!isB e)) := fun e => by cases e <;> rfl
  unfold mf__law_asks mb__law_asks
  rw [ok_fn]
  refine seq_go fun K R hK hR => ?_
  simp [mBorLs]
  refine ⟨by omega, by rw [rngD_len]; omega, ?_⟩
  refine ok_lcr (fun i => [.sh (.lst (evs.map evR)), .un, .un, .un, .un, .un, .un, .sh (.int (0 + (i : Nat)))]) (fun k => match evs[k]? with | some e => isB e | none => false) (fun i => .int (0 + (i : Nat))) ?_ ?_ ?_ ?_
  · intro i hi; rfl
  · intro i hi
    unfold ct__law_asks_1
    have ei : evs[i]? = some evs[i] := List.getElem?_eq_getElem hi
    simp [hix i _ ei, hity]
    rw [ei]
  · intro i hi _; simp
  have es : ((List.range evs.length).filter fun k => match evs[k]? with | some e => isB e | none => false).map (fun i : Nat => D.int (0 + (i : Nat))) = (spotsI 0 evs).map D.int := by rw [spots_are, List.map_map]; rfl
  rw [es]
  have hsl := spotsI_len evs 0
  refine hK _ _ ?_
  clear hK hR K R
  refine seq_go fun K R hK hR => ?_
  have em : mulD (.lst [D.non]) (.int (nB evs : Int)) = some (.lst (List.replicate (nB evs) D.non)) := by
    have e1 : ∀ n : Nat, (List.replicate n [D.non]).flatten = List.replicate n D.non := fun n => by
      induction n with
      | zero => rfl
      | succ n ih => rw [List.replicate_succ, List.flatten_cons, ih, List.replicate_succ]; rfl
    have := e1 (nB evs)
    show (if _ then some (D.lst (List.replicate (nB evs : Int).toNat [D.non]).flatten) else none) = _
    rw [Int.toNat_natCast, this]
    exact if_pos (by simp; omega)
  simp [hsl, em]
  refine ⟨by omega, hK _ _ ?_⟩
  clear hK hR K R
  refine seq_cut (fun ρ u' => u' = u ∧ ∃ a b c d, ρ = [.sh (.lst (evs.map evR)), .sh (.lst ((spotsI 0 evs).map D.int)), .ow (.int 0 :: List.replicate (nB evs) D.non), .sh (.lst ((subsets (spotsI 0 evs)).map setD)), a, b, c, d]) ?_ ?_
  · simp
    refine ok_list ((spotsI 0 evs).map D.int) (fun k ρ u' => u' = u ∧ ∃ a b c d, ρ = [.sh (.lst (evs.map evR)), .sh (.lst ((spotsI 0 evs).map D.int)), .ow (.int 0 :: List.replicate (nB evs) D.non), .sh (.lst ((subsets ((spotsI 0 evs).take k)).map setD)), a, b, c, d]) ?_ ?_ _ _ ⟨rfl, .un, .un, .un, .un, rfl⟩
    · rintro k d ρ u' e ⟨rfl, a, b, c, d', rfl⟩
      rw [List.getElem?_map] at e
      cases e2 : (spotsI 0 evs)[k]? with
      | none => rw [e2] at e; cases e
      | some x =>
        rw [e2] at e
        cases e
        have hk : k < (spotsI 0 evs).length := (List.getElem?_eq_some_iff.mp e2).1
        have et : (spotsI 0 evs).take (k + 1) = (spotsI 0 evs).take k ++ [x] := by rw [List.take_succ, e2]; rfl
        have hsz : (subsets ((spotsI 0 evs).take k)).length ≤ 4096 := by
          rw [subsets_len, List.length_take, Nat.min_eq_left (by omega)]
          exact Nat.pow_le_pow_right (n := 2) (by decide) (show k ≤ 12 by omega)
        have hel : ∀ s ∈ subsets ((spotsI 0 evs).take k), s.length ≤ 12 := fun s hs => by
          have := ((mem_subsets _ _).mp hs).length_le
          rw [List.length_take] at this
          omega
        rw [et, subsets_snoc]
        generalize subsets ((spotsI 0 evs).take k) = ss at hsz hel ⊢
        refine ⟨_, rfl, ?_⟩
        unfold lb__law_asks_3
        refine st_go fun R hR => ?_
        simp
        refine ⟨by omega, ?_⟩
        refine ok_lca (fun s => [.sh (.lst (evs.map evR)), .sh (.lst ((spotsI 0 evs).map D.int)), .ow (.int 0 :: List.replicate (nB evs) D.non), .sh (.lst (ss.map setD)), .sh (.int x), .sh (setD s), c, d']) (fun s => setD (s ++ [x])) ?_ ?_ ?_
        · intro s hs; rfl
        · intro s hs
          unfold ce__law_asks_2
          have ea : addD (setD s) (.lst [.int x]) = some (setD (s ++ [x])) := by
            have := hel s hs
            show (if _ then some (D.lst (s.map D.int ++ [D.int x])) else none) = _
            rw [if_pos (by simp; omega)]
            unfold setD
            rw [List.map_append]; rfl
          simp [ea]
        have ea : addD (.lst (ss.map setD)) (.lst (ss.map fun s => setD (s ++ [x]))) = some (.lst ((ss ++ ss.map fun s => s ++ [x]).map setD)) := by
          rw [s_addL (by simp; omega), List.map_append, List.map_map]; rfl
        simp only [ea]
        exact ⟨_, rfl, hR _ _ ⟨rfl, _, _, _, _, rfl⟩⟩
    · rintro ρ u' ⟨rfl, a, b, c, d', rfl⟩
      refine ⟨rfl, a, b, c, d', ?_⟩
      rw [List.take_of_length_le (by simp)]
  rintro ρ u' ⟨rfl, a, b, c, d, rfl⟩
  have hsz : (subsets (spotsI 0 evs)).length ≤ 4096 := by
    rw [subsets_len, hsl]
    exact Nat.pow_le_pow_right (n := 2) (by decide) (show nB evs ≤ 12 by omega)
  have hel : ∀ s ∈ subsets (spotsI 0 evs), s.length ≤ nB evs ∧ ∀ x ∈ s, ∃ (k : Nat) (b : Int), x = (k : Int) ∧ evs[k]? = some (.inl b) ∧ bAt evs x = b := fun s hs => by
    have hsub := (mem_subsets _ _).mp hs
    refine ⟨by rw [← hsl]; exact hsub.length_le, fun x hx => ?_⟩
    have hx' := hsub.subset hx
    rw [spots_are] at hx'
    obtain ⟨k, hk, rfl⟩ := List.mem_map.mp hx'
    obtain ⟨hk1, hk2⟩ := List.mem_filter.mp hk
    have hk1 := List.mem_range.mp hk1
    have ek : evs[k]? = some evs[k] := List.getElem?_eq_getElem hk1
    rw [ek] at hk2
    cases hev : evs[k] with
    | inr q => rw [hev] at hk2; cases hk2
    | inl b =>
      refine ⟨k, b, by omega, by rw [ek, hev], ?_⟩
      unfold bAt
      rw [show ((0 : Int) + (k : Int)).toNat = k by omega, ek, hev]
  have hfin : P (.lst ((List.range (nB evs + 1)).map fun k => opI (bst evs (subsets (spotsI 0 evs)) k))) u' := by
    have : ((List.range (nB evs + 1)).map fun k => opI (bst evs (subsets (spotsI 0 evs)) k)) = ((asked 0 evs).map Prod.fst).map D.int := by
      apply List.ext_getElem?
      intro k
      by_cases hk : k < nB evs + 1
      · rw [List.getElem?_map, List.getElem?_range hk, List.getElem?_map, List.getElem?_map, List.getElem?_eq_getElem (by rw [asked_len]; omega)]
        simp only [Option.map_some]
        rw [bst_all hz (by omega), List.getD_eq_getElem?_getD, List.getElem?_eq_getElem (by rw [asked_len]; omega)]
        rfl
      · rw [List.getElem?_eq_none (by simp; omega), List.getElem?_eq_none (by simp [asked_len]; omega)]
    rw [this]; exact hp
  generalize hgs : subsets (spotsI 0 evs) = ss at hsz hel hfin ⊢
  refine seq_cut (fun ρ u1 => u1 = u' ∧ ∃ a b c d, ρ = [.sh (.lst (evs.map evR)), .sh (.lst ((spotsI 0 evs).map D.int)), .ow ((List.range (nB evs + 1)).map fun k => opI (bst evs ss k)), .sh (.lst (ss.map setD)), a, b, c, d]) ?_ ?_
  · simp
    have e0 : D.int 0 :: List.replicate (nB evs) D.non = (List.range (nB evs + 1)).map fun k => opI (bst evs [] k) := by
      apply List.ext_getElem?
      intro k
      cases k with
      | zero => rw [List.getElem?_map, List.getElem?_range (by omega)]; rfl
      | succ k =>
        rw [List.getElem?_cons_succ, List.getElem?_map, List.getElem?_replicate]
        by_cases hk : k < nB evs
        · rw [if_pos hk, List.getElem?_range (by omega)]; rfl
        · rw [if_neg hk, List.getElem?_eq_none (by simp; omega)]; rfl
    rw [e0]
    refine ok_list (ss.map setD) (fun k ρ u1 => u1 = u' ∧ ∃ a b c d, ρ = [.sh (.lst (evs.map evR)), .sh (.lst ((spotsI 0 evs).map D.int)), .ow ((List.range (nB evs + 1)).map fun j => opI (bst evs (ss.take k) j)), .sh (.lst (ss.map setD)), a, b, c, d]) ?_ ?_ _ _ ⟨rfl, a, b, c, d, rfl⟩
    · rintro k dd ρ u1 e ⟨rfl, a, b, c, d, rfl⟩
      rw [List.getElem?_map] at e
      cases e2 : ss[k]? with
      | none => rw [e2] at e; cases e
      | some s =>
        rw [e2] at e
        cases e
        obtain ⟨hs1, hs2⟩ := hel s (List.mem_of_getElem? e2)
        have et : ss.take (k + 1) = ss.take k ++ [s] := by rw [List.take_succ, e2]; rfl
        rw [et]
        generalize ss.take k = done
        refine ⟨_, rfl, ?_⟩
        refine st_go fun R0 hR0 => ?_
        unfold lb__law_asks_5
        refine seq_go fun K R hK hR => ?_
        simp [setD]
        refine ⟨by omega, ?_⟩
        refine ok_lca (fun x => [.sh (.lst (evs.map evR)), .sh (.lst ((spotsI 0 evs).map D.int)), .ow ((List.range (nB evs + 1)).map fun j => opI (bst evs done j)), .sh (.lst (ss.map setD)), .sh (.int x), .sh (setD s), c, d]) (fun x => .int (bAt evs x)) ?_ ?_ ?_
        · intro x hx; rfl
        · intro x hx
          obtain ⟨n, bb, rfl, h3, h4⟩ := hs2 x hx
          simp [hix n _ h3, h4]
          rfl
        have es1 : (s.map fun x => D.int (bAt evs x)) = (s.map (bAt evs)).map D.int := by rw [List.map_map]; rfl
        rw [es1]
        refine ⟨_, s_sumI, hK _ _ ?_⟩
        clear hK hR K R
        refine seq_cut (fun ρ u2 => u2 = u1 ∧ ∃ d, ρ = [.sh (.lst (evs.map evR)), .sh (.lst ((spotsI 0 evs).map D.int)), .ow ((List.range (nB evs + 1)).map fun j => opI (bst evs done j)), .sh (.lst (ss.map setD)), a, .sh (setD s), .sh (.int (lv 0 evs s)), d]) ?_ ?_
        · simp
          refine ⟨by omega, ?_⟩
          refine ok_range 0 evs.length (fun k ρ u2 => u2 = u1 ∧ ∃ d, ρ = [.sh (.lst (evs.map evR)), .sh (.lst ((spotsI 0 evs).map D.int)), .ow ((List.range (nB evs + 1)).map fun j => opI (bst evs done j)), .sh (.lst (ss.map setD)), a, .sh (setD s), .sh (.int ((s.map (bAt evs)).sum - cutSum 0 (evs.take k) s)), d]) ?_ ?_ _ _ ⟨rfl, d, by simp [cutSum, setD]⟩
          · rintro n ρ u2 hn ⟨rfl, d, rfl⟩
            have en : evs[n]? = some evs[n] := List.getElem?_eq_getElem hn
            rw [cutSum_take en s]
            refine ⟨_, rfl, ?_⟩
            refine st_go fun R1 hR1 => ?_
            unfold lb__law_asks_4
            have hx := hix n _ en
            have ht := hity evs[n]
            cases hv : evs[n] with
            | inl bb =>
              rw [hv] at hx ht hR1
              have ht' : isiD [evR (.inl bb), .ty "tuple"] = some (.bl false) := ht
              simp [hx, ht']
              refine hR1 _ _ ⟨rfl, .sh (.int n), ?_⟩
              simp [cutSum]
            | inr q =>
              rw [hv] at hx ht hR1
              have ht' : isiD [evR (.inr q), .ty "tuple"] = some (.bl true) := ht
              have i0 : ixD (evR (.inr q)) (.int 0) = some (.int q.1) := rfl
              have i1 : ixD (evR (.inr q)) (.int 1) = some (.int q.2) := rfl
              simp [hx, ht', i0, i1, setD]
              refine ⟨by omega, ?_⟩
              refine ok_lcl (fun x => [.sh (.lst (evs.map evR)), .sh (.lst ((spotsI 0 evs).map D.int)), .ow ((List.range (nB evs + 1)).map fun j => opI (bst evs done j)), .sh (.lst (ss.map setD)), .sh (.int x), .sh (.lst (s.map D.int)), .sh (.int ((s.map (bAt evs)).sum - cutSum 0 (evs.take n) s)), .sh (.int n)]) (fun x => decide ((n : Int) < x)) (fun x => .int x) ?_ ?_ ?_ ?_
              · intro x hx; rfl
              · intro x hx; simp
              · intro x hx _; simp
              have hfl : (s.filter fun x => decide ((n : Int) < x)).length ≤ 12 := by
                have := List.length_filter_le (fun x => decide ((n : Int) < x)) s
                omega
              have hw : (if q.2 * ((s.filter fun x => decide ((n : Int) < x)).length : Int) < q.1 then q.2 * ((s.filter fun x => decide ((n : Int) < x)).length : Int) else q.1) = wor q.1 q.2 (s.filter fun x => decide ((n : Int) < x)).length := by
                unfold wor
                rw [Int.mul_comm]
                split <;> omega
              simp [hw]
              refine ⟨.inl (.inr (by omega)), hR1 _ _ ⟨rfl, .sh (.int n), ?_⟩⟩
              simp [cutSum, setD]
              omega
          · rintro ρ u2 ⟨rfl, d, rfl⟩
            refine ⟨rfl, d, ?_⟩
            rw [List.take_of_length_le (Nat.le_refl _)]
            have : (s.map (bAt evs)).sum - cutSum 0 evs s = lv 0 evs s := by unfold lv; simp
            rw [this]
        rintro ρ u2 ⟨rfl, d, rfl⟩
        have hlen : ((List.range (nB evs + 1)).map fun j => opI (bst evs done j)).length = nB evs + 1 := by simp
        have hat : atI ((List.range (nB evs + 1)).map fun j => opI (bst evs done j)) (s.length : Int) = some (opI (bst evs done s.length)) := at_nat (by rw [List.getElem?_map, List.getElem?_range (by omega)]; rfl)
        have hput : ixN ((List.range (nB evs + 1)).map fun j => opI (bst evs done j)).length (s.length : Int) = some s.length := by
          unfold ixN
          rw [if_pos (by omega), if_pos (by rw [hlen]; omega)]
          rfl
        have hset : ∀ w : Int, bup (bst evs done s.length) (lv 0 evs s) = some w → ((List.range (nB evs + 1)).map fun j => opI (bst evs done j)).set s.length (.int w) = (List.range (nB evs + 1)).map fun j => opI (bst evs (done ++ [s]) j) := fun w hw => by
          apply List.ext_getElem?
          intro j
          by_cases hj : j < nB evs + 1
          · rw [List.getElem?_map, List.getElem?_range hj]
            simp only [Option.map_some, bst_snoc]
            by_cases ej : s.length = j
            · subst ej
              rw [if_pos rfl, hw, List.getElem?_set_self (by rw [hlen]; exact hj)]
              rfl
            · rw [if_neg ej, List.getElem?_set_ne ej, List.getElem?_map, List.getElem?_range hj]
              rfl
          · rw [List.getElem?_eq_none (by simp; omega), List.getElem?_eq_none (by simp; omega)]
        have hsame : ∀ m : Int, bst evs done s.length = some m → ¬ m < lv 0 evs s → ((List.range (nB evs + 1)).map fun j => opI (bst evs done j)) = (List.range (nB evs + 1)).map fun j => opI (bst evs (done ++ [s]) j) := fun m hm hle => by
          apply List.map_congr_left
          intro j _
          rw [bst_snoc]
          by_cases ej : s.length = j
          · subst ej
            rw [if_pos rfl, hm]
            show _ = opI (if m < lv 0 evs s then some (lv 0 evs s) else some m)
            rw [if_neg hle]
          · rw [if_neg ej]
        have lens : lenD [setD s] = some (.int s.length) := by unfold setD; simp
        generalize hfd : ((List.range (nB evs + 1)).map fun j => opI (bst evs done j)) = fd at hat hput hset hsame hlen ⊢
        cases hbs : bst evs done s.length with
        | none =>
          rw [hbs] at hat hset
          have e5 : isD (opI none) .non = some (.bl true) := rfl
          simp [lens, hat, e5]
          rw [hput]
          simp
          exact hR0 _ _ ⟨rfl, _, _, _, _, by rw [hset _ rfl]⟩
        | some m =>
          rw [hbs] at hat hset
          have e5 : isD (.int m) .non = some (.bl false) := rfl
          have e6 : opI (some m) = .int m := rfl
          simp [lens, hat, e5, e6]
          refine brd (fun z => ?_) (fun z => ?_)
          · rw [hput]
            simp
            exact hR0 _ _ ⟨rfl, _, _, _, _, by rw [hset _ (if_pos z)]⟩
          · exact hR0 _ _ ⟨rfl, _, _, _, _, by rw [← hsame m hbs z]⟩
    · rintro ρ u1 ⟨rfl, a, b, c, d, rfl⟩
      refine ⟨rfl, a, b, c, d, ?_⟩
      rw [List.take_of_length_le (by simp)]
  · rintro ρ u1 ⟨rfl, a, b, c, d, rfl⟩
    simpa using hfin
end S2



set_option Elab.async false
set_option linter.all false
set_option maxRecDepth 100000
set_option maxHeartbeats 4000000
/-! K5m: what is left behind a payment, and the best that can be left, plain. -/
namespace P20
open Mi L2
/-- the most that can be left -/
def best (am : List (Int × Int)) (x : Int) (k : Nat) : Int := min (FF am k) (FF am (k + 1) - x)
end P20


set_option Elab.async false
set_option linter.all false
set_option maxRecDepth 100000
set_option maxHeartbeats 4000000
/-! K7m: few cards with a given row, plain. -/
namespace P20
open Mi L2
/-- what falls are worth: the first at day d -/
def WW (d : Nat) : List Int → Nat → Int
  | [], _ => 0
  | a :: r, k => a * ((min k d : Nat) : Int) + WW (d + 1) r k
/-- few cards -/
def few : Nat → List Int → List (Int × Int)
  | d, a :: b :: r =>
    if a = 0 then few (d + 1) (b :: r)
    else if b = 0 then ((d : Int) * (a + b) + b, a + b) :: few (d + 1) (b :: r)
    else ((d : Int) * (a + b) + b, a + b) :: few (d + 2) r
  | _, _ => []
termination_by _ l => l.length
end P20


set_option Elab.async false
set_option linter.all false
set_option maxRecDepth 100000
set_option maxHeartbeats 4000000
/-! ShYl: what fewest_cards answers (k85, k86, k87). -/
namespace Sh
open PySem L2 Mi P20
@[reducible] def cns : List Str := ["c1", "c2", "c3", "c4", "c5", "c6", "c7", "c8", "c9", "c10", "c11", "c12"]
theorem nm_fs (a b c d e : Sd) (u : PuS) : ∀ i : Nat, i < 12 → mFs [mC (.str "c"), mFmt (mBin addD (mVar 4) (mC (.int 1)))] [a, b, c, d, .sh (.int (i : Int)), e] u = some (.str (cns.getD i ""), u)
  | 0, _ => rfl
  | 1, _ => rfl
  | 2, _ => rfl
  | 3, _ => rfl
  | 4, _ => rfl
  | 5, _ => rfl
  | 6, _ => rfl
  | 7, _ => rfl
  | 8, _ => rfl
  | 9, _ => rfl
  | 10, _ => rfl
  | 11, _ => rfl
  | n + 12, h => by omega
end Sh


set_option Elab.async false
set_option linter.all false
set_option maxRecDepth 100000
set_option maxHeartbeats 4000000
/-! ShZl: wallet[name], card - amount, changed, wallet + wallet. -/
namespace Sh
open PySem L2 Mi P20
@[simp] theorem s_ninStrsT {x : Str} {ns : List Str} : ninD (.str x) (.tup (ns.map D.str)) = some (.bl (!decide (x ∈ ns))) := by
  have h : inA (.str x) (.tup (ns.map D.str)) = some (decide (x ∈ ns)) := by
    have := s_inStrsT (x := x) (ns := ns)
    have e : inD (.str x) (.tup (ns.map D.str)) = (inA (.str x) (.tup (ns.map D.str))).map D.bl := rfl
    rw [e] at this
    cases hh : inA (.str x) (.tup (ns.map D.str)) with
    | none => rw [hh] at this; cases this
    | some b => rw [hh] at this; cases this; rfl
  unfold ninD
  rw [h]
  rfl
end Sh


set_option Elab.async false
set_option linter.all false
set_option maxRecDepth 100000
set_option maxHeartbeats 4000000
/-! S3l: what the drawing functions of the third family answer. -/
namespace S3
open PySem L2 Mi P20 Sh
def Pu (u : PuS) : Prop := ∃ d s c : Int, u = .real [d, s, c] ∧ 0 ≤ s ∧ s < 2305843009213693951
theorem log_big {n : Int} (h : 0 < n ∧ n < 1000000000000000000000000000000000000000000000000000000000000) : n.natAbs.log2 < 200 := by
  refine (Nat.log2_lt (by omega)).mpr ?_
  have : (2 : Nat) ^ 200 = 1606938044258990275541962092341162602522202993782792835301376 := by decide +kernel
  rw [this]
  omega
theorem draw_ok {n : Int} (hn : 0 < n ∧ n < 1000000000000000000000000000000000000000000000000000000000000) {u : PuS} (hu : Pu u) {P : D → PuS → Prop} (h : ∀ r u', 0 ≤ r → r < n → Pu u' → P (.int r) u') : Ok (mf__law_draw [.pur, .int n]) u P := by
  obtain ⟨d, s, c, rfl, h1, h2⟩ := hu
  unfold mf__law_draw mb__law_draw
  have hd : dmC d n = true := dmC_log hn.1 (by have := log_big hn; omega)
  have hh : ∀ k : Int, 0 ≤ k % n ∧ k % n < n := fun k => ⟨Int.emod_nonneg _ (by omega), Int.emod_lt_of_pos _ hn.1⟩
  simp [atI, ixN, hn.1, hd]
  refine brd (fun hx => ?_) (fun hx => ?_)
  · refine h _ _ (hh _).1 (hh _).2 ⟨_, _, _, rfl, by omega, by omega⟩
  · refine ⟨.inl (.inr (by omega)), ?_⟩
    refine h _ _ (hh _).1 (hh _).2 ⟨_, _, _, rfl, by omega, by omega⟩
theorem amount_ok {u : PuS} (hu : Pu u) {P : D → PuS → Prop} (h : ∀ r u', 0 ≤ r → r < 100000000000000000000000000000 → Pu u' → P (.int r) u') : Ok (mf__law_amount [.pur]) u P := by
  unfold mf__law_amount mb__law_amount
  simp
  refine draw_ok (by decide) hu fun w u1 w0 w6 hu1 => ?_
  simp
  refine brd (fun h3 => ?_) (fun h3 => ?_)
  · exact draw_ok (by decide) hu1 fun r u2 r0 r1 hu2 => h r u2 r0 (by omega) hu2
  refine brd (fun h4 => ?_) (fun h4 => ?_)
  · refine draw_ok (by decide) hu1 fun r u2 r0 r1 hu2 => ?_
    simp
    exact h _ _ (by omega) (by omega) hu2
  refine draw_ok (by decide) hu1 fun a u2 a0 a1 hu2 => ?_
  simp
  refine draw_ok (by decide) hu2 fun b u3 b0 b1 hu3 => ?_
  simp
  refine brd (fun h5 => ?_) (fun h5 => ?_)
  · exact h _ _ (by omega) (by omega) hu3
  · refine draw_ok (by decide) hu3 fun c u4 c0 c1 hu4 => ?_
    simp
    exact h _ _ (by omega) (by omega) hu4
theorem card_ok {u : PuS} (hu : Pu u) {P : D → PuS → Prop} (h : ∀ q u', 1 ≤ q.2 ∧ 0 ≤ q.1 ∧ q.1 ≤ 24 * q.2 → q.2 ≤ 100000000000000000000000000000 → Pu u' → P (prD q) u') : Ok (mf__law_card [.pur]) u P := by
  unfold mf__law_card mb__law_card
  rw [ok_fn]
  refine seq_go fun K R hK hR => ?_
  simp
  refine amount_ok hu fun l u1 l0 l1 hu1 => ?_
  simp
  refine hK _ _ ?_
  clear hK hR K R
  refine seq_go fun K R hK hR => ?_
  simp
  refine draw_ok (by decide) hu1 fun a u2 a0 a1 hu2 => ?_
  obtain ⟨n, e1, n0, n1⟩ : ∃ n : Int, ixD (.lst [.int 3, .int 24]) (.int (if a = 0 then 1 else 0)) = some (.int n) ∧ 0 < n ∧ n ≤ 24 := by
    by_cases h0 : a = 0
    · rw [if_pos h0]; exact ⟨24, rfl, by decide, by decide⟩
    · rw [if_neg h0]; exact ⟨3, rfl, by decide, by decide⟩
  simp at e1
  simp [e1]
  refine draw_ok (by omega) hu2 fun dd u3 d0 d1 hu3 => ?_
  refine hK _ _ ?_
  clear hK hR K R
  simp
  refine ⟨.inl (.inr (by omega)), ?_⟩
  refine amount_ok hu3 fun x u4 x0 x1 hu4 => ?_
  simp
  have hm : 0 ≤ x % (1 + l + 1) ∧ x % (1 + l + 1) < 1 + l + 1 := ⟨Int.emod_nonneg _ (by omega), Int.emod_lt_of_pos _ (by omega)⟩
  have hp1 : 0 ≤ (1 + l) * dd := Int.mul_nonneg (by omega) d0
  have hp2 : (1 + l) * dd ≤ (1 + l) * 23 := Int.mul_le_mul_of_nonneg_left (by omega) (by omega)
  refine ⟨by omega, ?_⟩
  exact h ((1 + l) * dd + x % (1 + l + 1), 1 + l) u4 ⟨by simp; omega, by simp only; omega, by simp only; omega⟩ (by simp only; omega) hu4
/-! ### plain ones -/
theorem lworth_ok {q : Int × Int} {k : Nat} (hk : k ≤ 1000) {u : PuS} {P : D → PuS → Prop} (h : P (.int (wor q.1 q.2 k)) u) : Ok (mf__law_worth [prD q, .int k]) u P := by
  unfold mf__law_worth mb__law_worth prD
  have e1 : ∀ a b : D, ixD (.tup [a, b]) (.int 0) = some a := fun a b => rfl
  have e2 : ∀ a b : D, ixD (.tup [a, b]) (.int 1) = some b := fun a b => rfl
  simp [e1, e2, -s_ixT]
  refine ⟨.inl (.inl (by omega)), ?_⟩
  have e : (if (k : Int) * q.2 < q.1 then (k : Int) * q.2 else q.1) = wor q.1 q.2 k := by unfold wor; split <;> omega
  rw [e]
  exact h
theorem power_ok {am : List (Int × Int)} (hl : am.length ≤ 1000) {k : Nat} (hk : k ≤ 1000) {u : PuS} {P : D → PuS → Prop} (h : P (.int (FF am k)) u) : Ok (mf__law_power [.lst (am.map prD), .int k]) u P := by
  unfold mf__law_power mb__law_power
  simp
  refine ⟨by omega, ?_⟩
  refine ok_lca (fun q : Int × Int => [.sh (.lst (am.map prD)), .sh (.int k), .sh (prD q)]) (fun q => .int (wor q.1 q.2 k)) ?_ ?_ ?_
  · intro q hq; rfl
  · intro q hq
    unfold ce__law_power_1
    simp
    exact lworth_ok hk ⟨rfl, rfl⟩
  have e : am.map (fun q => D.int (wor q.1 q.2 k)) = (am.map fun q => wor q.1 q.2 k).map D.int := by rw [List.map_map]; rfl
  rw [e, s_sumI]
  simp
  exact h
@[simp] theorem whole_ok {n : Int} {u : PuS} {P : D → PuS → Prop} : Ok (mf__law_whole [.int n]) u P ↔ P (.bl (decide (0 ≤ n))) u := by
  unfold mf__law_whole mb__law_whole
  have e1 : isiD [.int n, .ty "int"] = some (.bl true) := rfl
  have e2 : isiD [.int n, .ty "bool"] = some (.bl false) := rfl
  simp [e1, e2]
def evR : Ev → D
  | .inl x => .int x
  | .inr q => prD q
theorem course_ok {evs : List Ev} (h : EvsOk evs) {u : PuS} {P : D → PuS → Prop} (hp : P (courD evs) u) : Ok (mf__law_course [.lst (evs.map evR)]) u P := by
  have hl := h.len
  unfold mf__law_course mb__law_course
  simp
  refine ⟨by omega, ?_⟩
  refine ok_lca (fun e : Ev => [.sh (.lst (evs.map evR)), .sh (evR e)]) evD ?_ ?_ ?_
  · intro e he; rfl
  · intro e he
    unfold ce__law_course_1
    cases e with
    | inl x =>
      have e1 : isiD [evR (.inl x), .ty "int"] = some (.bl true) := rfl
      simp [e1]
      rfl
    | inr q =>
      have e1 : isiD [evR (.inr q), .ty "int"] = some (.bl false) := rfl
      have e2 : ixD (evR (.inr q)) (.int 0) = some (.int q.1) := rfl
      have e3 : ixD (evR (.inr q)) (.int 1) = some (.int q.2) := rfl
      obtain ⟨q1, q2, q3⟩ := h.each _ he
      simp [e1, e2, e3]
      exact card_init q1 q2 q3 ⟨rfl, rfl⟩
  exact cour_init h hp
theorem meets_ok {am : List (Int × Int)} {L : List Int} (ha : am.length ≤ 100) (hl : L.length ≤ 100) {u : PuS} {P : D → PuS → Prop} (h : ∀ r : Bool, (r = true ↔ ∀ k s, L[k]? = some s → s ≤ FF am (k + 1)) → P (.bl r) u) : Ok (mf__law_meets [.lst (am.map prD), .lst (L.map D.int)]) u P := by
  unfold mf__law_meets mb__law_meets
  simp
  refine ⟨by omega, by rw [rngD_len]; omega, ?_⟩
  refine ok_lcra (fun i => [.sh (.lst (am.map prD)), .sh (.lst (L.map D.int)), .sh (.int (0 + (i : Nat)))]) (fun i => .bl (decide (L.getD i 0 ≤ FF am (i + 1)))) ?_ ?_ ?_
  · intro i hi; rfl
  · intro i hi
    have gi : atI (L.map D.int) (i : Int) = some (.int (L.getD i 0)) := getI (by rw [List.getD_eq_getElem?_getD, List.getElem?_eq_getElem hi]; rfl)
    unfold ce__law_meets_1
    simp [gi]
    rw [show (i : Int) + 1 = ((i + 1 : Nat) : Int) by omega]
    refine power_ok (by omega) (by omega) ?_
    simp
  have e : (List.range L.length).map (fun i => D.bl (decide (L.getD i 0 ≤ FF am (i + 1)))) = ((List.range L.length).map fun i => decide (L.getD i 0 ≤ FF am (i + 1))).map D.bl := by rw [List.map_map]; rfl
  rw [e]
  have ea : ∀ bs : List Bool, allD [.lst (bs.map D.bl)] = some (.bl (bs.all id)) := fun bs => by
    show (blsD (bs.map D.bl)).map (fun bs => D.bl (bs.all id)) = _
    rw [blsD_map]
    rfl
  rw [ea]
  simp only [Option.some.injEq, exists_eq_left']
  refine h _ ?_
  rw [List.all_map, List.all_eq_true]
  constructor
  · intro hh k s hs
    have hk : k < L.length := (List.getElem?_eq_some_iff.mp hs).1
    have := hh k (List.mem_range.mpr hk)
    simp at this
    rw [hs] at this
    simpa using this
  · intro hh k hk
    have hk := List.mem_range.mp hk
    have := hh k L[k] (List.getElem?_eq_getElem hk)
    simp
    rw [List.getElem?_eq_getElem hk]
    simpa using this
theorem lpurse_ok {am : List (Int × Int)} {nl : List Str} (ha : Am am) (hl : am.length ≤ nl.length) (hn : Nms (nl.zip am)) {u : PuS} {P : D → PuS → Prop} (h : P (walD (nl.zip am)) u) : Ok (mf__law_purse [.lst (am.map prD), .lst (nl.map D.str)]) u P := by
  have h12 := hn.len
  have hzl : (nl.zip am).length = am.length := by simp; omega
  unfold mf__law_purse mb__law_purse
  simp
  refine ⟨by omega, by rw [rngD_len]; omega, ?_⟩
  refine ok_lcra (fun i => [.sh (.lst (am.map prD)), .sh (.lst (nl.map D.str)), .sh (.int (0 + (i : Nat)))]) (fun i => pairD (nl.getD i "", am.getD i (0, 1))) ?_ ?_ ?_
  · intro i hi; rfl
  · intro i hi
    have e1 : am[i]? = some am[i] := List.getElem?_eq_getElem hi
    have e2 : nl[i]? = some nl[i] := List.getElem?_eq_getElem (by omega)
    have g1 : atI (am.map prD) (i : Int) = some (prD am[i]) := at_nat (by rw [List.getElem?_map, e1]; rfl)
    have g2 : atI (nl.map D.str) (i : Int) = some (.str nl[i]) := at_nat (by rw [List.getElem?_map, e2]; rfl)
    have e4 : ∀ q, ixD (prD q) (.int 0) = some (.int q.1) := fun q => rfl
    have e5 : ∀ q, ixD (prD q) (.int 1) = some (.int q.2) := fun q => rfl
    obtain ⟨q1, q2, q3⟩ := ha _ (List.getElem_mem hi)
    rw [List.getD_eq_getElem?_getD, List.getD_eq_getElem?_getD, e1, e2]
    unfold ce__law_purse_1
    simp [g1, g2, e4, e5]
    exact card_init q1 q2 q3 ⟨rfl, rfl⟩
  have e : (List.range am.length).map (fun i => pairD (nl.getD i "", am.getD i (0, 1))) = (nl.zip am).map pairD := by
    apply List.ext_getElem?
    intro i
    by_cases hi : i < am.length
    · rw [List.getElem?_map, List.getElem?_range hi, List.getElem?_map, List.getElem?_eq_getElem (by omega)]
      simp only [Option.map_some]
      rw [List.getElem_zip, List.getD_eq_getElem?_getD, List.getD_eq_getElem?_getD, List.getElem?_eq_getElem hi, List.getElem?_eq_getElem (show i < nl.length by omega)]
      rfl
    · rw [List.getElem?_eq_none (by simp; omega), List.getElem?_eq_none (by simp; omega)]
  rw [e]
  exact wal_init hn h
/-! ### what is lacking -/
def lks (am : List (Int × Int)) (L : List Int) : List Int := (List.range L.length).map fun k => max 0 (L.getD k 0 - FF am (k + 1))
theorem lacking_ok {am : List (Int × Int)} {L : List Int} (ha : am.length ≤ 100) (hl : L.length ≤ 100) {u : PuS} {P : D → PuS → Prop} (h : P (.lst ((lks am L).map D.int)) u) : Ok (mf_lacking [.tup (am.map prD), .lst (L.map D.int)]) u P := by
  unfold mf_lacking mb_lacking
  rw [ok_fn]
  refine seq_go fun K R hK hR => ?_
  simp [mBorLs]
  refine ⟨by omega, by rw [rngD_len]; omega, ?_⟩
  refine ok_lcra (fun i => [.sh (.tup (am.map prD)), .sh (.lst (L.map D.int)), .un, .sh (.int (0 + (i : Nat))), .un, .un, .un, .un]) (fun i => .int (FF am (i + 1))) ?_ ?_ ?_
  · intro i hi; rfl
  · intro i hi
    unfold ce_lacking_2
    simp
    refine ⟨by omega, ?_⟩
    refine ok_lca (fun q : Int × Int => [.sh (.tup (am.map prD)), .sh (.lst (L.map D.int)), .un, .sh (.int (i : Nat)), .sh (.int q.1), .sh (.int q.2), .un, .un]) (fun q => .int (wor q.1 q.2 (i + 1))) ?_ ?_ ?_
    · intro q hq; rfl
    · intro q hq
      unfold ce_lacking_1
      simp
      rw [show (i : Int) + 1 = ((i + 1 : Nat) : Int) by omega]
      exact worth_ok (by omega) ⟨rfl, rfl⟩
    have e : am.map (fun q => D.int (wor q.1 q.2 (i + 1))) = (am.map fun q => wor q.1 q.2 (i + 1)).map D.int := by rw [List.map_map]; rfl
    rw [e, s_sumI]
    exact ⟨_, rfl, rfl, rfl⟩
  refine hK _ _ ?_
  clear hK hR K R
  have ez : zipA2 [.lst (L.map D.int), .lst ((List.range L.length).map fun i => D.int (FF am (i + 1)))] = some ((List.range L.length).map fun k => .tup [.int (L.getD k 0), .int (FF am (k + 1))]) := by
    show some (zipD _ _) = _
    congr 1
    apply List.ext_getElem?
    intro i
    unfold zipD
    rw [List.getElem?_map, List.getElem?_map]
    by_cases hi : i < L.length
    · rw [List.getElem?_range hi, List.getElem?_eq_getElem (by simp; omega)]
      simp
      rw [List.getElem?_eq_getElem hi]
      rfl
    · rw [List.getElem?_eq_none (by simp; omega), List.getElem?_eq_none (by simp; omega)]
      rfl
  simp [ez]
  refine ⟨by omega, ?_⟩
  refine ok_lcm (fun k : Nat => [.sh (.tup (am.map prD)), .sh (.lst (L.map D.int)), .sh (.lst ((List.range L.length).map fun i => D.int (FF am (i + 1)))), .un, .un, .un, .sh (.int (L.getD k 0)), .sh (.int (FF am (k + 1)))]) (fun _ => true) (fun k => .int (max 0 (L.getD k 0 - FF am (k + 1)))) ?_ ?_ ?_ ?_
  · intro k hk
    simp
  · intro k hk
    simp
  · intro k hk _
    unfold ce_lacking_3
    simp
    split <;> omega
  rw [List.filter_eq_self.mpr fun _ _ => rfl]
  unfold lks at h
  rw [List.map_map] at h
  exact h
theorem up_ok {n : Int} {p : Nat} (hp : 0 < p ∧ p < 1000) {u : PuS} {P : D → PuS → Prop} (h : P (.int (-(-n / p))) u) : Ok (mf_upward [.int n, .int p]) u P := by
  unfold mf_upward mb_upward
  have hf : fdivC (-n) (p : Int) = true := fdivC_small (by omega)
  simp [hf]
  exact h
@[simp] theorem check_course_ok' {evs : List Ev} {u : PuS} {P : D → PuS → Prop} : Ok (mf_check_course [courD evs]) u P ↔ P .non u := by
  unfold mf_check_course mb_check_course
  have e : isiD [courD evs, .cls "Course"] = some (.bl true) := rfl
  simp [e]
theorem bal_ok {q : Int × Int} {u : PuS} {P : D → PuS → Prop} (h : P (.int q.1) u) : Ok (mf_Card_balance [.obj "Card" ["held", "daily"] [.int q.1, .int q.2]]) u P := by
  unfold mf_Card_balance mb_Card_balance
  simp
  exact h
theorem lim_ok {q : Int × Int} {u : PuS} {P : D → PuS → Prop} (h : P (.int q.2) u) : Ok (mf_Card_limit [.obj "Card" ["held", "daily"] [.int q.1, .int q.2]]) u P := by
  unfold mf_Card_limit mb_Card_limit
  simp
  exact h
def cardO : Option (Int × Int) → D
  | none => .non
  | some q => cardD q
def lcd (L : List Int) : Option (Int × Int) := if mxD 0 L = 0 then none else some (mxD 0 L, maxL ((List.range L.length).map fun k => -(-L.getD k 0 / ((k + 1 : Nat) : Int))))
theorem up_spec (n : Int) {p : Nat} (hp : 0 < p) : n ≤ (p : Int) * (-(-n / p)) ∧ (p : Int) * (-(-n / p) - 1) < n := by
  have h1 := Int.mul_ediv_self_le (x := -n) (k := (p : Int)) (by omega)
  have h2 := Int.lt_mul_ediv_self_add (x := -n) (k := (p : Int)) (by omega)
  rw [Int.mul_sub, Int.mul_neg, Int.mul_one]
  omega
theorem lks_nn {am : List (Int × Int)} {L : List Int} : ∀ x ∈ lks am L, (0 : Int) ≤ x := fun x hx => by
  unfold lks at hx
  obtain ⟨k, _, rfl⟩ := List.mem_map.mp hx
  omega
theorem lks_len (am : List (Int × Int)) (L : List Int) : (lks am L).length = L.length := by simp [lks]
theorem mxD_spec {L : List Int} (hL : ∀ x ∈ L, (0 : Int) ≤ x) : 0 ≤ mxD 0 L ∧ (∀ x ∈ L, x ≤ mxD 0 L) ∧ (mxD 0 L ≠ 0 → mxD 0 L ∈ L) := by
  cases L with
  | nil => exact ⟨Int.le_refl _, (fun x hx => by cases hx), fun h => absurd rfl h⟩
  | cons a L =>
    obtain ⟨h1, h2⟩ := maxL_mem (ns := a :: L) (by simp)
    exact ⟨hL _ h1, h2, fun _ => h1⟩
theorem ups_spec {L : List Int} (h0 : L ≠ []) : (∀ (k : Nat) (x : Int), L[k]? = some x → -(-x / ((k + 1 : Nat) : Int)) ≤ maxL ((List.range L.length).map fun k => -(-L.getD k 0 / ((k + 1 : Nat) : Int)))) ∧ ∃ (k : Nat) (x : Int), L[k]? = some x ∧ maxL ((List.range L.length).map fun k => -(-L.getD k 0 / ((k + 1 : Nat) : Int))) = -(-x / ((k + 1 : Nat) : Int)) := by
  have hne : (List.range L.length).map (fun k => -(-L.getD k 0 / ((k + 1 : Nat) : Int))) ≠ [] := by
    intro h
    have := congrArg List.length h
    simp at this
    exact h0 this
  obtain ⟨h1, h2⟩ := maxL_mem hne
  refine ⟨fun k x hx => h2 _ (List.mem_map.mpr ⟨k, List.mem_range.mpr (List.getElem?_eq_some_iff.mp hx).1, by rw [List.getD_eq_getElem?_getD, hx]; rfl⟩), ?_⟩
  obtain ⟨k, hk, e⟩ := List.mem_map.mp h1
  have hk := List.mem_range.mp hk
  exact ⟨k, L[k], List.getElem?_eq_getElem hk, by rw [← e, List.getD_eq_getElem?_getD, List.getElem?_eq_getElem hk]; rfl⟩
theorem lcd_good {L : List Int} (hL : ∀ x ∈ L, (0 : Int) ≤ x) (h24 : L.length ≤ 24) {q : Int × Int} (h : lcd L = some q) : 1 ≤ q.2 ∧ 0 ≤ q.1 ∧ q.1 ≤ 24 * q.2 := by
  unfold lcd at h
  split at h
  · cases h
  · rename_i hb
    cases h
    obtain ⟨m1, m2, m3⟩ := mxD_spec hL
    have hm := m3 hb
    obtain ⟨k, hk⟩ := List.mem_iff_getElem?.mp hm
    have hkl : k < L.length := (List.getElem?_eq_some_iff.mp hk).1
    have h0 : L ≠ [] := fun e => by rw [e] at hkl; simp at hkl
    obtain ⟨u1, _⟩ := ups_spec h0
    have u2 := u1 k _ hk
    generalize maxL ((List.range L.length).map fun k => -(-L.getD k 0 / ((k + 1 : Nat) : Int))) = M at u2
    obtain ⟨s1, s2⟩ := up_spec (mxD 0 L) (p := k + 1) (by omega)
    generalize -(-mxD 0 L / ((k + 1 : Nat) : Int)) = c at u2 s1 s2
    have hB : 0 < mxD 0 L := by omega
    have hc : 1 ≤ c := by
      by_cases hc : c ≤ 0
      · have : ((k + 1 : Nat) : Int) * c ≤ 0 := Int.mul_nonpos_of_nonneg_of_nonpos (by omega) hc
        omega
      · omega
    have h3 : ((k + 1 : Nat) : Int) * c ≤ 24 * c := mono_mul (by omega) (by omega)
    refine ⟨by show 1 ≤ M; omega, m1, ?_⟩
    show mxD 0 L ≤ 24 * M
    omega
theorem lcard_ok {ps : List (Str × (Int × Int))} (hl : ps.length ≤ 100) {evs : List Ev} (h18 : evs.length ≤ 24) {u : PuS} {P : D → PuS → Prop} (h : P (cardO (lcd (lks (ps.map Prod.snd) (asks evs)))) u) : Ok (mf_least_card [walD ps, courD evs]) u P := by
  have hal : (asks evs).length ≤ 24 := by rw [asks_len]; have := nBC evs; omega
  unfold mf_least_card mb_least_card
  rw [ok_fn]
  refine seq_go fun K R hK hR => ?_
  simp
  refine hK _ _ ?_
  clear hK hR K R
  refine seq_go fun K R hK hR => ?_
  simp
  refine hK _ _ ?_
  clear hK hR K R
  refine seq_go fun K R hK hR => ?_
  simp
  refine amounts_ok (by omega) ?_
  refine ⟨_, _, rfl, ?_⟩
  rw [events_ok]
  refine asked_ok (by omega) ?_
  refine lacking_ok (by rw [List.length_map]; omega) (by omega) ?_
  have hll : (lks (ps.map Prod.snd) (asks evs)).length ≤ 24 := by rw [lks_len]; exact hal
  have hnn := lks_nn (am := ps.map Prod.snd) (L := asks evs)
  generalize lks (ps.map Prod.snd) (asks evs) = L at h hll hnn
  refine hK _ _ ?_
  clear hK hR K R
  have e1 : maxDf 0 [.lst (L.map D.int)] = some (.int (mxD 0 L)) := by
    show (intsD (L.map D.int)).map _ = _
    rw [intsD_map]
    rfl
  refine seq_go fun K R hK hR => ?_
  simp [e1]
  refine hK _ _ ?_
  clear hK hR K R
  refine seq_go fun K R hK hR => ?_
  simp
  refine brd (fun z => ?_) (fun z => ?_)
  · refine hR _ _ ?_
    unfold lcd at h
    rw [if_pos z] at h
    exact h
  · refine hK _ _ ?_
    clear hK hR K R
    have hgood := lcd_good hnn hll (q := (mxD 0 L, maxL ((List.range L.length).map fun k => -(-L.getD k 0 / ((k + 1 : Nat) : Int))))) (if_neg z)
    have h0 : L ≠ [] := fun e => z (by rw [e]; rfl)
    unfold lcd at h
    rw [if_neg z] at h
    simp
    refine ⟨by unfold enumD; simp; omega, ?_⟩
    have een : enumD (L.map D.int) = (List.range L.length).map fun k : Nat => .tup [.int (k : Int), .int (L.getD k 0)] := by
      apply List.ext_getElem?
      intro i
      unfold enumD
      rw [List.getElem?_mapIdx, List.getElem?_map, List.getElem?_map]
      by_cases hi : i < L.length
      · have eg : L.getD i 0 = L[i] := by rw [List.getD_eq_getElem?_getD, List.getElem?_eq_getElem hi]; rfl
        rw [List.getElem?_range hi, List.getElem?_eq_getElem hi]
        simp only [Option.map_some, eg]
      · rw [List.getElem?_eq_none (l := L) (by omega), List.getElem?_eq_none (by simp; omega)]
        rfl
    rw [een]
    refine ok_lcm (fun k : Nat => [.sh (walD ps), .sh (courD evs), .sh (.lst (L.map D.int)), .sh (.int (mxD 0 L)), .sh (.int (k : Int)), .sh (.int (L.getD k 0))]) (fun _ => true) (fun k => .int (-(-L.getD k 0 / ((k + 1 : Nat) : Int)))) ?_ ?_ ?_ ?_
    · intro k hk; simp
    · intro k hk; simp
    · intro k hk _
      have hk := List.mem_range.mp hk
      unfold ce_least_card_1
      simp
      rw [show (k : Int) + 1 = ((k + 1 : Nat) : Int) by omega]
      refine up_ok (by omega) ?_
      simp
    rw [List.filter_eq_self.mpr fun _ _ => rfl]
    have e2 : (List.range L.length).map (fun k => D.int (-(-L.getD k 0 / ((k + 1 : Nat) : Int)))) = ((List.range L.length).map fun k => -(-L.getD k 0 / ((k + 1 : Nat) : Int))).map D.int := by rw [List.map_map]; rfl
    rw [e2]
    have hne : (List.range L.length).map (fun k => -(-L.getD k 0 / ((k + 1 : Nat) : Int))) ≠ [] := by
      intro h
      have := congrArg List.length h
      simp at this
      exact h0 this
    generalize (List.range L.length).map (fun k => -(-L.getD k 0 / ((k + 1 : Nat) : Int))) = U at h hne hgood
    obtain ⟨x, U', rfl⟩ : ∃ x U', U = x :: U' := by
      cases U with
      | nil => exact absurd rfl hne
      | cons x U' => exact ⟨x, U', rfl⟩
    refine ⟨_, s_maxL, ?_⟩
    exact card_init hgood.1 hgood.2.1 hgood.2.2 h
/-! ### the drawn events -/
theorem pair_list : ∀ {ys : List D}, (∀ y ∈ ys, ∃ q : Int × Int, (1 ≤ q.2 ∧ 0 ≤ q.1 ∧ q.1 ≤ 24 * q.2) ∧ y = prD q) → ∃ am, Am am ∧ ys = am.map prD
  | [], _ => ⟨[], Am.nil, rfl⟩
  | y :: ys, h => by
    obtain ⟨am, h1, h2⟩ := pair_list (ys := ys) fun z hz => h z (List.mem_cons_of_mem _ hz)
    obtain ⟨q, h3, h4⟩ := h y List.mem_cons_self
    exact ⟨q :: am, Am.cons h3 h1, by rw [h4, h2]; rfl⟩
theorem bills_ev (bs : List Int) : bs.map D.int = (bs.map Sum.inl : List Ev).map evR := by rw [List.map_map]; rfl
theorem cards_ev (am : List (Int × Int)) : am.map prD = (am.map Sum.inr : List Ev).map evR := by rw [List.map_map]; rfl
theorem nB_bills (bs : List Int) : nB (bs.map Sum.inl : List Ev) = bs.length := by
  induction bs with
  | nil => rfl
  | cons x bs ih => rw [List.map_cons, nB_inl, ih]; rfl
theorem nC_bills (bs : List Int) : nC (bs.map Sum.inl : List Ev) = 0 := by
  induction bs with
  | nil => rfl
  | cons x bs ih => simpa [nC, isB] using ih
theorem nB_cards (am : List (Int × Int)) : nB (am.map Sum.inr : List Ev) = 0 := by
  induction am with
  | nil => rfl
  | cons q am ih => rw [List.map_cons, nB_inr, ih]
theorem nC_cards (am : List (Int × Int)) : nC (am.map Sum.inr : List Ev) = am.length := by
  induction am with
  | nil => rfl
  | cons q am ih => simpa [nC, isB] using ih
end S3



set_option Elab.async false
set_option linter.all false
set_option maxRecDepth 100000
set_option maxHeartbeats 4000000
/-! S3n: the places of bills and of cards, the best of all sets. -/
namespace S3
open PySem L2 Mi P20 Sh
def npos (p : Ev → Bool) (evs : List Ev) : List Nat := (List.range evs.length).filter fun k => match evs[k]? with | some e => p e | none => false
theorem npos_cons (p : Ev → Bool) (e : Ev) (r : List Ev) : npos p (e :: r) = (if p e then [0] else []) ++ (npos p r).map Nat.succ := by
  unfold npos
  rw [List.length_cons, List.range_succ_eq_map]
  have e2 : ((List.range r.length).map Nat.succ).filter (fun k => match (e :: r)[k]? with | some e => p e | none => false) = ((List.range r.length).filter fun k => match r[k]? with | some e => p e | none => false).map Nat.succ := by
    rw [List.filter_map]; rfl
  by_cases h : p e = true
  · rw [List.filter_cons_of_pos (by exact h), e2, if_pos h]; rfl
  · rw [List.filter_cons_of_neg (by exact h), e2, if_neg h]; rfl
theorem npos_vals (p : Ev → Bool) : ∀ evs : List Ev, (npos p evs).map (fun k => evs.getD k (.inl 0)) = evs.filter p
  | [] => rfl
  | e :: r => by
    rw [npos_cons, List.map_append, List.map_map]
    have ih := npos_vals p r
    have e1 : (npos p r).map ((fun k => (e :: r).getD k (.inl 0)) ∘ Nat.succ) = r.filter p := by
      rw [← ih]
      apply List.map_congr_left
      intro k _
      rfl
    rw [e1]
    by_cases h : p e = true
    · rw [if_pos h, List.filter_cons_of_pos h]; rfl
    · rw [if_neg h, List.filter_cons_of_neg h]; rfl
theorem npos_mem {p : Ev → Bool} {evs : List Ev} {k : Nat} : k ∈ npos p evs ↔ ∃ e, evs[k]? = some e ∧ p e = true := by
  unfold npos
  rw [List.mem_filter, List.mem_range]
  constructor
  · rintro ⟨h1, h2⟩
    rw [List.getElem?_eq_getElem h1] at h2
    exact ⟨_, List.getElem?_eq_getElem h1, h2⟩
  · rintro ⟨e, h1, h2⟩
    refine ⟨(List.getElem?_eq_some_iff.mp h1).1, ?_⟩
    rw [h1]
    exact h2
theorem npos_up (p : Ev → Bool) (evs : List Ev) : (npos p evs).Pairwise (· < ·) := by
  unfold npos
  exact List.Pairwise.filter _ List.pairwise_lt_range
theorem npos_len (p : Ev → Bool) (evs : List Ev) : (npos p evs).length = (evs.filter p).length := by rw [← npos_vals, List.length_map]
theorem npos_spots : ∀ (evs : List Ev) (i : Int), spotsI i evs = (npos isB evs).map fun k : Nat => i + (k : Int)
  | [], i => rfl
  | e :: r, i => by
    have ih := npos_spots r (i + 1)
    have e1 : (npos isB r).map ((fun k : Nat => i + (k : Int)) ∘ Nat.succ) = spotsI (i + 1) r := by
      rw [ih]
      apply List.map_congr_left
      intro k _
      show i + ((k + 1 : Nat) : Int) = i + 1 + (k : Int)
      omega
    rw [npos_cons, List.map_append, List.map_map, e1]
    cases e with
    | inl x => show i :: spotsI (i + 1) r = _; simp [isB]
    | inr q => show spotsI (i + 1) r = _; simp [isB]
def notB (e : Ev) : Bool := !isB e
def wv (evs : List Ev) (k : Nat) (n : Nat) : Int := match evs[k]? with | some (.inr q) => wor q.1 q.2 n | _ => 0
theorem cut_pos : ∀ (evs : List Ev) (i : Int) (s : List Int), cutSum i evs s = ((npos notB evs).map fun k => wv evs k (s.filter fun d => decide (i + (k : Int) < d)).length).sum
  | [], i, s => rfl
  | e :: r, i, s => by
    have ih := cut_pos r (i + 1) s
    have e1 : (npos notB r).map ((fun k : Nat => wv (e :: r) k (s.filter fun d => decide (i + (k : Int) < d)).length) ∘ Nat.succ) = (npos notB r).map fun k => wv r k (s.filter fun d => decide (i + 1 + (k : Int) < d)).length := by
      apply List.map_congr_left
      intro k _
      show wv (e :: r) (k + 1) (s.filter fun d => decide (i + ((k + 1 : Nat) : Int) < d)).length = _
      rw [show i + ((k + 1 : Nat) : Int) = i + 1 + (k : Int) by omega]
      rfl
    rw [npos_cons, List.map_append, List.map_map, e1, List.sum_append, ← ih]
    cases e with
    | inl x => show cutSum (i + 1) r s = _; simp [isB, notB]
    | inr q =>
      show wor q.1 q.2 _ + cutSum (i + 1) r s = _
      simp [isB, notB, wv]
/-! ### all cards ahead -/
theorem ahead_split : ∀ {evs : List Ev}, (∀ i j, i ∈ npos notB evs → j ∈ npos isB evs → i < j) → ∃ (cm : List (Int × Int)) (bs : List Int), evs = cm.map Sum.inr ++ bs.map Sum.inl
  | [], _ => ⟨[], [], rfl⟩
  | .inr q :: r, h => by
    obtain ⟨cm, bs, e⟩ := ahead_split (evs := r) fun i j hi hj => by
      have := h (i + 1) (j + 1) (by rw [npos_cons]; exact List.mem_append_right _ (List.mem_map.mpr ⟨i, hi, rfl⟩)) (by rw [npos_cons]; exact List.mem_append_right _ (List.mem_map.mpr ⟨j, hj, rfl⟩))
      omega
    exact ⟨q :: cm, bs, by rw [e]; rfl⟩
  | .inl x :: r, h => by
    have hall : ∀ e ∈ r, isB e = true := fun e he => by
      obtain ⟨i, hi⟩ := List.mem_iff_getElem?.mp he
      cases hb : isB e with
      | true => rfl
      | false =>
        have := h (i + 1) 0 (npos_mem.mpr ⟨e, hi, by simp [notB, hb]⟩) (npos_mem.mpr ⟨.inl x, rfl, rfl⟩)
        omega
    have : ∃ bs : List Int, r = bs.map Sum.inl := by
      clear h
      induction r with
      | nil => exact ⟨[], rfl⟩
      | cons e r ih =>
        obtain ⟨bs, hb⟩ := ih fun e he => hall e (List.mem_cons_of_mem _ he)
        cases e with
        | inl y => exact ⟨y :: bs, by rw [hb]; rfl⟩
        | inr q => have := hall _ List.mem_cons_self; cases this
    obtain ⟨bs, hb⟩ := this
    exact ⟨[], x :: bs, by rw [hb]; rfl⟩
theorem filt_bills (cm : List (Int × Int)) (bs : List Int) : ((cm.map Sum.inr ++ bs.map Sum.inl : List Ev)).filter isB = bs.map Sum.inl := by
  rw [List.filter_append, List.filter_eq_nil_iff.mpr, List.filter_eq_self.mpr, List.nil_append]
  · intro e he; obtain ⟨x, _, rfl⟩ := List.mem_map.mp he; rfl
  · intro e he; obtain ⟨x, _, rfl⟩ := List.mem_map.mp he; simp [isB]
theorem filt_cards (cm : List (Int × Int)) (bs : List Int) : ((cm.map Sum.inr ++ bs.map Sum.inl : List Ev)).filter notB = cm.map Sum.inr := by
  rw [List.filter_append, List.filter_eq_self.mpr, List.filter_eq_nil_iff.mpr, List.append_nil]
  · intro e he; obtain ⟨x, _, rfl⟩ := List.mem_map.mp he; simp [isB, notB]
  · intro e he; obtain ⟨x, _, rfl⟩ := List.mem_map.mp he; rfl
theorem asks_ahead {cm : List (Int × Int)} {bs fs : List Int} (hp : fs.Perm bs) (ho : fs.Pairwise (· ≥ ·)) : asks (cm.map Sum.inr ++ bs.map Sum.inl) = (List.range fs.length).map fun k => (fs.take (k + 1)).sum - FF cm (k + 1) := by
  have := asked_mix (ah := cm) (be := []) Am.nil hp ho
  rw [List.map_nil, List.append_nil] at this
  unfold asks
  rw [this]
  unfold dueR
  rw [List.range_succ_eq_map, List.map_cons, List.drop_succ_cons, List.drop_zero, List.map_map]
  rfl
/-! ### the best of all sets -/
def bup (cur : Option Int) (v : Int) : Option Int := match cur with
  | none => some v
  | some m => if m < v then some v else some m
def bst (evs : List Ev) (ss : List (List Int)) (k : Nat) : Option Int := ss.foldl (fun cur s => if s.length = k then bup cur (lv 0 evs s) else cur) none
theorem bst_snoc (evs : List Ev) (ss : List (List Int)) (s : List Int) (k : Nat) : bst evs (ss ++ [s]) k = if s.length = k then bup (bst evs ss k) (lv 0 evs s) else bst evs ss k := by
  unfold bst
  rw [List.foldl_append]
  rfl
theorem bst_spec (evs : List Ev) (k : Nat) (ss : List (List Int)) : (∀ s ∈ ss, s.length = k → ∃ m, bst evs ss k = some m ∧ lv 0 evs s ≤ m) ∧ ∀ m, bst evs ss k = some m → ∃ s ∈ ss, s.length = k ∧ m = lv 0 evs s := by
  induction hn : ss.length generalizing ss with
  | zero =>
    have : ss = [] := List.length_eq_zero_iff.mp hn
    subst this
    exact ⟨(fun s hs => by cases hs), fun m hm => by cases hm⟩
  | succ n ih =>
    obtain ⟨ys, y, rfl⟩ : ∃ ys y, ss = ys ++ [y] := by
      rcases List.eq_nil_or_concat ss with h | ⟨p, l, h⟩
      · rw [h] at hn; simp at hn
      · exact ⟨p, l, by simpa using h⟩
    obtain ⟨i1, i2⟩ := ih ys (by simp at hn; exact hn)
    rw [bst_snoc]
    by_cases hy : y.length = k
    · rw [if_pos hy]
      cases hb : bst evs ys k with
      | none =>
        refine ⟨fun s hs hk => ?_, fun m hm => ?_⟩
        · rcases List.mem_append.mp hs with hs | hs
          · obtain ⟨m, hm, _⟩ := i1 s hs hk
            rw [hb] at hm; cases hm
          · rw [List.mem_singleton.mp hs]; exact ⟨_, rfl, Int.le_refl _⟩
        · have : m = lv 0 evs y := (Option.some.inj hm).symm
          exact ⟨y, by simp, hy, this⟩
      | some m0 =>
        show _ ∧ ∀ m, (if m0 < lv 0 evs y then some (lv 0 evs y) else some m0) = some m → _
        have hmax : ∃ M, (if m0 < lv 0 evs y then some (lv 0 evs y) else some m0) = some M ∧ m0 ≤ M ∧ lv 0 evs y ≤ M ∧ (M = m0 ∨ M = lv 0 evs y) := by
          by_cases z : m0 < lv 0 evs y
          · exact ⟨_, if_pos z, by omega, by omega, .inr rfl⟩
          · exact ⟨_, if_neg z, by omega, by omega, .inl rfl⟩
        obtain ⟨M, e1, e2, e3, e4⟩ := hmax
        refine ⟨fun s hs hk => ⟨M, e1, ?_⟩, fun m hm => ?_⟩
        · rcases List.mem_append.mp hs with hs | hs
          · obtain ⟨m, hm, hle⟩ := i1 s hs hk
            rw [hb] at hm; cases hm; omega
          · rw [List.mem_singleton.mp hs]; exact e3
        · rw [e1] at hm
          cases hm
          rcases e4 with rfl | rfl
          · obtain ⟨s, hs, h⟩ := i2 _ hb
            exact ⟨s, List.mem_append_left _ hs, h⟩
          · exact ⟨y, by simp, hy, rfl⟩
    · rw [if_neg hy]
      refine ⟨fun s hs hk => ?_, fun m hm => ?_⟩
      · rcases List.mem_append.mp hs with hs | hs
        · exact i1 s hs hk
        · rw [List.mem_singleton.mp hs] at hk; exact absurd hk hy
      · obtain ⟨s, hs, h⟩ := i2 m hm
        exact ⟨s, List.mem_append_left _ hs, h⟩
theorem bst_all {evs : List Ev} {k : Nat} (hk : k ≤ nB evs) : bst evs (subsets (spotsI 0 evs)) k = some ((asked 0 evs).getD k (0, [])).1 := by
  have T := asked_tab evs 0
  have hkl : k < (asked 0 evs).length := by rw [T.len]; omega
  have eg : (asked 0 evs)[k]? = some ((asked 0 evs).getD k (0, [])) := by rw [List.getD_eq_getElem?_getD, List.getElem?_eq_getElem hkl]; rfl
  generalize hq : (asked 0 evs).getD k (0, []) = q at eg
  obtain ⟨a, ds⟩ := q
  obtain ⟨t1, t2, t3⟩ := T.at_ k a ds eg
  obtain ⟨b1, b2⟩ := bst_spec evs k (subsets (spotsI 0 evs))
  obtain ⟨m, hm, hle⟩ := b1 ds ((mem_subsets _ _).mpr t2.sub) t1
  rw [← t2.val] at hle
  rw [hm]
  congr 1
  show m = a
  obtain ⟨s, hs, hsl, rfl⟩ := b2 m hm
  have := t3 s _ (sel_of_sub evs 0 s ((mem_subsets _ _).mp hs)) hsl
  omega
end S3


set_option Elab.async false
set_option linter.all false
set_option maxRecDepth 100000
set_option maxHeartbeats 4000000
/-! S3o: what a course asks, by the third family's own sums. -/
namespace S3
open PySem L2 Mi P20 Sh
def opI : Option Int → D
  | none => .non
  | some x => .int x
def setD (s : List Int) : D := .lst (s.map D.int)
theorem at_last {α : Type} {l : List α} {x : α} : atI (l ++ [x]) (-1) = some x := by
  unfold atI ixN
  simp
  rw [if_pos (by omega), show (-1 + ((l.length : Int) + 1)).toNat = l.length by omega]
  simp
theorem srt_ints (b : Bool) (ns : List Int) : srtO b [.lst (ns.map D.int)] = some ((srtI b ns).map D.int) := by
  show (intsD (ns.map D.int)).map _ = _
  rw [intsD_map]
  rfl
theorem eqN0 {l : List Nat} : eqMD (.lst (l.map fun k : Nat => D.int (k : Int))) (.lst []) = some (.bl (decide (l = []))) := by
  have e : l.map (fun k : Nat => D.int (k : Int)) = (l.map fun k : Nat => (k : Int)).map D.int := by rw [List.map_map]; rfl
  rw [e, s_eqL0]
  congr 2
  simp
theorem asks_ok {evs : List Ev} (h : EvsOk evs) {u : PuS} {P : D → PuS → Prop} (hp : P (.lst ((asks evs).map D.int)) u) : Ok (mf__law_asks [.lst (evs.map evR)]) u P := by
  have hl := h.len
  have hb := h.bills
  have hix : ∀ (k : Nat) e, evs[k]? = some e → atI (evs.map evR) (k : Int) = some (evR e) := fun k e h => at_nat (by rw [List.getElem?_map, h]; rfl)
  have hity : ∀ e, isiD [evR e, .ty "int"] = some (.bl (isB e)) := fun e => by cases e <;> rfl
  unfold mf__law_asks mb__law_asks
  rw [ok_fn]
  have hnl : ∀ p, (npos p evs).length ≤ 100 := fun p => by rw [npos_len]; have := List.length_filter_le p evs; omega
  refine seq_go fun K R hK hR => ?_
  simp [mBorLs]
  refine ⟨by omega, by rw [rngD_len]; omega, ?_⟩
  refine ok_lcr (fun i => [.sh (.lst (evs.map evR)), .un, .un, .un, .un, .un, .un, .un, .un, .un, .sh (.int (0 + (i : Nat)))]) (fun k => match evs[k]? with | some e => isB e | none => false) (fun i => .int (i : Nat)) ?_ ?_ ?_ ?_
  · intro i hi; rfl
  · intro i hi
    unfold ct__law_asks_1
    have ei : evs[i]? = some evs[i] := List.getElem?_eq_getElem hi
    simp [hix i _ ei, hity]
    rw [ei]
  · intro i hi _; simp
  refine hK _ _ ?_
  clear hK hR K R
  refine seq_go fun K R hK hR => ?_
  simp [mBorLs]
  refine ⟨by omega, by rw [rngD_len]; omega, ?_⟩
  refine ok_lcr (fun i => [.sh (.lst (evs.map evR)), .sh (.lst ((npos isB evs).map fun i => .int (i : Nat))), .un, .un, .un, .un, .un, .un, .un, .un, .sh (.int (0 + (i : Nat)))]) (fun k => match evs[k]? with | some e => notB e | none => false) (fun i => .int (i : Nat)) ?_ ?_ ?_ ?_
  · intro i hi; rfl
  · intro i hi
    unfold ct__law_asks_2
    have ei : evs[i]? = some evs[i] := List.getElem?_eq_getElem hi
    simp [hix i _ ei, hity]
    rw [ei]
    simp [notB]
  · intro i hi _; simp
  refine hK _ _ ?_
  clear hK hR K R
  show Ok (mSeq _ _ [.sh (.lst (evs.map evR)), .sh (.lst ((npos isB evs).map fun i => .int (i : Nat))), .sh (.lst ((npos notB evs).map fun i => .int (i : Nat))), .un, .un, .un, .un, .un, .un, .un, .un]) u _
  have r1 : (∀ i j, i ∈ npos notB evs → j ∈ npos isB evs → i < j) → ∀ (Q : Fl → PuS → Prop), (∀ d u', P d u' → Q (.rt d) u') → Ok (mSeq (mAsg (mTup (mCons (mUn revD (mFz (mCBO (srtO false) (mCons (mFz (mLcO [10] (mIany (mVar 1)) (mGn 10) (mYes) (mBin ixD (mVar 0) (mVar 10)))) (mNil))))) (mCons (mFz (mLcO [10] (mIany (mVar 2)) (mGn 10) (mYes) (mBin ixD (mVar 0) (mVar 10)))) (mNil)))) (mGt 2 (mGcons (mGn 3) (mGcons (mGn 4) (mGnil))))) (mRet (mFz (mLcO [10] (mIof rng1 (mCons (mCB lenD (mCons (mVar 3) (mNil))) (mNil))) (mGn 10) (mYes) (ce__law_asks_3)))) [.sh (.lst (evs.map evR)), .sh (.lst ((npos isB evs).map fun i => .int (i : Nat))), .sh (.lst ((npos notB evs).map fun i => .int (i : Nat))), .un, .un, .un, .un, .un, .un, .un, .un]) u Q := by
    intro hsp Q hQ
    obtain ⟨cm, bs, e0⟩ := ahead_split hsp
    have hv1 := npos_vals isB evs
    have hv2 := npos_vals notB evs
    rw [e0, filt_bills, ← e0] at hv1
    rw [e0, filt_cards, ← e0] at hv2
    have hvg : ∀ p, ∀ k ∈ npos p evs, atI (evs.map evR) (k : Int) = some (evR (evs.getD k (.inl 0))) := fun p k hk => by
      obtain ⟨e, h1, _⟩ := npos_mem.mp hk
      rw [List.getD_eq_getElem?_getD, h1]
      exact hix k e h1
    refine seq_go fun K R hK hR => ?_
    simp
    refine ⟨by have := hnl isB; omega, ?_⟩
    refine ok_lca (fun k : Nat => [.sh (.lst (evs.map evR)), .sh (.lst ((npos isB evs).map fun i => .int (i : Nat))), .sh (.lst ((npos notB evs).map fun i => .int (i : Nat))), .un, .un, .un, .un, .un, .un, .un, .sh (.int k)]) (fun k => evR (evs.getD k (.inl 0))) (fun k hk => rfl) (fun k hk => ?_) ?_
    · simp [hvg isB k hk]
    have e1 : (npos isB evs).map (fun k => evR (evs.getD k (.inl 0))) = bs.map D.int := by
      have := congrArg (List.map evR) hv1
      rw [List.map_map, List.map_map] at this
      exact this
    have e2 : (npos notB evs).map (fun k => evR (evs.getD k (.inl 0))) = cm.map prD := by
      have := congrArg (List.map evR) hv2
      rw [List.map_map, List.map_map] at this
      exact this
    rw [e1, srt_ints]
    have hpm := srtI_perm false bs
    have hor : (srtI false bs).Pairwise (· ≤ ·) := by
      have := srtI_ord false bs
      unfold OrdB at this
      simpa using this
    generalize srtI false bs = gs at hpm hor
    have hpm2 : gs.reverse.Perm bs := (List.reverse_perm gs).trans hpm
    have hor2 : gs.reverse.Pairwise (· ≥ ·) := List.pairwise_reverse.mpr hor
    rw [e0, asks_ahead hpm2 hor2] at hp
    have hgl : gs.length ≤ 100 := by rw [hpm.length_eq]; have := congrArg List.length e0; simp at this; omega
    have hcl : cm.length ≤ 100 := by have := congrArg List.length e0; simp at this; omega
    refine ⟨_, rfl, ?_⟩
    refine ⟨by have := hnl notB; omega, ?_⟩
    refine ok_lca (fun k : Nat => [.sh (.lst (evs.map evR)), .sh (.lst ((npos isB evs).map fun i => .int (i : Nat))), .sh (.lst ((npos notB evs).map fun i => .int (i : Nat))), .un, .un, .un, .un, .un, .un, .un, .sh (.int k)]) (fun k => evR (evs.getD k (.inl 0))) (fun k hk => rfl) (fun k hk => ?_) ?_
    · simp [hvg notB k hk]
    rw [e2]
    have er : (gs.map D.int).reverse = gs.reverse.map D.int := by rw [List.map_reverse]
    rw [er]
    rw [← List.length_reverse] at hgl
    generalize gs.reverse = fs at hp hgl hpm2 hor2
    refine hK _ _ ?_
    clear hK hR K R
    simp
    refine ⟨by omega, by rw [rngD_len]; omega, ?_⟩
    refine ok_lcra (fun i => [.sh (.lst (evs.map evR)), .sh (.lst ((npos isB evs).map fun i => .int (i : Nat))), .sh (.lst ((npos notB evs).map fun i => .int (i : Nat))), .sh (.lst (fs.map D.int)), .sh (.lst (cm.map prD)), .un, .un, .un, .un, .un, .sh (.int (0 + (i : Nat)))]) (fun i => .int ((fs.take (i + 1)).sum - FF cm (i + 1))) (fun i hi => rfl) (fun i hi => ?_) ?_
    · unfold ce__law_asks_3
      have ec : cutD (fs.map D.int) none (some ((i : Int) + 1)) = (fs.take (i + 1)).map D.int := by rw [show (i : Int) + 1 = ((i + 1 : Nat) : Int) by omega, cut_to, List.map_take]
      simp [ec]
      rw [← List.map_take, s_sumI]
      refine ⟨_, rfl, ?_⟩
      rw [show (i : Int) + 1 = ((i + 1 : Nat) : Int) by omega]
      refine power_ok (by omega) (by omega) ?_
      simp
    refine hQ _ _ ?_
    rw [List.map_map] at hp
    exact hp
  refine seq_go fun K R hK hR => ?_
  simp only [ok_ifS, ok_or, ok_B, ok_bin, ok_un, ok_Fz, ok_lstO, ok_nil, ok_var, ok_C, s_vSh, List.getElem?_cons_succ, List.getElem?_cons_zero, Option.some.injEq, exists_eq_left', eqN0, onB_bl, List.length_nil, Nat.zero_le, true_and]
  have fin1 : (∀ i j, i ∈ npos notB evs → j ∈ npos isB evs → i < j) → Ok (mSeq (mAsg (mTup (mCons (mUn revD (mFz (mCBO (srtO false) (mCons (mFz (mLcO [10] (mIany (mVar 1)) (mGn 10) (mYes) (mBin ixD (mVar 0) (mVar 10)))) (mNil))))) (mCons (mFz (mLcO [10] (mIany (mVar 2)) (mGn 10) (mYes) (mBin ixD (mVar 0) (mVar 10)))) (mNil)))) (mGt 2 (mGcons (mGn 3) (mGcons (mGn 4) (mGnil))))) (mRet (mFz (mLcO [10] (mIof rng1 (mCons (mCB lenD (mCons (mVar 3) (mNil))) (mNil))) (mGn 10) (mYes) (ce__law_asks_3)))) [.sh (.lst (evs.map evR)), .sh (.lst ((npos isB evs).map fun i => .int (i : Nat))), .sh (.lst ((npos notB evs).map fun i => .int (i : Nat))), .un, .un, .un, .un, .un, .un, .un, .un]) u fun f u1 => match f with | Fl.nx ρ1 => K ρ1 u1 | f' => R f' u1 := fun hs => r1 hs _ fun d u' hd => hR _ _ hd
  refine brd (fun z => ?_) (fun z => ?_)
  · simp only [br_t]
    exact fin1 fun i j _ hj => by rw [z] at hj; cases hj
  refine brd (fun z2 => ?_) (fun z2 => ?_)
  · simp only [br_t]
    exact fin1 fun i j hi _ => by rw [z2] at hi; cases hi
  obtain ⟨c, init, ec⟩ : ∃ c init, npos notB evs = init ++ [c] := by
    rcases List.eq_nil_or_concat (npos notB evs) with h | ⟨p, l, h⟩
    · exact absurd h z2
    · exact ⟨l, p, by simpa using h⟩
  obtain ⟨f, rest, ef⟩ : ∃ f rest, npos isB evs = f :: rest := by
    cases hh : npos isB evs with
    | nil => exact absurd hh z
    | cons a b => exact ⟨a, b, rfl⟩
  have hc : ixD (.lst ((npos notB evs).map fun i => D.int (i : Nat))) (.int (-1)) = some (.int c) := by
    rw [ec, List.map_append]
    exact at_last
  have hf : ixD (.lst ((npos isB evs).map fun i => D.int (i : Nat))) (.int 0) = some (.int f) := by
    rw [ef]
    exact at_nat (k := 0) rfl
  have hneg : negD (.int 1) = some (.int (-1)) := rfl
  simp only [hneg, hc, hf, Option.some.injEq, exists_eq_left', s_lt, onB_bl]
  refine brd (fun z3 => ?_) (fun z3 => ?_)
  · refine fin1 fun i j hi hj => ?_
    have hi' : i ≤ c := by
      have hu := npos_up notB evs
      rw [ec] at hi hu
      rcases List.mem_append.mp hi with h | h
      · have := (List.pairwise_append.mp hu).2.2 i h c (by simp)
        omega
      · rw [List.mem_singleton.mp h]; omega
    have hj' : f ≤ j := by
      have hu := npos_up isB evs
      rw [ef] at hj hu
      rcases List.mem_cons.mp hj with h | h
      · omega
      · have := (List.pairwise_cons.mp hu).1 j h; omega
    omega
  rw [ok_next]
  refine hK _ _ ?_
  clear hK hR K R fin1 r1 hneg hc hf ec ef
  have hsp : (npos isB evs).map (fun i : Nat => D.int (i : Int)) = (spotsI 0 evs).map D.int := by
    rw [npos_spots evs 0, List.map_map]
    apply List.map_congr_left
    intro k _
    show D.int (k : Int) = D.int (0 + (k : Int))
    rw [Int.zero_add]
  have hsl := spotsI_len evs 0
  have hnn : (npos isB evs).length = nB evs := by rw [npos_len]; rfl
  refine seq_go fun K R hK hR => ?_
  simp
  refine hK _ _ ?_
  clear hK hR K R
  refine seq_cut (fun ρ u' => u' = u ∧ ∃ a, ρ = [.sh (.lst (evs.map evR)), .sh (.lst ((npos isB evs).map fun i => .int (i : Nat))), .sh (.lst ((npos notB evs).map fun i => .int (i : Nat))), .un, .un, .sh (.lst ((subsets (spotsI 0 evs)).map setD)), a, .un, .un, .un, .un]) ?_ ?_
  · simp
    rw [hsp]
    refine ok_list ((spotsI 0 evs).map D.int) (fun k ρ u' => u' = u ∧ ∃ a, ρ = [.sh (.lst (evs.map evR)), .sh (.lst ((npos isB evs).map fun i => .int (i : Nat))), .sh (.lst ((npos notB evs).map fun i => .int (i : Nat))), .un, .un, .sh (.lst ((subsets ((spotsI 0 evs).take k)).map setD)), a, .un, .un, .un, .un]) ?_ ?_ _ _ ⟨rfl, .un, by rw [hsp]; rfl⟩
    · rintro k d ρ u' e ⟨rfl, a, rfl⟩
      rw [List.getElem?_map] at e
      cases e2 : (spotsI 0 evs)[k]? with
      | none => rw [e2] at e; cases e
      | some x =>
        rw [e2] at e
        cases e
        have hk : k < (spotsI 0 evs).length := (List.getElem?_eq_some_iff.mp e2).1
        have et : (spotsI 0 evs).take (k + 1) = (spotsI 0 evs).take k ++ [x] := by rw [List.take_succ, e2]; rfl
        have hsz : (subsets ((spotsI 0 evs).take k)).length ≤ 4096 := by
          rw [subsets_len, List.length_take, Nat.min_eq_left (by omega)]
          exact Nat.pow_le_pow_right (n := 2) (by decide) (show k ≤ 12 by omega)
        have hel : ∀ s ∈ subsets ((spotsI 0 evs).take k), s.length ≤ 12 := fun s hs => by
          have := ((mem_subsets _ _).mp hs).length_le
          rw [List.length_take] at this
          omega
        rw [et, subsets_snoc]
        generalize subsets ((spotsI 0 evs).take k) = ss at hsz hel ⊢
        refine ⟨_, rfl, ?_⟩
        unfold lb__law_asks_5
        refine st_go fun R hR => ?_
        simp
        refine ⟨by omega, ?_⟩
        refine ok_lca (fun s => [.sh (.lst (evs.map evR)), .sh (.lst ((npos isB evs).map fun i => .int (i : Nat))), .sh (.lst ((npos notB evs).map fun i => .int (i : Nat))), .un, .un, .sh (.lst (ss.map setD)), .sh (.int x), .un, .sh (setD s), .un, .un]) (fun s => setD (s ++ [x])) (fun s hs => rfl) (fun s hs => ?_) ?_
        · unfold ce__law_asks_4
          have ea : addD (setD s) (.lst [.int x]) = some (setD (s ++ [x])) := by
            have := hel s hs
            show (if _ then some (D.lst (s.map D.int ++ [D.int x])) else none) = _
            rw [if_pos (by simp; omega)]
            unfold setD
            rw [List.map_append]; rfl
          simp [ea]
        have ea : addD (.lst (ss.map setD)) (.lst (ss.map fun s => setD (s ++ [x]))) = some (.lst ((ss ++ ss.map fun s => s ++ [x]).map setD)) := by
          rw [s_addL (by simp; omega), List.map_append, List.map_map]; rfl
        simp only [ea]
        exact ⟨_, rfl, hR _ _ ⟨rfl, _, rfl⟩⟩
    · rintro ρ u' ⟨rfl, a, rfl⟩
      refine ⟨rfl, a, ?_⟩
      rw [List.take_of_length_le (by simp), hsp]
  rintro ρ u' ⟨rfl, a, rfl⟩
  have hsz : (subsets (spotsI 0 evs)).length ≤ 4096 := by
    rw [subsets_len, hsl]
    exact Nat.pow_le_pow_right (n := 2) (by decide) (show nB evs ≤ 12 by omega)
  have hel : ∀ s ∈ subsets (spotsI 0 evs), s.length ≤ nB evs ∧ ∀ x ∈ s, ∃ (k : Nat) (b : Int), x = (k : Int) ∧ evs[k]? = some (.inl b) ∧ bAt evs x = b := fun s hs => by
    have hsub := (mem_subsets _ _).mp hs
    refine ⟨by rw [← hsl]; exact hsub.length_le, fun x hx => ?_⟩
    have hx' := hsub.subset hx
    rw [npos_spots] at hx'
    obtain ⟨k, hk, rfl⟩ := List.mem_map.mp hx'
    obtain ⟨e, ek, hk2⟩ := npos_mem.mp hk
    cases e with
    | inr q => cases hk2
    | inl b =>
      refine ⟨k, b, by omega, ek, ?_⟩
      unfold bAt
      rw [show ((0 : Int) + (k : Int)).toNat = k by omega, ek]
  have hfin : P (.lst (((List.range (nB evs + 1)).map fun k => opI (bst evs (subsets (spotsI 0 evs)) k)).drop 1)) u' := by
    have : ((List.range (nB evs + 1)).map fun k => opI (bst evs (subsets (spotsI 0 evs)) k)) = ((asked 0 evs).map Prod.fst).map D.int := by
      apply List.ext_getElem?
      intro k
      by_cases hk : k < nB evs + 1
      · rw [List.getElem?_map, List.getElem?_range hk, List.getElem?_map, List.getElem?_map, List.getElem?_eq_getElem (by rw [asked_len]; omega)]
        simp only [Option.map_some]
        rw [bst_all (by omega), List.getD_eq_getElem?_getD, List.getElem?_eq_getElem (by rw [asked_len]; omega)]
        rfl
      · rw [List.getElem?_eq_none (by simp; omega), List.getElem?_eq_none (by simp [asked_len]; omega)]
    rw [this, ← List.map_drop]; exact hp
  generalize hgs : subsets (spotsI 0 evs) = ss at hsz hel hfin ⊢
  refine seq_go fun K R hK hR => ?_
  have em : repO (.lst [D.non]) (.int ((nB evs : Int) + 1)) = some ((List.range (nB evs + 1)).map fun k => opI (bst evs [] k)) := by
    have e1 : ∀ n : Nat, (List.replicate n [D.non]).flatten = List.replicate n D.non := fun n => by
      induction n with
      | zero => rfl
      | succ n ih => rw [List.replicate_succ, List.flatten_cons, ih, List.replicate_succ]; rfl
    have e2 : ((List.range (nB evs + 1)).map fun k => opI (bst evs [] k)) = List.replicate (nB evs + 1) D.non := by
      apply List.ext_getElem?
      intro k
      rw [List.getElem?_map, List.getElem?_replicate]
      by_cases hk : k < nB evs + 1
      · rw [if_pos hk, List.getElem?_range hk]; rfl
      · rw [if_neg hk, List.getElem?_eq_none (by simp; omega)]; rfl
    have := e1 (nB evs + 1)
    rw [e2]
    simp only [repO]
    rw [show ((nB evs : Int) + 1).toNat = nB evs + 1 by omega, this]
    exact if_pos (by simp; omega)
  simp [hnn, em]
  refine hK _ _ ?_
  clear hK hR K R
  refine seq_cut (fun ρ u1 => u1 = u' ∧ ∃ a b c d, ρ = [.sh (.lst (evs.map evR)), .sh (.lst ((npos isB evs).map fun i => .int (i : Nat))), .sh (.lst ((npos notB evs).map fun i => .int (i : Nat))), .un, .un, .sh (.lst (ss.map setD)), a, (.ow ((List.range (nB evs + 1)).map fun j => opI (bst evs ss j))), b, c, d]) ?_ ?_
  · simp
    refine ok_list (ss.map setD) (fun k ρ u1 => u1 = u' ∧ ∃ a b c d, ρ = [.sh (.lst (evs.map evR)), .sh (.lst ((npos isB evs).map fun i => .int (i : Nat))), .sh (.lst ((npos notB evs).map fun i => .int (i : Nat))), .un, .un, .sh (.lst (ss.map setD)), a, (.ow ((List.range (nB evs + 1)).map fun j => opI (bst evs (ss.take k) j))), b, c, d]) ?_ ?_ _ _ ⟨rfl, a, .un, .un, .un, rfl⟩
    · rintro k dd ρ u1 e ⟨rfl, a, b, c, d, rfl⟩
      rw [List.getElem?_map] at e
      cases e2 : ss[k]? with
      | none => rw [e2] at e; cases e
      | some s =>
        rw [e2] at e
        cases e
        obtain ⟨hs1, hs2⟩ := hel s (List.mem_of_getElem? e2)
        have et : ss.take (k + 1) = ss.take k ++ [s] := by rw [List.take_succ, e2]; rfl
        rw [et]
        generalize ss.take k = done
        refine ⟨_, rfl, ?_⟩
        refine st_go fun R0 hR0 => ?_
        unfold lb__law_asks_7
        refine seq_go fun K R hK hR => ?_
        simp [setD]
        refine ⟨by omega, ?_⟩
        refine ok_lca (fun x => [.sh (.lst (evs.map evR)), .sh (.lst ((npos isB evs).map fun i => .int (i : Nat))), .sh (.lst ((npos notB evs).map fun i => .int (i : Nat))), .un, .un, .sh (.lst (ss.map setD)), .sh (.int x), (.ow ((List.range (nB evs + 1)).map fun j => opI (bst evs done j))), .sh (setD s), c, d]) (fun x => .int (bAt evs x)) (fun x hx => rfl) (fun x hx => ?_) ?_
        · obtain ⟨n, bb, rfl, h3, h4⟩ := hs2 x hx
          simp [hix n _ h3, h4]
          rfl
        have es1 : (s.map fun x => D.int (bAt evs x)) = (s.map (bAt evs)).map D.int := by rw [List.map_map]; rfl
        rw [es1]
        refine ⟨_, s_sumI, hK _ _ ?_⟩
        clear hK hR K R
        have hlv : lv 0 evs s = (s.map (bAt evs)).sum - ((npos notB evs).map fun k => wv evs k (s.filter fun d => decide ((k : Int) < d)).length).sum := by
          unfold lv
          rw [cut_pos]
          simp
        refine seq_cut (fun ρ u2 => u2 = u1 ∧ ∃ d, ρ = [.sh (.lst (evs.map evR)), .sh (.lst ((npos isB evs).map fun i => .int (i : Nat))), .sh (.lst ((npos notB evs).map fun i => .int (i : Nat))), .un, .un, .sh (.lst (ss.map setD)), a, (.ow ((List.range (nB evs + 1)).map fun j => opI (bst evs done j))), .sh (setD s), .sh (.int (lv 0 evs s)), d]) ?_ ?_
        · simp
          refine ok_list ((npos notB evs).map fun i => D.int (i : Nat)) (fun j ρ u2 => u2 = u1 ∧ ∃ d, ρ = [.sh (.lst (evs.map evR)), .sh (.lst ((npos isB evs).map fun i => .int (i : Nat))), .sh (.lst ((npos notB evs).map fun i => .int (i : Nat))), .un, .un, .sh (.lst (ss.map setD)), a, (.ow ((List.range (nB evs + 1)).map fun j => opI (bst evs done j))), .sh (setD s), .sh (.int ((s.map (bAt evs)).sum - (((npos notB evs).take j).map fun k => wv evs k (s.filter fun d => decide ((k : Int) < d)).length).sum)), d]) ?_ ?_ _ _ ⟨rfl, d, by simp [setD]⟩
          · rintro j dd ρ u2 e ⟨rfl, d, rfl⟩
            rw [List.getElem?_map] at e
            cases e3 : (npos notB evs)[j]? with
            | none => rw [e3] at e; cases e
            | some n =>
              rw [e3] at e
              cases e
              obtain ⟨ev, en, hnb⟩ := npos_mem.mp (List.mem_of_getElem? e3)
              have et : (npos notB evs).take (j + 1) = (npos notB evs).take j ++ [n] := by rw [List.take_succ, e3]; rfl
              rw [et, List.map_append, List.sum_append]
              generalize (((npos notB evs).take j).map fun k => wv evs k (s.filter fun d => decide ((k : Int) < d)).length).sum = T0
              generalize (s.map (bAt evs)).sum = S0
              refine ⟨_, rfl, ?_⟩
              refine st_go fun R1 hR1 => ?_
              unfold lb__law_asks_6
              have hx := hix n _ en
              cases ev with
              | inl bb => cases hnb
              | inr q =>
                have ewv : wv evs n (s.filter fun d => decide ((n : Int) < d)).length = wor q.1 q.2 (s.filter fun d => decide ((n : Int) < d)).length := by
                  unfold wv; rw [en]
                simp [hx, setD]
                refine ⟨by omega, ?_⟩
                refine ok_lcl (fun x => [.sh (.lst (evs.map evR)), .sh (.lst ((npos isB evs).map fun i => .int (i : Nat))), .sh (.lst ((npos notB evs).map fun i => .int (i : Nat))), .un, .un, .sh (.lst (ss.map setD)), .sh (.int x), (.ow ((List.range (nB evs + 1)).map fun j => opI (bst evs done j))), .sh (.lst (s.map D.int)), .sh (.int (S0 - T0)), .sh (.int n)]) (fun x => decide ((n : Int) < x)) (fun x => .int x) (fun x hx => rfl) (fun x hx => ?_) (fun x hx _ => ?_) ?_
                · simp
                · simp
                have hfl : (s.filter fun x => decide ((n : Int) < x)).length ≤ 12 := by
                  have := List.length_filter_le (fun x => decide ((n : Int) < x)) s
                  omega
                simp
                refine lworth_ok (q := q) (by omega) ?_
                refine ⟨_, s_sub, hR1 _ _ ⟨rfl, .sh (.int n), ?_⟩⟩
                simp [setD, ewv]
                omega
          · rintro ρ u2 ⟨rfl, d, rfl⟩
            refine ⟨rfl, d, ?_⟩
            rw [List.take_of_length_le (by simp), ← hlv]
        rintro ρ u2 ⟨rfl, d, rfl⟩
        have hlen : ((List.range (nB evs + 1)).map fun j => opI (bst evs done j)).length = nB evs + 1 := by simp
        have hat : atI ((List.range (nB evs + 1)).map fun j => opI (bst evs done j)) (s.length : Int) = some (opI (bst evs done s.length)) := at_nat (by rw [List.getElem?_map, List.getElem?_range (by omega)]; rfl)
        have hput : ixN ((List.range (nB evs + 1)).map fun j => opI (bst evs done j)).length (s.length : Int) = some s.length := by
          unfold ixN
          rw [if_pos (by omega), if_pos (by rw [hlen]; omega)]
          rfl
        have hset : ∀ w : Int, bup (bst evs done s.length) (lv 0 evs s) = some w → ((List.range (nB evs + 1)).map fun j => opI (bst evs done j)).set s.length (.int w) = (List.range (nB evs + 1)).map fun j => opI (bst evs (done ++ [s]) j) := fun w hw => by
          apply List.ext_getElem?
          intro j
          by_cases hj : j < nB evs + 1
          · rw [List.getElem?_map, List.getElem?_range hj]
            simp only [Option.map_some, bst_snoc]
            by_cases ej : s.length = j
            · subst ej
              rw [if_pos rfl, hw, List.getElem?_set_self (by rw [hlen]; exact hj)]
              rfl
            · rw [if_neg ej, List.getElem?_set_ne ej, List.getElem?_map, List.getElem?_range hj]
              rfl
          · rw [List.getElem?_eq_none (by simp; omega), List.getElem?_eq_none (by simp; omega)]
        have hsame : ∀ m : Int, bst evs done s.length = some m → ¬ m < lv 0 evs s → ((List.range (nB evs + 1)).map fun j => opI (bst evs done j)) = (List.range (nB evs + 1)).map fun j => opI (bst evs (done ++ [s]) j) := fun m hm hle => by
          apply List.map_congr_left
          intro j _
          rw [bst_snoc]
          by_cases ej : s.length = j
          · subst ej
            rw [if_pos rfl, hm]
            show _ = opI (if m < lv 0 evs s then some (lv 0 evs s) else some m)
            rw [if_neg hle]
          · rw [if_neg ej]
        have lens : lenD [setD s] = some (.int s.length) := by unfold setD; simp
        generalize hfd : ((List.range (nB evs + 1)).map fun j => opI (bst evs done j)) = fd at hat hput hset hsame hlen ⊢
        cases hbs : bst evs done s.length with
        | none =>
          rw [hbs] at hat hset
          have e5 : isD (opI none) .non = some (.bl true) := rfl
          simp [lens, hat, e5]
          rw [hput]
          simp
          exact hR0 _ _ ⟨rfl, _, _, _, _, by rw [hset _ rfl]⟩
        | some m =>
          rw [hbs] at hat hset
          have e5 : isD (.int m) .non = some (.bl false) := rfl
          have e6 : opI (some m) = .int m := rfl
          simp [lens, hat, e5, e6]
          refine brd (fun z => ?_) (fun z => ?_)
          · rw [hput]
            simp
            exact hR0 _ _ ⟨rfl, _, _, _, _, by rw [hset _ (if_pos z)]⟩
          · exact hR0 _ _ ⟨rfl, _, _, _, _, by rw [← hsame m hbs z]⟩
    · rintro ρ u1 ⟨rfl, a, b, c, d, rfl⟩
      refine ⟨rfl, a, b, c, d, ?_⟩
      rw [List.take_of_length_le (by simp)]
  · rintro ρ u1 ⟨rfl, a, b, c, d, rfl⟩
    simp
    rw [show (1 : Int) = ((1 : Nat) : Int) from rfl, cut_from]
    exact hfin
end S3


set_option Elab.async false
set_option linter.all false
set_option maxRecDepth 100000
set_option maxHeartbeats 4000000
/-! S3p: names, the pot of a number, the least raise. -/
namespace S3
open PySem L2 Mi P20 Sh
@[reducible] def dns : List Str := ["c0", "c1", "c2", "c3", "c4", "c5", "c6", "c7", "c8", "c9", "c10", "c11"]
theorem dns_nm : ∀ x ∈ dns, IsNm x := by
  intro x hx u
  simp only [dns, List.mem_cons, List.not_mem_nil, or_false] at hx
  rcases hx with rfl | rfl | rfl | rfl | rfl | rfl | rfl | rfl | rfl | rfl | rfl | rfl <;> rfl
def dwal (am : List (Int × Int)) : List (Str × (Int × Int)) := dns.zip am
theorem dwal_snd {am : List (Int × Int)} (h : am.length ≤ 12) : (dwal am).map Prod.snd = am := by
  unfold dwal
  rw [List.map_snd_zip]
  simpa using h
theorem dwal_len {am : List (Int × Int)} (h : am.length ≤ 12) : (dwal am).length = am.length := by
  unfold dwal
  simp
  omega
theorem dwal_fst {am : List (Int × Int)} (h : am.length ≤ 12) : (dwal am).map Prod.fst = dns.take am.length := by
  apply List.ext_getElem?
  intro i
  unfold dwal
  by_cases hi : i < am.length
  · rw [List.getElem?_take_of_lt hi, List.getElem?_map, List.getElem?_eq_getElem (by simp; omega)]
    simp
  · rw [List.getElem?_eq_none (by simp; omega), List.getElem?_eq_none (by simp; omega)]
theorem dwal_nms {am : List (Int × Int)} (h : am.length ≤ 12) : Nms (dwal am) := by
  refine ⟨by rw [dwal_len h]; exact h, ?_, fun p hp => ?_⟩
  · rw [dwal_fst h]
    exact (by decide : dns.Nodup).sublist (List.take_sublist _ _)
  · unfold dwal at hp
    exact dns_nm _ (List.of_mem_zip hp).1
/-! ### the pot of a number -/
theorem pot_ok {ns : List Int} {k : Nat} (hk : k < 100) {u : PuS} {P : List D → PuS → Prop} (h : ∀ d s : Int, 0 ≤ s → s < 2305843009213693951 → P ([d, s, 0].map D.int) u) : Ok (mfL__law_pot [.scr ns, .int k]) u P := by
  unfold mfL__law_pot mbL__law_pot
  have e1 : cutD (ns.map D.int) none (some 4) = (ns.take 4).map D.int := by rw [show (4 : Int) = ((4 : Nat) : Int) from rfl, cut_to, List.map_take]
  have fin : ∀ (n : Int) (t : Sd), Ok (mSeq (mSet 4 (mIf (mB (mBin geD (mCB absD (mCons (mVar 2) (mNil))) (mBin powD (mC (.int 10)) (mC (.int 18))))) (mCB absD (mCons (mVar 2) (mNil))) (mC (.int 0)))) (mRetL (mLstO (mCons (mVar 4) (mCons (mBin modD (mCB int1D (mCons (mBin addD (mBin addD (mBin mulD (mVar 2) (mC (.int 6364136223846799))) (mBin mulD (mC (.int 977)) (mVar 1))) (mC (.int 12345))) (mNil))) (mC (.int 2305843009213693951))) (mCons (mC (.int 0)) (mNil)))))) [.sh (.scr ns), .sh (.int k), .sh (.int n), t, .un]) u fun f u1 => match f with
      | .rl d => P d u1
      | _ => False := fun n t => by
    have e4 : ∀ n : Int, absD [.int n] = some (.int (if n < 0 then -n else n)) := fun n => rfl
    have hh : ∀ a : Int, 0 ≤ a % 2305843009213693951 ∧ a % 2305843009213693951 < 2305843009213693951 := fun a => by omega
    simp [e4]
    refine brd (fun _ => ?_) (fun _ => ?_)
    · exact h _ _ (hh _).1 (hh _).2
    · exact h _ _ (hh _).1 (hh _).2
  simp only [ok_fnL, s_start, List.map_cons, List.map_nil, List.length_cons, List.length_nil, List.cons_append, List.nil_append, List.replicate]
  refine seq_go fun K R hK hR => ?_
  simp
  refine brd (fun hl => ?_) (fun hl => ?_)
  · have e5 : atI ns (k : Int) = some ns[k] := at_nat (List.getElem?_eq_getElem hl)
    simp [e5]
    refine hK _ _ ?_
    clear hK hR K R
    refine seq_go fun K R hK hR => ?_
    simp
    refine brd (fun hz => absurd hl (by omega)) (fun hz => ?_)
    refine hK _ _ ?_
    exact fin _ _
  · refine hK _ _ ?_
    clear hK hR K R
    refine seq_cut (fun ρ u' => u' = u ∧ ∃ (s : Int) (t : Sd), ρ = [.sh (.scr ns), .sh (.int k), .sh (.int s), t, .un]) ?_ ?_
    · simp
      refine brd (fun hz => ?_) (fun hz => absurd hl (by omega))
      rw [e1]
      refine ok_list ((ns.take 4).map D.int) (fun _ ρ u' => u' = u ∧ ∃ (s : Int) (t : Sd), ρ = [.sh (.scr ns), .sh (.int k), .sh (.int s), t, .un]) ?_ ?_ _ _ ⟨rfl, _, _, rfl⟩
      · rintro j d ρ u' e ⟨rfl, s, t, rfl⟩
        rw [List.getElem?_map] at e
        cases e2 : (ns.take 4)[j]? with
        | none => rw [e2] at e; cases e
        | some x =>
          rw [e2] at e
          cases e
          simp
      · exact fun ρ u' h => h
    rintro ρ u' ⟨rfl, s, t, rfl⟩
    exact fin s t
/-! ### the least raise -/
theorem lks_at {am : List (Int × Int)} {L : List Int} {k : Nat} {s : Int} (h : L[k]? = some s) : (lks am L)[k]? = some (max 0 (s - FF am (k + 1))) := by
  have hk : k < L.length := (List.getElem?_eq_some_iff.mp h).1
  unfold lks
  rw [List.getElem?_map, List.getElem?_range hk]
  simp only [Option.map_some]
  rw [List.getD_eq_getElem?_getD, h]
  rfl
theorem lks_back {am : List (Int × Int)} {L : List Int} {k : Nat} {x : Int} (h : (lks am L)[k]? = some x) : ∃ s, L[k]? = some s ∧ x = max 0 (s - FF am (k + 1)) := by
  have hk : k < L.length := by have := (List.getElem?_eq_some_iff.mp h).1; rw [lks_len] at this; exact this
  refine ⟨L[k], List.getElem?_eq_getElem hk, ?_⟩
  rw [lks_at (List.getElem?_eq_getElem hk)] at h
  exact (Option.some.inj h).symm
/-! ### the least card and the raise of 0/1 -/
end S3


set_option Elab.async false
set_option linter.all false
set_option maxRecDepth 100000
set_option maxHeartbeats 4000000
/-! S3q: the drawn events of the third family, with bounds. -/
namespace S3
open PySem L2 Mi P20 Sh
def b1 (T b : Int) : Prop := 0 ≤ b ∧ b ≤ T + 100000000000000000000000000003
def b2 (T b : Int) : Prop := 0 ≤ b ∧ b ≤ T + 300000000000000000000000000000
def evB (T : Int) : Ev → Prop
  | .inl x => b2 T x
  | .inr q => 1 ≤ q.2 ∧ 0 ≤ q.1 ∧ q.1 ≤ 24 * q.2
theorem evB.ok {T : Int} {e : Ev} (h : evB T e) : evOk e := by
  cases e with
  | inl x => exact h.1
  | inr q => exact h
theorem int_listP {p : Int → Prop} : ∀ {ys : List D}, (∀ y ∈ ys, ∃ b : Int, p b ∧ y = .int b) → ∃ bs : List Int, ys = bs.map D.int ∧ ∀ b ∈ bs, p b
  | [], _ => ⟨[], rfl, fun b hb => by cases hb⟩
  | y :: ys, h => by
    obtain ⟨bs, e, h1⟩ := int_listP (ys := ys) fun d hd => h d (List.mem_cons_of_mem _ hd)
    obtain ⟨b, h2, h3⟩ := h y List.mem_cons_self
    refine ⟨b :: bs, by rw [h3, e]; rfl, fun x hx => ?_⟩
    rcases List.mem_cons.mp hx with rfl | hx
    · exact h2
    · exact h1 x hx
theorem great_big {am : List (Int × Int)} (ha : Am am) (hl : am.length ≤ 100) {T : Int} (h0T : 0 ≤ T) (hT : ∀ k, FF am (k + 1) - FF am k ≤ T) {u : PuS} (hu : Pu u) {P : D → PuS → Prop} (hp : ∀ evs u', EvsOk evs → (∀ e ∈ evs, evB T e) → Pu u' → P (.lst (evs.map evR)) u') : Ok (mf__law_great_events [.pur, .lst (am.map prD)]) u P := by
  unfold mf__law_great_events mb__law_great_events
  rw [ok_fn]
  refine seq_go fun K R hK hR => ?_
  simp
  refine draw_ok (by decide) hu fun way u1 w0 w1 hu1 => ?_
  refine draw_ok (by decide) hu1 fun co u2 c0 c1 hu2 => ?_
  refine draw_ok (by decide) hu2 fun tu u3 t0 t1 hu3 => ?_
  refine hK _ _ ?_
  clear hK hR K R
  refine seq_cut (fun ρ u' => Pu u' ∧ ∃ many : Nat, many ≤ 12 ∧ ρ = [.sh .pur, .sh (.lst (am.map prD)), .sh (.int way), .sh (.int co), .sh (.int tu), .sh (.int many), .un, .un, .un, .un, .un]) ?_ ?_
  · have fin : ∀ (r : Int) (u4 : PuS), 0 ≤ r → r < 13 → Pu u4 → Pu u4 ∧ ∃ many : Nat, many ≤ 12 ∧ ([.sh .pur, .sh (.lst (am.map prD)), .sh (.int way), .sh (.int co), .sh (.int tu), .sh (.int r), .un, .un, .un, .un, .un] : Mi.Env) = [.sh .pur, .sh (.lst (am.map prD)), .sh (.int way), .sh (.int co), .sh (.int tu), .sh (.int many), .un, .un, .un, .un, .un] := fun r u4 r0 r1 hu4 => ⟨hu4, r.toNat, by omega, by rw [Int.toNat_of_nonneg r0]⟩
    simp only [ok_set, ok_call, ok_cons, ok_nil, ok_if, ok_B, ok_bin, ok_var, ok_C, s_vSh, List.getElem?_cons_succ, List.getElem?_cons_zero, Option.some.injEq, exists_eq_left', s_eqI, onB_bl, List.length_cons, List.length_nil, List.set_cons_succ, List.set_cons_zero]
    refine brd (fun _ => ?_) (fun _ => ?_)
    · refine ⟨by first | rfl | trivial, ?_⟩
      exact draw_ok (by decide) hu3 fun r u4 r0 r1 hu4 => fin r u4 r0 (by omega) hu4
    · refine ⟨by first | rfl | trivial, ?_⟩
      exact draw_ok (by decide) hu3 fun r u4 r0 r1 hu4 => fin r u4 r0 (by omega) hu4
  rintro ρ u4 ⟨hu4, many, hm, rfl⟩
  refine seq_go fun K R hK hR => ?_
  simp
  refine ⟨by omega, by rw [rngD_len]; omega, ?_⟩
  refine ok_lcra (fun i => [.sh .pur, .sh (.lst (am.map prD)), .sh (.int way), .sh (.int co), .sh (.int tu), .sh (.int many), .un, .un, .un, .un, .sh (.int (0 + (i : Nat)))]) (fun i => .int (FF am i)) ?_ ?_ ?_
  · intro i hi; rfl
  · intro i hi
    unfold ce__law_great_events_1
    simp
    exact power_ok (by omega) (by omega) ⟨rfl, rfl⟩
  refine hK _ _ ?_
  clear hK hR K R
  have hix : ∀ k : Nat, k ≤ many → atI ((List.range (many + 1)).map fun i => D.int (FF am i)) (k : Int) = some (.int (FF am k)) := fun k hk => at_nat (by rw [List.getElem?_map, List.getElem?_range (by omega)]; rfl)
  generalize (List.range (many + 1)).map (fun i => D.int (FF am i)) = SL at hix
  refine seq_cut (fun ρ u' => Pu u' ∧ ∃ bs : List Int, bs.length = many ∧ (∀ b ∈ bs, b1 T b) ∧ ρ = [.sh .pur, .sh (.lst (am.map prD)), .sh (.int way), .sh (.int co), .sh (.int tu), .sh (.int many), .sh (.lst SL), .ow (bs.map D.int), .un, .un, .un]) ?_ ?_
  · simp only [ok_ifS, ok_B, ok_bin, ok_var, ok_C, s_vSh, List.getElem?_cons_succ, List.getElem?_cons_zero, Option.some.injEq, exists_eq_left', s_eqI, onB_bl]
    have fin : ∀ (ys : List D) (u5 : PuS), ((ys.length = (rngD 0 many).length ∧ ∀ y ∈ ys, ∃ b : Int, b1 T b ∧ y = .int b) ∧ Pu u5) → Pu u5 ∧ ∃ bs : List Int, bs.length = many ∧ (∀ b ∈ bs, b1 T b) ∧ ([.sh .pur, .sh (.lst (am.map prD)), .sh (.int way), .sh (.int co), .sh (.int tu), .sh (.int many), .sh (.lst SL), .ow ys, .un, .un, .un] : Mi.Env) = [.sh .pur, .sh (.lst (am.map prD)), .sh (.int way), .sh (.int co), .sh (.int tu), .sh (.int many), .sh (.lst SL), .ow (bs.map D.int), .un, .un, .un] := fun ys u5 ⟨⟨h1, h2⟩, h3⟩ => by
      obtain ⟨bs, rfl, h4⟩ := int_listP h2
      rw [List.length_map, rngD_len] at h1
      exact ⟨h3, bs, h1, h4, rfl⟩
    refine brd (fun _ => ?_) (fun _ => ?_)
    · simp only [mBorLs, List.foldr_nil, ok_setO, ok_lcO, ok_Iof, ok_cons, ok_nil, ok_var, s_vSh, List.getElem?_cons_succ, List.getElem?_cons_zero, Option.some.injEq, exists_eq_left', e_rng1, Int.toNat_natCast]
      refine ⟨by omega, by rw [rngD_len]; omega, ?_⟩
      refine (ok_lc Pu (fun y => ∃ b : Int, b1 T b ∧ y = .int b) _ _ hu4 (fun d hd u5 hu5 => ?_)).mono fun ys u5 h => ?_
      · refine ⟨_, rfl, ?_⟩
        unfold ce__law_great_events_2
        simp
        exact amount_ok hu5 fun r u6 r0 r1 hu6 => ⟨⟨r, ⟨r0, by omega⟩, rfl⟩, hu6⟩
      · exact fin ys u5 h
    · simp only [mBorLs, List.foldr_nil, ok_setO, ok_lcO, ok_Iof, ok_cons, ok_nil, ok_var, s_vSh, List.getElem?_cons_succ, List.getElem?_cons_zero, Option.some.injEq, exists_eq_left', e_rng1, Int.toNat_natCast]
      refine ⟨by omega, by rw [rngD_len]; omega, ?_⟩
      refine (ok_lc Pu (fun y => ∃ b : Int, b1 T b ∧ y = .int b) _ _ hu4 (fun d hd u5 hu5 => ?_)).mono fun ys u5 h => ?_
      · obtain ⟨i, hi, rfl⟩ : ∃ i : Nat, i < many ∧ d = .int i := by
          obtain ⟨i, hi, e⟩ := List.mem_iff_getElem.mp hd
          rw [rngD_len] at hi
          exact ⟨i, by omega, by rw [← e]; simp [rngD]⟩
        refine ⟨_, rfl, ?_⟩
        have g1 := hix (i + 1) (by omega)
        rw [show ((i + 1 : Nat) : Int) = (i : Int) + 1 by omega] at g1
        have g2 := hix i (by omega)
        unfold ce__law_great_events_3
        simp [g1, g2]
        refine draw_ok (by decide) hu5 fun r u6 r0 r1 hu6 => ?_
        simp
        have ht := hT i
        exact ⟨⟨by split <;> omega, by split <;> omega⟩, hu6⟩
      · exact fin ys u5 h
  rintro ρ u5 ⟨hu5, bs, hbl, hbn, rfl⟩
  refine seq_cut (fun ρ u' => Pu u' ∧ ∃ bs : List Int, bs.length = many ∧ (∀ b ∈ bs, b2 T b) ∧ ρ = [.sh .pur, .sh (.lst (am.map prD)), .sh (.int way), .sh (.int co), .sh (.int tu), .sh (.int many), .sh (.lst SL), .ow (bs.map D.int), .un, .un, .un]) ?_ ?_
  · simp only [ok_ifS, ok_borT, s_frz, s_vOw, ok_and, ok_B, ok_bin, ok_Fz, ok_lstO, ok_nil, ok_var, ok_C, s_vSh, List.getElem?_cons_succ, List.getElem?_cons_zero, List.set_cons_succ, List.set_cons_zero, Option.some.injEq, exists_eq_left', s_eqI, s_neL0, onB_bl, List.length_nil, Nat.zero_le, true_and, br_f, br_n, ok_next]
    have fin0 : Pu u5 ∧ ∃ bs' : List Int, bs'.length = many ∧ (∀ b ∈ bs', b2 T b) ∧ ([.sh .pur, .sh (.lst (am.map prD)), .sh (.int way), .sh (.int co), .sh (.int tu), .sh (.int many), .sh (.lst SL), .ow (bs.map D.int), .un, .un, .un] : Mi.Env) = [.sh .pur, .sh (.lst (am.map prD)), .sh (.int way), .sh (.int co), .sh (.int tu), .sh (.int many), .sh (.lst SL), .ow (bs'.map D.int), .un, .un, .un] := ⟨hu5, bs, hbl, fun b hb => ⟨(hbn b hb).1, by have := (hbn b hb).2; omega⟩, rfl⟩
    refine brd (fun _ => ?_) (fun _ => fin0)
    refine brd (fun _ => fin0) (fun z => ?_)
    have h0 : 0 < bs.length := List.length_pos_iff.mpr z
    have e1 : (many : Int) - 1 = ((many - 1 : Nat) : Int) := by omega
    have g1 : atI (bs.map D.int) ((many : Int) - 1) = some (.int (bs[many - 1]'(by omega))) := by
      rw [e1]
      exact getI (List.getElem?_eq_getElem (by omega))
    have ixn : ixN bs.length ((many : Int) - 1) = some (many - 1) := by
      rw [e1]
      unfold ixN
      rw [if_pos (by omega), if_pos (by omega), Int.toNat_natCast]
    simp [g1, ixn]
    refine amount_ok hu5 fun r u6 r0 r1 hu6 => ?_
    refine ⟨_, s_add, hu6, bs.set (many - 1) (bs[many - 1] + r), by rw [List.length_set]; exact hbl, fun b hb => ?_, by rw [List.map_set]⟩
    rcases List.mem_or_eq_of_mem_set hb with h | h
    · exact ⟨(hbn b h).1, by have := (hbn b h).2; omega⟩
    · have := hbn _ (List.getElem_mem (show many - 1 < bs.length by omega))
      have h1 := this.1
      have h2 := this.2
      exact ⟨by omega, by omega⟩
  rintro ρ u6 ⟨hu6, bs, hbl, hbn, rfl⟩
  refine seq_go fun K R hK hR => ?_
  simp
  refine hK _ _ ?_
  clear hK hR K R
  have hat0 := Int.emod_nonneg tu (show ((many : Int) + 1) ≠ 0 by omega)
  have hat1 := Int.emod_lt_of_pos tu (show 0 < ((many : Int) + 1) by omega)
  obtain ⟨a, ha'⟩ : ∃ a : Nat, tu % ((many : Int) + 1) = (a : Int) := ⟨(tu % ((many : Int) + 1)).toNat, by omega⟩
  rw [ha']
  have hal : a ≤ many := by omega
  have e1 : cutD (bs.map D.int) none (some (a : Int)) = (bs.take a).map D.int := by rw [cut_to, List.map_take]
  have e2 : cutD (bs.map D.int) (some (a : Int)) none = (bs.drop a).map D.int := by rw [cut_from, List.map_drop]
  refine seq_go fun K R hK hR => ?_
  simp only [ok_frz, s_frz, s_vOw, ok_set, ok_bin, ok_sl, ok_On, ok_Os, ok_var, s_vSh, List.getElem?_cons_succ, List.getElem?_cons_zero, List.set_cons_succ, List.set_cons_zero, Option.some.injEq, exists_eq_left', s_slL, D.int.injEq, e1, e2]
  refine ⟨_, s_addL (by rw [List.length_map, List.length_map, List.length_drop, List.length_take]; omega), hK _ _ ?_⟩
  clear hK hR K R
  have em : (bs.drop a).map D.int ++ (bs.take a).map D.int = ((bs.drop a ++ bs.take a).map Sum.inl : List Ev).map evR := by rw [← bills_ev, List.map_append]
  rw [em]
  have hel : (bs.drop a ++ bs.take a).length = many := by rw [List.length_append, List.length_drop, List.length_take]; omega
  have hen : ∀ b ∈ bs.drop a ++ bs.take a, b2 T b := fun b hb => by
    rcases List.mem_append.mp hb with h | h
    · exact hbn b (List.mem_of_mem_drop h)
    · exact hbn b (List.mem_of_mem_take h)
  generalize bs.drop a ++ bs.take a = es at hel hen
  have hev : ∀ e ∈ (es.map Sum.inl : List Ev), evB T e := fun e he => by
    obtain ⟨x, hx, rfl⟩ := List.mem_map.mp he
    exact hen x hx
  have hnb := nB_bills es
  have hnc := nC_bills es
  have hevl : (es.map Sum.inl : List Ev).length = many := by rw [List.length_map]; exact hel
  rw [hel] at hnb
  generalize (es.map Sum.inl : List Ev) = evs at hev hnb hnc hevl
  generalize hX : D.lst (bs.map D.int) = XD
  refine seq_go fun K R hK hR => ?_
  simp
  refine brd (fun z => ?_) (fun z => ?_)
  · refine draw_ok (by decide) hu6 fun r u7 r0 r1 hu7 => ?_
    simp
    obtain ⟨r, rfl⟩ : ∃ j : Nat, r = (j : Int) := ⟨r.toNat, by omega⟩
    refine ⟨by omega, by rw [rngD_len]; omega, ?_⟩
    refine (ok_lc Pu (fun y => ∃ q : Int × Int, (1 ≤ q.2 ∧ 0 ≤ q.1 ∧ q.1 ≤ 24 * q.2) ∧ y = prD q) _ _ hu7 (fun d hd u8 hu8 => ?_)).mono ?_
    · refine ⟨_, rfl, ?_⟩
      unfold ce__law_great_events_4
      simp
      exact card_ok hu8 fun q u9 hq _ hu9 => ⟨⟨q.1, q.2, hq, rfl⟩, hu9⟩
    rintro ys u8 ⟨⟨hyl, hy⟩, hu8⟩
    rw [rngD_len] at hyl
    obtain ⟨cm, hcm, rfl⟩ := pair_list hy
    rw [List.length_map] at hyl
    refine ⟨_, s_addL (by rw [List.length_map, List.length_map]; omega), hR _ _ ?_⟩
    have e3 : cm.map prD ++ evs.map evR = ((cm.map Sum.inr : List Ev) ++ evs).map evR := by rw [cards_ev, List.map_append]
    rw [e3]
    have hall : ∀ e ∈ (cm.map Sum.inr : List Ev) ++ evs, evB T e := fun e he => by
      rcases List.mem_append.mp he with h | h
      · obtain ⟨q, hq, rfl⟩ := List.mem_map.mp h
        exact hcm q hq
      · exact hev e h
    refine hp _ u8 ⟨fun e he => (hall e he).ok, ?_, ?_⟩ hall hu8
    · rw [nB_append, nB_cards]; omega
    · rw [nC_append, nC_cards]; omega
  · refine hK _ _ ?_
    clear hK hR K R
    refine seq_cut (fun ρ u' => Pu u' ∧ ∃ (evs : List Ev) (s8 s10 : Sd), (∀ e ∈ evs, evB T e) ∧ nB evs = many ∧ nC evs ≤ 2 ∧ ρ = [.sh .pur, .sh (.lst (am.map prD)), .sh (.int way), .sh (.int co), .sh (.int tu), .sh (.int many), .sh (.lst SL), .sh XD, s8, .sh (.lst (evs.map evR)), s10]) ?_ ?_
    · have fin0 : Pu u6 ∧ ∃ (evs' : List Ev) (s8 s10 : Sd), (∀ e ∈ evs', evB T e) ∧ nB evs' = many ∧ nC evs' ≤ 2 ∧ ([.sh .pur, .sh (.lst (am.map prD)), .sh (.int way), .sh (.int co), .sh (.int tu), .sh (.int many), .sh (.lst SL), .sh XD, .sh (.int a), .sh (.lst (evs.map evR)), .un] : Mi.Env) = [.sh .pur, .sh (.lst (am.map prD)), .sh (.int way), .sh (.int co), .sh (.int tu), .sh (.int many), .sh (.lst SL), .sh XD, s8, .sh (.lst (evs'.map evR)), s10] := ⟨hu6, evs, _, _, hev, hnb, by omega, rfl⟩
      simp only [ok_ifS, ok_B, ok_bin, ok_var, ok_C, s_vSh, List.getElem?_cons_succ, List.getElem?_cons_zero, Option.some.injEq, exists_eq_left', s_eqI, onB_bl, ok_next]
      refine brd (fun z => ?_) (fun z => fin0)
      clear fin0
      simp only [ok_for, ok_Iof, ok_cons, ok_nil, ok_bin, ok_call, ok_var, ok_C, s_vSh, List.getElem?_cons_succ, List.getElem?_cons_zero, Option.some.injEq, exists_eq_left', List.length_cons, List.length_nil]
      refine ⟨by first | rfl | trivial, ?_⟩
      refine draw_ok (by decide) hu6 fun r u7 r0 r1 hu7 => ?_
      obtain ⟨r, rfl⟩ : ∃ j : Nat, r = (j : Int) := ⟨r.toNat, by omega⟩
      simp only [s_add, Option.some.injEq, exists_eq_left', e_rng1]
      refine ⟨by omega, ?_⟩
      rw [show ((1 : Int) + (r : Int)).toNat = r + 1 by omega]
      refine ok_range 0 (r + 1) (fun k ρ u' => Pu u' ∧ ∃ (evs : List Ev) (s8 s10 : Sd), (∀ e ∈ evs, evB T e) ∧ nB evs = many ∧ nC evs = k ∧ ρ = [.sh .pur, .sh (.lst (am.map prD)), .sh (.int way), .sh (.int co), .sh (.int tu), .sh (.int many), .sh (.lst SL), .sh XD, s8, .sh (.lst (evs.map evR)), s10]) ?_ ?_ _ _ ⟨hu7, evs, _, _, hev, hnb, hnc, rfl⟩
      · clear hev hnb hnc hevl
        rintro k ρ u' hk ⟨hu', evs, s8, s10, hev, hnb, hnc, rfl⟩
        have hBC := nBC evs
        refine ⟨_, rfl, ?_⟩
        refine st_go fun R0 hR0 => ?_
        unfold lb__law_great_events_5
        refine seq_go fun K R hK hR => ?_
        simp
        refine draw_ok (by omega) hu' fun b u8 b0 b1 hu8 => hK _ _ ?_
        clear hK hR K R
        obtain ⟨b, rfl⟩ : ∃ j : Nat, b = (j : Int) := ⟨b.toNat, by omega⟩
        have e1 : cutD (evs.map evR) none (some (b : Int)) = (evs.take b).map evR := by rw [cut_to, List.map_take]
        have e2 : cutD (evs.map evR) (some (b : Int)) none = (evs.drop b).map evR := by rw [cut_from, List.map_drop]
        have hlk : (evs.take b).length + (evs.drop b).length = evs.length := by rw [← List.length_append, List.take_append_drop]
        simp only [ok_set, ok_bin, ok_sl, ok_On, ok_Os, ok_Fz, ok_lstO, ok_call, ok_cons, ok_nil, ok_var, ok_C, s_vSh, List.getElem?_cons_succ, List.getElem?_cons_zero, List.set_cons_succ, List.set_cons_zero, Option.some.injEq, exists_eq_left', s_slL, D.int.injEq, e1, e2, List.length_cons, List.length_nil]
        refine ⟨by first | rfl | trivial, ?_⟩
        refine card_ok hu8 fun q u9 hq _ hu9 => ?_
        refine ⟨by decide, _, s_addL (by rw [List.length_map]; simp; omega), _, s_addL (by rw [List.length_append, List.length_map, List.length_map]; simp; omega), ?_⟩
        have e3 : (evs.take b).map evR ++ [prD q] ++ (evs.drop b).map evR = (evs.take b ++ .inr q :: evs.drop b).map evR := by simp [evR]
        rw [e3]
        have hnB : nB (evs.take b ++ .inr q :: evs.drop b) = nB evs := by
          rw [nB_append, nB_inr, ← nB_append, List.take_append_drop]
        have hnC : nC (evs.take b ++ .inr q :: evs.drop b) = nC evs + 1 := by
          have : nC (.inr q :: evs.drop b) = nC (evs.drop b) + 1 := by simp [nC, isB]
          rw [nC_append, this, ← Nat.add_assoc, ← nC_append, List.take_append_drop]
        refine hR0 _ _ ⟨hu9, evs.take b ++ .inr q :: evs.drop b, _, _, fun e he => ?_, by rw [hnB]; exact hnb, by rw [hnC, hnc], rfl⟩
        rcases List.mem_append.mp he with h | h
        · exact hev e (List.mem_of_mem_take h)
        · rcases List.mem_cons.mp h with h | h
          · subst h; exact hq
          · exact hev e (List.mem_of_mem_drop h)
      · rintro ρ u' ⟨hu', evs, s8, s10, hev, hnb, hnc, rfl⟩
        exact ⟨hu', evs, s8, s10, hev, hnb, by omega, rfl⟩
    rintro ρ u7 ⟨hu7, evs, s8, s10, hev, hnb, hnc, rfl⟩
    simp
    exact hp evs u7 ⟨fun e he => (hev e he).ok, by omega, by omega⟩ hev hu7
end S3


set_option Elab.async false
set_option linter.all false
set_option maxRecDepth 100000
set_option maxHeartbeats 4000000
namespace G48
open PySem L2 Mi P20 Sh S3
/-! ### what the least card is -/
theorem lcd_none {am : List (Int × Int)} {L : List Int} : lcd (lks am L) = none ↔ ∀ k s, L[k]? = some s → s ≤ FF am (k + 1) := by
  obtain ⟨m1, m2, m3⟩ := mxD_spec (lks_nn (am := am) (L := L))
  have e : lcd (lks am L) = none ↔ mxD 0 (lks am L) = 0 := by
    unfold lcd
    split
    · rename_i h; exact ⟨fun _ => h, fun _ => rfl⟩
    · rename_i h; exact ⟨fun z => (by cases z), fun z => absurd z h⟩
  rw [e]
  constructor
  · intro h k s hs
    have := m2 _ (List.mem_of_getElem? (lks_at (am := am) hs))
    omega
  · intro h
    by_cases z : mxD 0 (lks am L) = 0
    · exact z
    · obtain ⟨k, hk⟩ := List.mem_iff_getElem?.mp (m3 z)
      obtain ⟨s, hs, e⟩ := lks_back hk
      have := h k s hs
      omega
theorem lcd_best {am : List (Int × Int)} {L : List Int} (h24 : L.length ≤ 24) {q : Int × Int} (h : lcd (lks am L) = some q) :
    1 ≤ q.1 ∧ 1 ≤ q.2 ∧ q.1 ≤ 24 * q.2 ∧ (∀ k s, L[k]? = some s → s ≤ FF (am ++ [q]) (k + 1)) ∧ (∀ w, ¬ ∀ k s, L[k]? = some s → s ≤ FF (am ++ [(q.1 - 1, w)]) (k + 1)) ∧ ∀ b, ¬ ∀ k s, L[k]? = some s → s ≤ FF (am ++ [(b, q.2 - 1)]) (k + 1) := by
  have hnn := lks_nn (am := am) (L := L)
  obtain ⟨g1, g2, g3⟩ := lcd_good hnn (by rw [lks_len]; exact h24) h
  obtain ⟨m1, m2, m3⟩ := mxD_spec hnn
  have hq : mxD 0 (lks am L) ≠ 0 := fun z => by unfold lcd at h; rw [if_pos z] at h; cases h
  have h0 : lks am L ≠ [] := fun z => hq (by rw [z]; rfl)
  obtain ⟨u1, u2⟩ := ups_spec h0
  unfold lcd at h
  rw [if_neg hq] at h
  cases h
  have F1 : ∀ (p : Int × Int) (k : Nat), FF (am ++ [p]) k = FF am k + wor p.1 p.2 k := fun p k => by rw [FF_append, FF_cons, FF_nil]; omega
  simp only at g1 g2 g3 ⊢
  generalize maxL ((List.range (lks am L).length).map fun k => -(-(lks am L).getD k 0 / ((k + 1 : Nat) : Int))) = M at g1 g3 u1 u2 ⊢
  refine ⟨by omega, g1, g3, fun k s hs => ?_, fun w hh => ?_, fun b hh => ?_⟩
  · have hk := lks_at (am := am) hs
    have a1 := m2 _ (List.mem_of_getElem? hk)
    have a2 := u1 k _ hk
    have a3 : s - FF am (k + 1) ≤ max 0 (s - FF am (k + 1)) := by omega
    obtain ⟨s1, _⟩ := up_spec (max 0 (s - FF am (k + 1))) (p := k + 1) (by omega)
    rw [F1]
    generalize max 0 (s - FF am (k + 1)) = x at a1 a2 a3 s1
    generalize -(-x / ((k + 1 : Nat) : Int)) = c at a2 s1
    have h4 : ((k + 1 : Nat) : Int) * c ≤ ((k + 1 : Nat) : Int) * M := Int.mul_le_mul_of_nonneg_left a2 (by omega)
    have h5 : x ≤ wor (mxD 0 (lks am L)) M (k + 1) := by unfold wor; omega
    simp only
    omega
  · obtain ⟨k, hk⟩ := List.mem_iff_getElem?.mp (m3 hq)
    obtain ⟨s, hs, e⟩ := lks_back hk
    have := hh k s hs
    rw [F1] at this
    have h5 : wor (mxD 0 (lks am L) - 1) w (k + 1) ≤ mxD 0 (lks am L) - 1 := by unfold wor; omega
    simp only at this
    omega
  · obtain ⟨k, x, hk, e⟩ := u2
    obtain ⟨s, hs, ex⟩ := lks_back hk
    have := hh k s hs
    rw [F1] at this
    obtain ⟨_, s2⟩ := up_spec x (p := k + 1) (by omega)
    rw [← e] at s2
    have h5 : wor b (M - 1) (k + 1) ≤ ((k + 1 : Nat) : Int) * (M - 1) := by unfold wor; omega
    simp only at this
    have hx : 0 ≤ ((k + 1 : Nat) : Int) * (M - 1) := Int.mul_nonneg (by omega) (by omega)
    omega
/-! ### sizes -/
theorem sel_le {T : Int} {i : Int} {evs : List Ev} {s : List Int} {v : Int} (h : Sel i evs s v) (he : ∀ e ∈ evs, evB T e) (hT : 0 ≤ T + 300000000000000000000000000000) : v ≤ (s.length : Int) * (T + 300000000000000000000000000000) := by
  induction h with
  | nil i => simp
  | skip h ih => exact ih fun e z => he e (List.mem_cons_of_mem _ z)
  | take h ih =>
    have h1 := ih fun e z => he e (List.mem_cons_of_mem _ z)
    have h2 := (he _ List.mem_cons_self : b2 T _).2
    rw [List.length_cons, Int.natCast_add, Int.add_mul]
    omega
  | card h ih =>
    rename_i b l _ _ _
    have h1 := ih fun e z => he e (List.mem_cons_of_mem _ z)
    have h2 : 1 ≤ l ∧ 0 ≤ b ∧ b ≤ 24 * l := he _ List.mem_cons_self
    have hw : ∀ n : Nat, 0 ≤ wor b l n := fun n => wor_nonneg h2.2.1 (show 0 ≤ l by omega) n
    exact Int.le_trans (Int.sub_le_self _ (hw _)) h1
theorem asks_le {T : Int} (hT : 0 ≤ T) {evs : List Ev} (h : EvsOk evs) (he : ∀ e ∈ evs, evB T e) : ∀ x ∈ asks evs, x ≤ 12 * (T + 300000000000000000000000000000) := by
  intro x hx
  unfold asks at hx
  obtain ⟨p, hp, rfl⟩ := List.mem_map.mp (List.mem_of_mem_drop hx)
  obtain ⟨k, hk⟩ := List.mem_iff_getElem?.mp hp
  obtain ⟨t1, t2, _⟩ := (asked_tab evs 0).at_ k p.1 p.2 hk
  have h1 := sel_le t2 he (by omega)
  have h2 := t2.len
  have h3 := h.bills
  have h4 : (p.2.length : Int) * (T + 300000000000000000000000000000) ≤ 12 * (T + 300000000000000000000000000000) := Int.mul_le_mul_of_nonneg_right (by omega) (by omega)
  omega
theorem lcd_le {am : List (Int × Int)} (ha : Am am) {L : List Int} (h24 : L.length ≤ 24) {q : Int × Int} (h : lcd (lks am L) = some q) {B : Int} (hB : ∀ x ∈ L, x ≤ B) (h0 : 0 ≤ B) : q.1 ≤ B ∧ q.2 ≤ B + 1 := by
  have hnn := lks_nn (am := am) (L := L)
  obtain ⟨g1, g2, g3⟩ := lcd_good hnn (by rw [lks_len]; exact h24) h
  obtain ⟨m1, m2, m3⟩ := mxD_spec hnn
  have hq : mxD 0 (lks am L) ≠ 0 := fun z => by unfold lcd at h; rw [if_pos z] at h; cases h
  have hz : lks am L ≠ [] := fun z => hq (by rw [z]; rfl)
  obtain ⟨u1, k, x, hk, e⟩ := ups_spec hz
  have hlk : ∀ y ∈ lks am L, y ≤ B := fun y hy => by
    obtain ⟨j, hj⟩ := List.mem_iff_getElem?.mp hy
    obtain ⟨s, hs, rfl⟩ := lks_back hj
    have := hB s (List.mem_of_getElem? hs)
    have := FF_nonneg ha (j + 1)
    omega
  unfold lcd at h
  rw [if_neg hq] at h
  cases h
  refine ⟨hlk _ (m3 hq), ?_⟩
  simp only at g1 ⊢
  rw [e] at g1 ⊢
  obtain ⟨_, s2⟩ := up_spec x (p := k + 1) (by omega)
  have hx := hlk x (List.mem_of_getElem? hk)
  generalize -(-x / ((k + 1 : Nat) : Int)) = c at g1 s2 ⊢
  have h5 : 1 * (c - 1) ≤ ((k + 1 : Nat) : Int) * (c - 1) := Int.mul_le_mul_of_nonneg_right (by omega) (by omega)
  omega
/-! ### texts of cards -/
theorem log_of {n : Int} (h0 : 0 ≤ n) (h1 : n < 1000000000000000000000000000000000000000000000000000000000000) : n.natAbs.log2 < 1920 := by
  by_cases h : n = 0
  · subst h; decide
  · have := log_big (n := n) ⟨by omega, h1⟩
    omega
theorem len_of {n : Int} (h0 : 0 ≤ n) (h1 : n < 1000000000000000000000000000000000000000000000000000000000000) : (Str.ofString (toString n)).length ≤ 2000 := by
  have := int_text_length_le (k := 1920) (by decide) (log_of h0 h1)
  rw [ofString_length]
  omega
theorem crepr_ok {q : Int × Int} (h1 : 0 ≤ q.1 ∧ q.1 < 1000000000000000000000000000000000000000000000000000000000000) (h2 : 0 ≤ q.2 ∧ q.2 < 1000000000000000000000000000000000000000000000000000000000000) : ∃ t : Str, ∀ {u : PuS} {P : D → PuS → Prop}, P (.str t) u → Ok (mf_Card___repr__ [.obj "Card" ["held", "daily"] [.int q.1, .int q.2]]) u P := by
  refine ⟨Str.empty ++ "Card " ++ Str.ofString (toString q.1) ++ "/" ++ Str.ofString (toString q.2), fun {u P} h => ?_⟩
  unfold mf_Card___repr__ mb_Card___repr__
  have e1 : fmtD (.int q.1) = some (.str (Str.ofString (toString q.1))) := if_pos (log_of h1.1 h1.2)
  have e2 : fmtD (.int q.2) = some (.str (Str.ofString (toString q.2))) := if_pos (log_of h2.1 h2.2)
  have l1 := len_of h1.1 h1.2
  have l2 := len_of h2.1 h2.2
  have l3 : (Str.ofString "Card ").length = 5 := by decide
  have l4 : (Str.ofString "/").length = 1 := by decide
  have l5 : Str.empty.length = 0 := rfl
  generalize Str.ofString (toString q.1) = T1 at e1 l1 h
  generalize Str.ofString (toString q.2) = T2 at e2 l2 h
  simp [e1, e2]
  refine ⟨?_, ?_, ?_, ?_, h⟩ <;> (simp only [Str.length_append]; omega)
/-! ### the checks -/
theorem best_right_ok {am : List (Int × Int)} (hal : am.length ≤ 99) {L : List Int} (h24 : L.length ≤ 24) {q : Int × Int} (hq : lcd (lks am L) = some q) {u : PuS} {P : D → PuS → Prop} (h : P (.bl true) u) : Ok (mf__law_best_right [.lst (am.map prD), .lst (L.map D.int), prD q]) u P := by
  obtain ⟨g1, g2, g3, g4, g5, g6⟩ := lcd_best h24 hq
  unfold mf__law_best_right mb__law_best_right
  rw [ok_fn]
  have e2 : ixD (prD q) (.int 0) = some (.int q.1) := rfl
  have e3 : ixD (prD q) (.int 1) = some (.int q.2) := rfl
  have ea : ∀ p, addD (.lst (am.map prD)) (.lst [prD p]) = some (.lst ((am ++ [p]).map prD)) := fun p => by
    rw [s_addL (by simp; omega), List.map_append]
    rfl
  have ea' : ∀ a b : Int, addD (.lst (am.map prD)) (.lst [.tup [.int a, .int b]]) = some (.lst ((am ++ [(a, b)]).map prD)) := fun a b => ea (a, b)
  have hsl : ∀ p, (am ++ [p]).length ≤ 100 := fun p => by simp; omega
  have e9 : powD (.int 10) (.int 60) = some (.int 1000000000000000000000000000000000000000000000000000000000000) := rfl
  refine seq_go fun K R hK hR => ?_
  have n1 : ¬ q.1 < 1 := by omega
  have n2 : ¬ q.2 < 1 := by omega
  have n3 : ¬ 24 * q.2 < q.1 := by omega
  simp [e2, e3, ea, n1, n2, n3, -List.map_append]
  refine meets_ok (hsl _) (by omega) fun r hr => ?_
  have hrt : r = true := hr.mpr g4
  subst hrt
  simp
  refine hK _ _ ?_
  clear hK hR K R hr
  refine seq_go fun K R hK hR => ?_
  simp [e2, e3, ea', e9, -List.map_append]
  refine meets_ok (hsl _) (by omega) fun r hr => ?_
  have hrf : r = false := by
    cases r with
    | false => rfl
    | true => exact absurd (hr.mp rfl) (g5 _)
  subst hrf
  simp
  refine hK _ _ ?_
  clear hK hR K R hr
  simp [e2, e3, ea', e9, -List.map_append]
  refine brd (fun _ => h) (fun _ => ?_)
  refine meets_ok (hsl _) (by omega) fun r hr => ?_
  have hrf : r = false := by
    cases r with
    | false => rfl
    | true => exact absurd (hr.mp rfl) (g6 _)
  subst hrf
  simp
  exact h
theorem nm_fs (a b c d e f g h : Sd) (u : PuS) : ∀ n : Nat, n < 12 → mBin addD (mC (.str "c")) (mCB strID (mCons (mVar 8) (mNil))) [a, b, c, d, e, f, g, h, .sh (.int (n : Int))] u = some (.str (dns.getD n ""), u)
  | 0, _ => rfl
  | 1, _ => rfl
  | 2, _ => rfl
  | 3, _ => rfl
  | 4, _ => rfl
  | 5, _ => rfl
  | 6, _ => rfl
  | 7, _ => rfl
  | 8, _ => rfl
  | 9, _ => rfl
  | 10, _ => rfl
  | 11, _ => rfl
  | n + 12, h => by omega
theorem nm_fs2 (a b : Sd) (u : PuS) : ∀ n : Nat, n < 12 → mBin addD (mC (.str "c")) (mCB strID (mCons (mVar 2) (mNil))) [a, b, .sh (.int (n : Int))] u = some (.str (dns.getD n ""), u)
  | 0, _ => rfl
  | 1, _ => rfl
  | 2, _ => rfl
  | 3, _ => rfl
  | 4, _ => rfl
  | 5, _ => rfl
  | 6, _ => rfl
  | 7, _ => rfl
  | 8, _ => rfl
  | 9, _ => rfl
  | 10, _ => rfl
  | 11, _ => rfl
  | n + 12, h => by omega
theorem pair_listB : ∀ {ys : List D}, (∀ y ∈ ys, ∃ q : Int × Int, ((1 ≤ q.2 ∧ 0 ≤ q.1 ∧ q.1 ≤ 24 * q.2) ∧ q.2 ≤ 100000000000000000000000000000) ∧ y = prD q) → ∃ am, Am am ∧ (∀ q ∈ am, q.2 ≤ 100000000000000000000000000000) ∧ ys = am.map prD
  | [], _ => ⟨[], Am.nil, (fun q hq => by cases hq), rfl⟩
  | y :: ys, h => by
    obtain ⟨am, h1, h5, h2⟩ := pair_listB (ys := ys) fun z hz => h z (List.mem_cons_of_mem _ hz)
    obtain ⟨q, h3, h4⟩ := h y List.mem_cons_self
    refine ⟨q :: am, Am.cons h3.1 h1, fun p hp => ?_, by rw [h4, h2]; rfl⟩
    rcases List.mem_cons.mp hp with rfl | hp
    · exact h3.2
    · exact h5 p hp
theorem FF_dif {am : List (Int × Int)} (ha : Am am) {B : Int} (hB : ∀ q ∈ am, q.2 ≤ B) (k : Nat) : FF am (k + 1) - FF am k ≤ (am.length : Int) * B := by
  induction am with
  | nil => simp [FF]
  | cons q am ih =>
    have h1 := ih ha.tail fun p hp => hB p (List.mem_cons_of_mem _ hp)
    have h2 := hB q List.mem_cons_self
    obtain ⟨h3, h4, _⟩ := ha q List.mem_cons_self
    have h6 : wor q.1 q.2 (k + 1) - wor q.1 q.2 k ≤ q.2 := by
      have := succ_mul' k q.2
      unfold wor
      omega
    rw [FF_cons, FF_cons, List.length_cons, Int.natCast_add, Int.add_mul]
    omega
theorem right_ok {u : PuS} (hu : Pu u) {P : D → PuS → Prop} (hp : ∀ u', P (.bl true) u') : Ok (mf__law_right [.pur]) u P := by
  unfold mf__law_right mb__law_right
  rw [ok_fn]
  refine seq_go fun K R hK hR => ?_
  simp [mBorLs]
  refine draw_ok (by decide) hu fun r u2 r0 r1 hu2 => ?_
  obtain ⟨r, rfl⟩ : ∃ j : Nat, r = (j : Int) := ⟨r.toNat, by omega⟩
  simp
  refine ⟨by omega, by rw [rngD_len]; omega, ?_⟩
  refine (ok_lc Pu (fun y => ∃ q : Int × Int, ((1 ≤ q.2 ∧ 0 ≤ q.1 ∧ q.1 ≤ 24 * q.2) ∧ q.2 ≤ 100000000000000000000000000000) ∧ y = prD q) _ _ hu2 (fun d hd u8 hu8 => ?_)).mono ?_
  · refine ⟨_, rfl, ?_⟩
    unfold ce__law_right_1
    simp
    exact card_ok hu8 fun q u9 hq hq2 hu9 => ⟨⟨q.1, q.2, ⟨hq, hq2⟩, rfl⟩, hu9⟩
  rintro ys u3 ⟨⟨hyl, hy⟩, hu3⟩
  rw [rngD_len] at hyl
  obtain ⟨am, ha, hab, rfl⟩ := pair_listB hy
  rw [List.length_map] at hyl
  have ha12 : am.length ≤ 12 := by omega
  have hFF : ∀ k, FF am (k + 1) - FF am k ≤ 1200000000000000000000000000000 := fun k => by
    have h1 := FF_dif ha hab k
    have h2 : (am.length : Int) * 100000000000000000000000000000 ≤ 12 * 100000000000000000000000000000 := Int.mul_le_mul_of_nonneg_right (by omega) (by decide)
    omega
  refine hK _ _ ?_
  clear hK hR K R hy hyl
  refine seq_go fun K R hK hR => ?_
  simp
  refine great_big ha (by omega) (by decide) hFF hu3 fun evs u4 hev hevB hu4 => ?_
  refine ⟨by rw [rngD_len]; decide, ?_⟩
  refine ok_lcra (n := 12) (fun n => [.sh .pur, .sh (.lst (am.map prD)), .un, .un, .un, .un, .un, .un, .sh (.int (0 + (n : Nat)))]) (fun n => .str (dns.getD n "")) (fun n hn => rfl) (fun n hn => ?_) ?_
  · unfold ce__law_right_2
    rw [Int.zero_add]
    exact (ok_of (nm_fs _ _ _ _ _ _ _ _ u4 n hn)).mpr ⟨rfl, rfl⟩
  have en : (List.range 12).map (fun n => D.str (dns.getD n "")) = dns.map D.str := rfl
  rw [en]
  have hpu : ∀ {P : D → PuS → Prop} {u : PuS}, P (walD (dwal am)) u → Ok (mf__law_purse [.lst (am.map prD), .lst (dns.map D.str)]) u P := fun {P u} h => lpurse_ok ha (by simpa using ha12) (dwal_nms ha12) h
  generalize D.lst (dns.map D.str) = ND at hpu
  refine hK _ _ ?_
  clear hK hR K R
  have h18 := hev.len
  have hLl : (asks evs).length ≤ 24 := by rw [asks_len]; have := nBC evs; omega
  have hAB := asks_le (by decide) hev hevB
  have hlc : ∀ {P : D → PuS → Prop} {u : PuS}, P (cardO (lcd (lks am (asks evs)))) u → Ok (mf_least_card [walD (dwal am), courD evs]) u P := fun {P u} h => lcard_ok (by rw [dwal_len ha12]; omega) (by omega) (by rw [dwal_snd ha12]; exact h)
  refine seq_go fun K R hK hR => ?_
  simp
  refine asks_ok hev ?_
  refine hpu ?_
  refine course_ok hev ?_
  refine hK _ _ ?_
  clear hK hR K R
  refine seq_go fun K R hK hR => ?_
  simp
  refine hlc ?_
  refine hK _ _ ?_
  clear hK hR K R
  refine seq_cut (fun ρ u' => u' = u4 ∧ ρ = [.sh .pur, .sh (.lst (am.map prD)), .sh (.lst (evs.map evR)), .sh ND, .sh (.lst ((asks evs).map D.int)), .sh (walD (dwal am)), .sh (courD evs), .sh (cardO (lcd (lks am (asks evs)))), .un]) ?_ ?_
  · simp [ok_rep]
    refine hlc ?_
    cases hq : lcd (lks am (asks evs)) with
    | none =>
      show Ok (M.pure (D.str "None")) u4 _
      rw [ok_pure]
      show Ok (M.pure (D.str "None")) u4 _
      rw [ok_pure]
      simp
    | some q =>
      obtain ⟨g1, g2, g3⟩ := lcd_good lks_nn (by rw [lks_len]; exact hLl) hq
      obtain ⟨b1, b2⟩ := lcd_le ha hLl hq hAB (by decide)
      obtain ⟨t, ht⟩ := crepr_ok (q := q) ⟨g2, by omega⟩ ⟨by omega, by omega⟩
      have ec : cardO (some q) = .obj "Card" ["held", "daily"] [.int q.1, .int q.2] := rfl
      rw [ec]
      simp
      refine ht ?_
      refine ⟨t, rfl, ?_⟩
      refine ht ?_
      refine ⟨t, rfl, ?_⟩
      simp
  rintro ρ u' ⟨rfl, rfl⟩
  refine seq_go fun K R hK hR => ?_
  simp
  refine meets_ok (by omega) (by omega) fun r hr => ?_
  rw [← lcd_none] at hr
  simp
  cases hq : lcd (lks am (asks evs)) with
  | none =>
    have : r = true := hr.mpr hq
    subst this
    have e5 : isD (cardO none) .non = some (.bl true) := rfl
    simp [e5]
    exact hR _ _ (hp _)
  | some q =>
    have : r = false := by
      cases r with
      | false => rfl
      | true => have := hr.mp rfl; rw [hq] at this; cases this
    subst this
    simp
    refine hK _ _ ?_
    clear hK hR K R
    obtain ⟨g1, g2, g3⟩ := lcd_good lks_nn (by rw [lks_len]; exact hLl) hq
    refine seq_go fun K R hK hR => ?_
    have e6 : isiD [cardO (some q), .cls "Card"] = some (.bl true) := rfl
    have e7 : cardO (some q) = .obj "Card" ["held", "daily"] [.int q.1, .int q.2] := rfl
    have n1 : 0 ≤ q.2 := by omega
    simp [e6]
    refine ⟨_, _, rfl, ?_⟩
    refine bal_ok ?_
    simp [g2]
    refine ⟨_, _, rfl, ?_⟩
    refine lim_ok ?_
    simp [n1]
    refine hK _ _ ?_
    clear hK hR K R
    simp
    refine ⟨_, _, rfl, ?_⟩
    refine bal_ok ?_
    refine ⟨_, _, rfl, ?_⟩
    refine lim_ok ?_
    exact best_right_ok (by omega) hLl hq (hp _)
theorem rows_ok {mfr : List D → M D} {N : Int} (hN : 2 ≤ N ∧ N ≤ 60) (h : ∀ u, Pu u → Ok (mfr [.pur]) u fun d _ => d = .bl true) (ns : List Int) (a : Sd) (u : PuS) :
    Ok (mRet (mCB allD (mCons (mFz (mLcO [2] (mIof rng1 (mCons (mCB maxD (mCons (mC (.int 2)) (mCons (mCB minD (mCons (mCB lenD (mCons (mVar 0) (mNil))) (mCons (mC (.int N)) (mNil)))) (mNil)))) (mNil))) (mGn 2) (mYes) (mWith mfr (mCallL 2 mfL__law_pot (mCons (mVar 0) (mCons (mVar 2) (mNil))))))) (mNil))) [.sh (.scr ns), a, .un]) u fun f _ => f = .rt (.bl true) := by
  simp
  obtain ⟨m, hm, hm2⟩ : ∃ m : Nat, (if 2 < (if N < (ns.length : Int) then N else (ns.length : Int)) then (if N < (ns.length : Int) then N else (ns.length : Int)) else 2) = (m : Int) ∧ m ≤ 60 := by
    refine ⟨(if 2 < (if N < (ns.length : Int) then N else (ns.length : Int)) then (if N < (ns.length : Int) then N else (ns.length : Int)) else 2).toNat, ?_, ?_⟩ <;> split <;> split <;> omega
  rw [hm]
  refine ⟨by omega, by rw [rngD_len]; omega, ?_⟩
  refine (ok_lc (fun _ => True) (fun d => d = .bl true) _ _ trivial ?_).mono ?_
  · intro d hd u _
    obtain ⟨i, hi, rfl⟩ : ∃ i : Nat, i < m ∧ d = .int i := by
      obtain ⟨i, hi, e⟩ := List.mem_iff_getElem.mp hd
      rw [rngD_len] at hi
      exact ⟨i, by omega, by rw [← e]; simp [rngD]⟩
    refine ⟨_, rfl, ?_⟩
    simp
    refine ok_with true ?_
    simp
    refine pot_ok (by omega) fun d s h1 h2 => ?_
    exact ⟨[d, s, 0], rfl, h _ ⟨d, s, 0, rfl, h1, h2⟩⟩
  · rintro ys u' ⟨⟨hl, he⟩, -⟩
    have e1 : ys = (List.replicate ys.length true).map D.bl := by
      clear hl
      induction ys with
      | nil => rfl
      | cons a ys ih =>
        have := he a List.mem_cons_self
        subst this
        rw [List.length_cons, List.replicate_succ, List.map_cons, ← ih fun y hy => he y (List.mem_cons_of_mem _ hy)]
    rw [e1]
    show (blsD ((List.replicate ys.length true).map D.bl)).map (fun bs => D.bl (bs.all id)) = _
    rw [blsD_map]
    simp
theorem of_ok {bs : List Int} (hb : ∀ b ∈ bs, (0 : Int) ≤ b) (hl : bs.length ≤ 12) {u : PuS} {P : D → PuS → Prop} (h : P (courD (bs.map Sum.inl)) u) : Ok (mf_Course_of (.cls "Course" :: bs.map D.int)) u P := by
  unfold mf_Course_of mFnS
  have e1 : (D.cls "Course" :: bs.map D.int).take 1 ++ [.tup ((D.cls "Course" :: bs.map D.int).drop 1)] = [.cls "Course", .tup (bs.map D.int)] := rfl
  rw [e1]
  unfold mb_Course_of
  rw [ok_fn]
  refine seq_cut (fun ρ u' => u' = u ∧ ∃ a b, ρ = [.sh (.cls "Course"), .sh (.tup (bs.map D.int)), a, b]) ?_ ?_
  · simp
    refine ok_list (enumD (bs.map D.int)) (fun k ρ u' => u' = u ∧ ∃ a b, ρ = [.sh (.cls "Course"), .sh (.tup (bs.map D.int)), a, b]) ?_ ?_ _ _ ⟨rfl, .un, .un, rfl⟩
    · rintro k d ρ u' e ⟨rfl, a, b, rfl⟩
      obtain ⟨x, ex, rfl⟩ := enumD_ints e
      have hk : k < bs.length := (List.getElem?_eq_some_iff.mp ex).1
      have hx := hb x (List.mem_of_getElem? ex)
      have n1 : ¬ (k : Int) = 12 := by omega
      refine ⟨_, rfl, ?_⟩
      refine st_go fun R0 hR0 => ?_
      unfold lb_Course_of_1
      simp [hx, n1]
      exact hR0 _ _ ⟨rfl, _, _, rfl⟩
    · exact fun ρ u' h => h
  rintro ρ u' ⟨rfl, a, b, rfl⟩
  rw [ok_ret, ok_makeV rfl]
  have ev : bs.map D.int = ((bs.map Sum.inl : List Ev)).map evD := by rw [List.map_map]; rfl
  have ho : EvsOk (bs.map Sum.inl : List Ev) := ⟨fun e he => by
    obtain ⟨x, hx, rfl⟩ := List.mem_map.mp he
    exact hb x hx, by rw [nB_bills]; exact hl, by rw [nC_bills]; omega⟩
  simp
  rw [ev]
  exact cour_init ho h
def xam : List (Int × Int) := List.replicate 12 (0, 7)
def xb1 : List Int := [5, 0, 9, 7, 1, 1, 1, 1, 1, 1, 1, 1]
def xb2 : List Int := List.replicate 12 100000000000000000000000000001
theorem x1 : lcd (lks xam (asks (xb1.map Sum.inl))) = some (29, 9) := by decide +kernel
theorem x2 : lcd (lks xam (asks (xb2.map Sum.inl))) = some (1200000000000000000000000000012, 100000000000000000000000000001) := by decide +kernel
theorem law_ok (ns : List Int) (u : PuS) : Ok (mf_law [.scr ns]) u fun d _ => d = .bl true := by
  unfold mf_law mb_law
  rw [ok_fn]
  have ax : Am xam := fun q hq => by
    have : q = (0, 7) := List.eq_of_mem_replicate hq
    subst this
    decide
  have x12 : xam.length = 12 := rfl
  refine seq_go fun K R hK hR => ?_
  have em : mulD (.lst [.tup [.int 0, .int 7]]) (.int 12) = some (.lst (xam.map prD)) := rfl
  simp [em]
  refine ⟨by rw [rngD_len]; decide, ?_⟩
  refine ok_lcra (n := 12) (fun n => [.sh (.scr ns), .un, .sh (.int (0 + (n : Nat)))]) (fun n => .str (dns.getD n "")) (fun n hn => rfl) (fun n hn => ?_) ?_
  · unfold ce_law_1
    rw [Int.zero_add]
    exact (ok_of (nm_fs2 _ _ u n hn)).mpr ⟨rfl, rfl⟩
  have en : (List.range 12).map (fun n => D.str (dns.getD n "")) = dns.map D.str := rfl
  rw [en]
  refine lpurse_ok ax (by decide) (dwal_nms (by decide)) ?_
  refine hK _ _ ?_
  clear hK hR K R em
  have hlc : ∀ (bs : List Int) (q : Int × Int), bs.length ≤ 12 → lcd (lks xam (asks (bs.map Sum.inl))) = some q → ∀ {P : D → PuS → Prop} {u : PuS}, P (cardD q) u → Ok (mf_least_card [walD (dwal xam), courD (bs.map Sum.inl)]) u P := fun bs q hb hq {P u} h => lcard_ok (by rw [dwal_len (by decide)]; decide) (by simp; omega) (by rw [dwal_snd (by decide), hq]; exact h)
  have h1 := @hlc xb1 _ (by decide) x1
  have h2 := @hlc xb2 _ (by decide) x2
  have ho1 : ∀ {P : D → PuS → Prop} {u : PuS}, P (courD (xb1.map Sum.inl)) u → Ok (mf_Course_of (.cls "Course" :: xb1.map D.int)) u P := fun {P u} h => of_ok (by decide) (by decide) h
  have hx2 : EvsOk (xb2.map Sum.inl : List Ev) := ⟨fun e he => by
    obtain ⟨x, hx, rfl⟩ := List.mem_map.mp he
    have : x = 100000000000000000000000000001 := List.eq_of_mem_replicate hx
    subst this
    show (0 : Int) ≤ _
    decide, by rw [nB_bills]; decide, by rw [nC_bills]; decide⟩
  have ho2 : ∀ {P : List Str × List D → PuS → Prop} {u : PuS}, P (["passed"], [.tup ((xb2.map Sum.inl : List Ev).map evD)]) u → Ok (mf_Course___init__ [.tup ((xb2.map Sum.inl : List Ev).map evD)]) u P := fun {P u} h => cour_init hx2 h
  have s1 : ∀ u, mf_Card___str__ [cardD (29, 9)] u = some (.str "29/9", u) := fun u => by kernel_rfl
  have s2 : ∀ u, mf_Card___str__ [cardD (1200000000000000000000000000012, 100000000000000000000000000001)] u = some (.str "1200000000000000000000000000012/100000000000000000000000000001", u) := fun u => by kernel_rfl
  show Ok (mSeq _ _ [.sh (.scr ns), .sh (walD (dwal xam)), .un]) u _
  generalize walD (dwal xam) = W0 at h1 h2
  refine seq_go fun K R hK hR => ?_
  simp only [ok_ifS, ok_B, ok_bin, ok_strO, ok_call, ok_cons, ok_nil, ok_var, ok_C, s_vSh, ok_cmeth, List.getElem?_cons_succ, List.getElem?_cons_zero, Option.some.injEq, exists_eq_left', List.length_cons, List.length_nil]
  refine ⟨by decide, ?_⟩
  refine ho1 ⟨trivial, h1 ?_⟩
  show Ok (if (Str.ofString "Card") = Str.ofString "Card" then mTxt mf_Card___str__ [cardD (29, 9)] else lft none) u _
  rw [if_pos rfl, ok_txt, ok_of (s1 u)]
  refine ⟨_, rfl, ?_⟩
  rw [s_neS']
  refine ⟨_, rfl, ?_⟩
  simp
  refine hK _ _ ?_
  clear hK hR K R
  refine seq_go fun K R hK hR => ?_
  have em : mulD (.lst [.int 100000000000000000000000000001]) (.int 12) = some (.lst ((xb2.map Sum.inl : List Ev).map evD)) := rfl
  have ep : powD (.int 10) (.int 29) = some (.int 100000000000000000000000000000) := rfl
  have ea : addD (.int 100000000000000000000000000000) (.int 1) = some (.int 100000000000000000000000000001) := rfl
  have m1 : mulSD (.str "0") (.int 27) = some (.str "000000000000000000000000000") := by kernel_rfl
  have m2 : mulSD (.str "0") (.int 28) = some (.str "0000000000000000000000000000") := by kernel_rfl
  have a1 : addD (.str "12") (.str "000000000000000000000000000") = some (.str "12000000000000000000000000000") := by kernel_rfl
  have a2 : addD (.str "12000000000000000000000000000") (.str "12/1") = some (.str "1200000000000000000000000000012/1") := by kernel_rfl
  have a3 : addD (.str "1200000000000000000000000000012/1") (.str "0000000000000000000000000000") = some (.str "1200000000000000000000000000012/10000000000000000000000000000") := by kernel_rfl
  have a4 : addD (.str "1200000000000000000000000000012/10000000000000000000000000000") (.str "1") = some (.str "1200000000000000000000000000012/100000000000000000000000000001") := by kernel_rfl
  simp only [ok_ifS, ok_B, ok_bin, ok_strO, ok_call, ok_cons, ok_nil, ok_var, ok_C, s_vSh, ok_make, ok_CB, ok_Fz, ok_lstO, List.getElem?_cons_succ, List.getElem?_cons_zero, Option.some.injEq, exists_eq_left', List.length_cons, List.length_nil, ep, ea, em]
  refine ⟨by decide, _, rfl, trivial, ?_⟩
  refine ho2 ⟨trivial, h2 ?_⟩
  show Ok (if (Str.ofString "Card") = Str.ofString "Card" then mTxt mf_Card___str__ [cardD (1200000000000000000000000000012, 100000000000000000000000000001)] else lft none) u _
  rw [if_pos rfl, ok_txt, ok_of (s2 u)]
  refine ⟨_, rfl, _, m1, _, a1, _, a2, _, m2, _, a3, _, a4, ?_⟩
  rw [s_neS']
  refine ⟨_, rfl, ?_⟩
  simp
  refine hK _ _ ?_
  clear hK hR K R
  refine (rows_ok (by decide) (fun u hu => right_ok hu fun _ => rfl) ns _ u).mono ?_
  rintro f u1 rfl
  rfl
theorem hlaw (ns : List Int) (o : HO) (hl : ns.length ≤ 63) : ∃ u', mf_law [.scr ns] (.idle o) = some (.bl true, u') := by
  obtain ⟨d, u', e, rfl⟩ := law_ok ns (.idle o)
  exact ⟨u', e⟩
end G48

set_option maxHeartbeats 4000000
namespace G48
open PySem PySem.Spec PyProof.Rows L2 Mi He Sh S3
section
variable {P : Program} {w : World} {K : PySem.W.Frag} {mg : Str → Option Value} {base : Heap}

theorem bi_is_name {K : PySem.W.Frag} {mg : Str → Option Value} (C : HF fa fn K mg) : Binds K (fdOf K (Pl.ad K (.glob "is_name"))) ["value"] [] := (C.fun_ 0 (d := d_is_name) rfl).bindsN fun _ _ _ _ _ _ us hl => match us, hl with | [_], _ => rfl
theorem ok_is_name (C : HF fa fn K mg) : FO cs P w K mg base 1 (.glob "is_name") ["value"] 1 mf_is_name := by
  have isi := isi_ok (C.fact 0 rfl)
  have f_str := C.free 6 rfl
  have f_isinstance := C.free 2 rfl
  have f_len := C.free 4 rfl
  obtain ⟨_, k_LONGEST_NAME⟩ := C.int 7 rfl
  obtain ⟨_, k_LETTERS⟩ := C.str 8 rfl
  obtain ⟨_, k_DIGITS⟩ := C.str 9 rfl
  have f_all := C.free 10 rfl
  have sc := sc_is_name
  refine fn_mir (C.fun_ 0 (d := d_is_name) rfl) sc_is_name fun cdv A outer s H E p F0 hr => ?_
  exact dBcons (dIfS (PW.pt (dOrT (dNotT (dTst (dCallB (m_isi isi) call_isi rfl f_isinstance bb_isinstance (dCons (dVar 0) (dCons (dTy rfl f_str bb_str) (dNil)))))) (dOrT (dNotT (dTchain op_le m_le op_le m_le (dInt) (dCallB m_len call_lenA rfl f_len bb_len (dCons (dVar 0) (dNil))) (dGI rfl k_LONGEST_NAME))) (dOr1 (dTcmp op_ninA m_nin (dIx ix_seq m_ix (dVar 0) (dInt)) (dGS rfl k_LETTERS) rfl))))) (dBone (dRet (dBl))) (dBnil)) (dBone (dRet (dCallB m_all (cr_all rfl) rfl f_all bb_all (dCons (dFz (dLcO (own := [("sign", 1)]) rfl sc.nd (dIany (dVar 0)) (blkOk_by (by kernel_rfl)) (fun _ _ _ _ _ => dGn (i := 1) sc.nd rfl (by first | exact Or.inl rfl | exact Or.inr rfl)) (fun _ _ _ _ _ => dYes) (fun _ _ _ _ _ => dOrV (dCmp op_inA m_in (dVar 1) (dGS rfl k_LETTERS) rfl) (dOneV (dCmp op_inA m_in (dVar 1) (dGS rfl k_DIGITS) rfl))))) (dNil)))))
theorem bi_wrong_pair {K : PySem.W.Frag} {mg : Str → Option Value} (C : HF fa fn K mg) : Binds K (fdOf K (Pl.ad K (.glob "wrong_pair"))) ["pairs"] [] := (C.fun_ 1 (d := d_wrong_pair) rfl).bindsN fun _ _ _ _ _ _ us hl => match us, hl with | [_], _ => rfl
theorem ok_wrong_pair (C : HF fa fn K mg) : FO cs P w K mg base 2 (.glob "wrong_pair") ["pairs"] 1 mf_wrong_pair := by
  have f_enumerate := C.free 3 rfl
  have isi := isi_ok (C.fact 0 rfl)
  have f_tuple := C.free 1 rfl
  have f_isinstance := C.free 2 rfl
  have f_len := C.free 4 rfl
  obtain ⟨_, k_MOST_CARDS⟩ := C.int 5 rfl
  have G_is_name := ok_is_name (P := P) (w := w) (base := base) C
  have F_is_name := C.fun_ 0 (d := d_is_name) rfl
  have B_is_name := bi_is_name C
  have g_is_name := C.glo 11 rfl
  have g_Card := C.glo 12 rfl
  have sc := sc_wrong_pair
  refine fn_mir (C.fun_ 1 (d := d_wrong_pair) rfl) sc_wrong_pair fun cdv A outer s H E p F0 hr => ?_
  exact dBcons (dSetO (i := 1) sc.nd rfl (by first | exact Or.inl rfl | exact Or.inr rfl) (dLstO (dNil))) (dBcons (dFor PassesOwn.never rfl (dIenumA rfl f_enumerate (dCons (dVar 0) (dNil))) (dGt (n := 2) rfl (dGcons (dGn (i := 2) sc.nd rfl (by first | exact Or.inl rfl | exact Or.inr rfl)) (dGcons (dGn (i := 3) sc.nd rfl (by first | exact Or.inl rfl | exact Or.inr rfl)) (dGnil)))) (dBcons (dIfS (PW.pt (dOrT (dNotT (dTst (dCallB (m_isi isi) call_isi rfl f_isinstance bb_isinstance (dCons (dVar 3) (dCons (dTy rfl f_tuple bb_tuple) (dNil)))))) (dOrT (dTcmp (op_neD hr.units) m_ne (dCallB m_len call_lenA rfl f_len bb_len (dCons (dVar 3) (dNil))) (dInt) (nomark _)) (dOr1 (dTcmp (op_eqD hr.units) m_eq (dVar 2) (dGI rfl k_MOST_CARDS) (nomark _)))))) (dBone (dRet (dVar 2))) (dBnil)) (dBcons (dAsg (dVar 3) (dGt (n := 2) rfl (dGcons (dGn (i := 4) sc.nd rfl (by first | exact Or.inl rfl | exact Or.inr rfl)) (dGcons (dGn (i := 5) sc.nd rfl (by first | exact Or.inl rfl | exact Or.inr rfl)) (dGnil))))) (dBcons (dIfS (dBorT 1 (PW.pt (dOrT (dNotT (dTst (dCall G_is_name (hr.mono (by decide)) rfl g_is_name F_is_name.kp B_is_name (dCons (dVar 4) (dNil))))) (dOrT (dNotT (dTst (dCallB (m_isi isi) call_isi rfl f_isinstance bb_isinstance (dCons (dVar 5) (dCons (dGC (k := "Card") hc_Card rfl g_Card) (dNil)))))) (dOr1 (dTcmp op_inA m_in (dVar 4) (dVar 1) rfl)))))) (dBone (dRet (dVar 2))) (dBnil)) (dBone (dApp 1 (dVar 4))))))) (dBone (dRet (dNon))))
theorem bi_Wallet___init__ {K : PySem.W.Frag} {mg : Str → Option Value} (C : HF fa fn K mg) : Binds K (fdOf K (Pl.ad K (.meth "Wallet" "__init__"))) ["self", "cards"] [] := (C.fun_ 2 (d := d_Wallet___init__) rfl).bindsN fun _ _ _ _ _ _ us hl => match us, hl with | [_, _], _ => rfl
theorem ok_Wallet___init__ (C : HF fa fn K mg) : FnOk P w K mg base CX0 3 (Pl.ad K (.meth "Wallet" "__init__")) (fdOf K (Pl.ad K (.meth "Wallet" "__init__"))) ["self", "cards"] (spI (WW cs K) "Wallet" 1 mf_Wallet___init__) := by
  have isi := isi_ok (C.fact 0 rfl)
  have f_tuple := C.free 1 rfl
  have f_isinstance := C.free 2 rfl
  have G_wrong_pair := ok_wrong_pair (P := P) (w := w) (base := base) C
  have F_wrong_pair := C.fun_ 1 (d := d_wrong_pair) rfl
  have B_wrong_pair := bi_wrong_pair C
  have g_wrong_pair := C.glo 13 rfl
  have n_Wallet_pairs := C.noat 14 rfl
  have c_Wallet := C.cls 15 rfl
  have sc := sc_Wallet___init__
  refine fn_init (ck := "Wallet") (nm := "self") (N := ["cards", "wrong"]) (n := 1) (C.fun_ 2 (d := d_Wallet___init__) rfl) sc_Wallet___init__ rfl fun cdv A outer s H E p F0 H0 sf hr => ?_
  exact dBcons (dIfS (dNotT (dTst (dCallB (m_isi isi) call_isi rfl f_isinstance bb_isinstance (dCons (dVar 1) (dCons (dTy rfl f_tuple bb_tuple) (dNil)))))) (dBone (dNever)) (dBnil)) (dBcons (dSet (i := 2) sc.nd rfl (by first | exact Or.inl rfl | exact Or.inr rfl) (dCall G_wrong_pair (hr.mono (by decide)) rfl g_wrong_pair F_wrong_pair.kp B_wrong_pair (dCons (dVar 1) (dNil)))) (dBcons (dIfS (dTcmp op_isntA m_isnt (dVar 2) (dNon) (nomark _)) (dBone (dNever)) (dBnil)) (dBone (dSelfSet (ck := "Wallet") 0 c_Wallet n_Wallet_pairs (dVar 1)))))
theorem bi_is_integer {K : PySem.W.Frag} {mg : Str → Option Value} (C : HF fa fn K mg) : Binds K (fdOf K (Pl.ad K (.glob "is_integer"))) ["value"] [] := (C.fun_ 3 (d := d_is_integer) rfl).bindsN fun _ _ _ _ _ _ us hl => match us, hl with | [_], _ => rfl
theorem ok_is_integer (C : HF fa fn K mg) : FO cs P w K mg base 1 (.glob "is_integer") ["value"] 1 mf_is_integer := by
  have isi := isi_ok (C.fact 0 rfl)
  have f_int := C.free 18 rfl
  have f_isinstance := C.free 2 rfl
  have f_bool := C.free 19 rfl
  have sc := sc_is_integer
  refine fn_mir (C.fun_ 3 (d := d_is_integer) rfl) sc_is_integer fun cdv A outer s H E p F0 hr => ?_
  exact dBone (dRet (dAndV (dCallB (m_isi isi) call_isi rfl f_isinstance bb_isinstance (dCons (dVar 0) (dCons (dTy rfl f_int bb_int) (dNil)))) (dOneV (dNotV (dCallB (m_isi isi) call_isi rfl f_isinstance bb_isinstance (dCons (dVar 0) (dCons (dTy rfl f_bool bb_bool) (dNil))))))))
theorem bi_is_natural {K : PySem.W.Frag} {mg : Str → Option Value} (C : HF fa fn K mg) : Binds K (fdOf K (Pl.ad K (.glob "is_natural"))) ["value"] [] := (C.fun_ 4 (d := d_is_natural) rfl).bindsN fun _ _ _ _ _ _ us hl => match us, hl with | [_], _ => rfl
theorem ok_is_natural (C : HF fa fn K mg) : FO cs P w K mg base 2 (.glob "is_natural") ["value"] 1 mf_is_natural := by
  have G_is_integer := ok_is_integer (P := P) (w := w) (base := base) C
  have F_is_integer := C.fun_ 3 (d := d_is_integer) rfl
  have B_is_integer := bi_is_integer C
  have g_is_integer := C.glo 20 rfl
  have sc := sc_is_natural
  refine fn_mir (C.fun_ 4 (d := d_is_natural) rfl) sc_is_natural fun cdv A outer s H E p F0 hr => ?_
  exact dBone (dRet (dAndV (dCall G_is_integer (hr.mono (by decide)) rfl g_is_integer F_is_integer.kp B_is_integer (dCons (dVar 0) (dNil))) (dOneV (dCmp op_ge m_ge (dVar 0) (dInt) (nomark _)))))
theorem bi_Card___init__ {K : PySem.W.Frag} {mg : Str → Option Value} (C : HF fa fn K mg) : Binds K (fdOf K (Pl.ad K (.meth "Card" "__init__"))) ["self", "balance", "limit"] [] := (C.fun_ 5 (d := d_Card___init__) rfl).bindsN fun _ _ _ _ _ _ us hl => match us, hl with | [_, _, _], _ => rfl
theorem ok_Card___init__ (C : HF fa fn K mg) : FnOk P w K mg base CX0 3 (Pl.ad K (.meth "Card" "__init__")) (fdOf K (Pl.ad K (.meth "Card" "__init__"))) ["self", "balance", "limit"] (spI (WW cs K) "Card" 2 mf_Card___init__) := by
  have G_is_natural := ok_is_natural (P := P) (w := w) (base := base) C
  have F_is_natural := C.fun_ 4 (d := d_is_natural) rfl
  have B_is_natural := bi_is_natural C
  have g_is_natural := C.glo 21 rfl
  obtain ⟨_, k_MOST_DAYS⟩ := C.int 22 rfl
  have n_Card_held := C.noat 23 rfl
  have c_Card := C.cls 24 rfl
  have n_Card_daily := C.noat 25 rfl
  have sc := sc_Card___init__
  refine fn_init (ck := "Card") (nm := "self") (N := ["balance", "limit"]) (n := 2) (C.fun_ 5 (d := d_Card___init__) rfl) sc_Card___init__ rfl fun cdv A outer s H E p F0 H0 sf hr => ?_
  exact dBcons (dIfS (dNotT (dTst (dCall G_is_natural (hr.mono (by decide)) rfl g_is_natural F_is_natural.kp B_is_natural (dCons (dVar 1) (dNil))))) (dBone (dNever)) (dBnil)) (dBcons (dIfS (PW.pt (dOrT (dNotT (dTst (dCall G_is_natural (hr.mono (by decide)) rfl g_is_natural F_is_natural.kp B_is_natural (dCons (dVar 2) (dNil))))) (dOr1 (dTcmp (op_eqD hr.units) m_eq (dVar 2) (dInt) (nomark _))))) (dBone (dNever)) (dBnil)) (dBcons (dIfS (dTcmp op_gt m_gt (dVar 1) (dBin op_mulA m_mul (dGI rfl k_MOST_DAYS) (dVar 2)) (nomark _)) (dBone (dNever)) (dBnil)) (dBcons (dSelfSet (ck := "Card") 0 c_Card n_Card_held (dVar 1)) (dBone (dSelfSet (ck := "Card") 0 c_Card n_Card_daily (dVar 2))))))
theorem bi__law_purse {K : PySem.W.Frag} {mg : Str → Option Value} (C : HF fa fn K mg) : Binds K (fdOf K (Pl.ad K (.glob "_law_purse"))) ["_law_cards", "_law_names"] [] := (C.fun_ 6 (d := d__law_purse) rfl).bindsN fun _ _ _ _ _ _ us hl => match us, hl with | [_, _], _ => rfl
theorem ok__law_purse (C : HF fa fn K mg) : FO cs P w K mg base 5 (.glob "_law_purse") ["_law_cards", "_law_names"] 2 mf__law_purse := by
  have G_Wallet___init__ := ok_Wallet___init__ (P := P) (w := w) (base := base) C
  have F_Wallet___init__ := C.fun_ 2 (d := d_Wallet___init__) rfl
  have B_Wallet___init__ := bi_Wallet___init__ C
  have m_Wallet := C.mkr 16 rfl
  have f_len := C.free 4 rfl
  have f_range := C.free 17 rfl
  have G_Card___init__ := ok_Card___init__ (P := P) (w := w) (base := base) C
  have F_Card___init__ := C.fun_ 5 (d := d_Card___init__) rfl
  have B_Card___init__ := bi_Card___init__ C
  have m_Card := C.mkr 26 rfl
  have g_Card := C.glo 12 rfl
  have f_tuple := C.free 1 rfl
  have g_Wallet := C.glo 27 rfl
  have sc := sc__law_purse
  refine fn_mir (C.fun_ 6 (d := d__law_purse) rfl) sc__law_purse fun cdv A outer s H E p F0 hr => ?_
  exact dBone (dRet (dMake (ck := "Wallet") hc_Wallet m_Wallet G_Wallet___init__ (hr.mono (by decide)) rfl g_Wallet B_Wallet___init__ (dCons (dCallT m_tup call_tuple_of rfl f_tuple bb_tuple (dCons (dFz (dLcO (own := [("_law_k", 2)]) rfl sc.nd (dIrng1 rfl f_range (dCons (dCallB m_len call_lenA rfl f_len bb_len (dCons (dVar 0) (dNil))) (dNil))) (blkOk_by (by kernel_rfl)) (fun _ _ _ _ _ => dGn (i := 2) sc.nd rfl (by first | exact Or.inl rfl | exact Or.inr rfl)) (fun _ _ _ _ _ => dYes) (fun _ _ _ _ _ => dTup (dCons (dIx ix_seq m_ix (dVar 1) (dVar 2)) (dCons (dMake (ck := "Card") hc_Card m_Card G_Card___init__ (hr.mono (by decide)) rfl g_Card B_Card___init__ (dCons (dIx ix_seq m_ix (dIx ix_seq m_ix (dVar 0) (dVar 2)) (dInt)) (dCons (dIx ix_seq m_ix (dIx ix_seq m_ix (dVar 0) (dVar 2)) (dInt)) (dNil)))) (dNil)))))) (dNil))) (dNil))))
theorem bi_check_wallet {K : PySem.W.Frag} {mg : Str → Option Value} (C : HF fa fn K mg) : Binds K (fdOf K (Pl.ad K (.glob "check_wallet"))) ["value"] [] := (C.fun_ 7 (d := d_check_wallet) rfl).bindsN fun _ _ _ _ _ _ us hl => match us, hl with | [_], _ => rfl
theorem ok_check_wallet (C : HF fa fn K mg) : FO cs P w K mg base 1 (.glob "check_wallet") ["value"] 1 mf_check_wallet := by
  have isi := isi_ok (C.fact 0 rfl)
  have g_Wallet := C.glo 27 rfl
  have f_isinstance := C.free 2 rfl
  have sc := sc_check_wallet
  refine fn_mir (C.fun_ 7 (d := d_check_wallet) rfl) sc_check_wallet fun cdv A outer s H E p F0 hr => ?_
  exact dBone (dIfS (dNotT (dTst (dCallB (m_isi isi) call_isi rfl f_isinstance bb_isinstance (dCons (dVar 0) (dCons (dGC (k := "Wallet") hc_Wallet rfl g_Wallet) (dNil)))))) (dBone (dNever)) (dBnil))
theorem bi_check_course {K : PySem.W.Frag} {mg : Str → Option Value} (C : HF fa fn K mg) : Binds K (fdOf K (Pl.ad K (.glob "check_course"))) ["value"] [] := (C.fun_ 8 (d := d_check_course) rfl).bindsN fun _ _ _ _ _ _ us hl => match us, hl with | [_], _ => rfl
theorem ok_check_course (C : HF fa fn K mg) : FO cs P w K mg base 1 (.glob "check_course") ["value"] 1 mf_check_course := by
  have isi := isi_ok (C.fact 0 rfl)
  have g_Course := C.glo 30 rfl
  have f_isinstance := C.free 2 rfl
  have sc := sc_check_course
  refine fn_mir (C.fun_ 8 (d := d_check_course) rfl) sc_check_course fun cdv A outer s H E p F0 hr => ?_
  exact dBone (dIfS (dNotT (dTst (dCallB (m_isi isi) call_isi rfl f_isinstance bb_isinstance (dCons (dVar 0) (dCons (dGC (k := "Course") hc_Course rfl g_Course) (dNil)))))) (dBone (dNever)) (dBnil))
theorem bi_worth {K : PySem.W.Frag} {mg : Str → Option Value} (C : HF fa fn K mg) : Binds K (fdOf K (Pl.ad K (.glob "worth"))) ["balance", "limit", "days"] [] := (C.fun_ 9 (d := d_worth) rfl).bindsN fun _ _ _ _ _ _ us hl => match us, hl with | [_, _, _], _ => rfl
theorem ok_worth (C : HF fa fn K mg) : FO cs P w K mg base 1 (.glob "worth") ["balance", "limit", "days"] 3 mf_worth := by
  have f_min := C.free 32 rfl
  have sc := sc_worth
  refine fn_mir (C.fun_ 9 (d := d_worth) rfl) sc_worth fun cdv A outer s H E p F0 hr => ?_
  exact dBone (dRet (dCallB m_min (cr_minA rfl) rfl f_min bb_min (dCons (dVar 0) (dCons (dBin op_mulA m_mul (dVar 2) (dVar 1)) (dNil)))))
theorem bi_lacking {K : PySem.W.Frag} {mg : Str → Option Value} (C : HF fa fn K mg) : Binds K (fdOf K (Pl.ad K (.glob "lacking"))) ["amounts", "asks"] [] := (C.fun_ 10 (d := d_lacking) rfl).bindsN fun _ _ _ _ _ _ us hl => match us, hl with | [_, _], _ => rfl
theorem ok_lacking (C : HF fa fn K mg) : FO cs P w K mg base 2 (.glob "lacking") ["amounts", "asks"] 2 mf_lacking := by
  have f_len := C.free 4 rfl
  have f_range := C.free 17 rfl
  have G_worth := ok_worth (P := P) (w := w) (base := base) C
  have F_worth := C.fun_ 9 (d := d_worth) rfl
  have B_worth := bi_worth C
  have g_worth := C.glo 33 rfl
  have f_sum := C.free 34 rfl
  have f_zip := C.free 35 rfl
  have f_max := C.free 36 rfl
  have sc := sc_lacking
  refine fn_mir (C.fun_ 10 (d := d_lacking) rfl) sc_lacking fun cdv A outer s H E p F0 hr => ?_
  exact dBcons (dLcSet 2 [] (own := [("day", 3)]) rfl sc.nd rfl rfl (sw_true rfl rfl rfl (by kernel_rfl)) (dIrng1 rfl f_range (dCons (dCallB m_len call_lenA rfl f_len bb_len (dCons (dVar 1) (dNil))) (dNil))) (blkOk_by (by kernel_rfl)) (fun _ _ _ _ _ => dGn (i := 3) sc.nd rfl (by first | exact Or.inl rfl | exact Or.inr rfl)) (fun _ _ _ _ _ => dYes) (fun _ _ _ _ _ => dCallB m_sum (cr_sumA rfl) rfl f_sum bb_sum (dCons (dFz (dLcO (own := [("balance", 4), ("limit", 5)]) rfl sc.nd (dIany (dVar 0)) (blkOk_by (by kernel_rfl)) (fun _ _ _ _ _ => dGt (n := 2) rfl (dGcons (dGn (i := 4) sc.nd rfl (by first | exact Or.inl rfl | exact Or.inr rfl)) (dGcons (dGn (i := 5) sc.nd rfl (by first | exact Or.inl rfl | exact Or.inr rfl)) (dGnil)))) (fun _ _ _ _ _ => dYes) (fun _ _ _ _ _ => dCall G_worth (hr.mono (by decide)) rfl g_worth F_worth.kp B_worth (dCons (dVar 4) (dCons (dVar 5) (dCons (dBin op_addA m_add (dVar 3) (dInt)) (dNil))))))) (dNil)))) (dBone (dRet (dFz (dLcO (own := [("wanted", 6), ("room", 7)]) rfl sc.nd (dIzipA rfl f_zip (dCons (dVar 1) (dCons (dVar 2) (dNil)))) (blkOk_by (by kernel_rfl)) (fun _ _ _ _ _ => dGt (n := 2) rfl (dGcons (dGn (i := 6) sc.nd rfl (by first | exact Or.inl rfl | exact Or.inr rfl)) (dGcons (dGn (i := 7) sc.nd rfl (by first | exact Or.inl rfl | exact Or.inr rfl)) (dGnil)))) (fun _ _ _ _ _ => dYes) (fun _ _ _ _ _ => dCallB m_max (cr_maxA rfl) rfl f_max bb_max (dCons (dInt) (dCons (dBin op_sub m_sub (dVar 6) (dVar 7)) (dNil))))))))
theorem bi_Card_limit {K : PySem.W.Frag} {mg : Str → Option Value} (C : HF fa fn K mg) : Binds K (fdOf K (Pl.ad K (.prop "Card" "limit"))) ["self"] [] := (C.fun_ 11 (d := d_Card_limit) rfl).bindsN fun _ _ _ _ _ _ us hl => match us, hl with | [_], _ => rfl
theorem ok_Card_limit (C : HF fa fn K mg) : FO cs P w K mg base 1 (.prop "Card" "limit") ["self"] 1 mf_Card_limit := by
  have n_Card_daily := C.noat 25 rfl
  have c_Card := C.cls 24 rfl
  have sc := sc_Card_limit
  refine fn_mir (C.fun_ 11 (d := d_Card_limit) rfl) sc_Card_limit fun cdv A outer s H E p F0 hr => ?_
  exact dBone (dRet (dFld (ck := "Card") (ks := ["held", "daily"]) 1 rfl (by decide) c_Card n_Card_daily (dVar 0)))
theorem bi_Card_balance {K : PySem.W.Frag} {mg : Str → Option Value} (C : HF fa fn K mg) : Binds K (fdOf K (Pl.ad K (.prop "Card" "balance"))) ["self"] [] := (C.fun_ 12 (d := d_Card_balance) rfl).bindsN fun _ _ _ _ _ _ us hl => match us, hl with | [_], _ => rfl
theorem ok_Card_balance (C : HF fa fn K mg) : FO cs P w K mg base 1 (.prop "Card" "balance") ["self"] 1 mf_Card_balance := by
  have n_Card_held := C.noat 23 rfl
  have c_Card := C.cls 24 rfl
  have sc := sc_Card_balance
  refine fn_mir (C.fun_ 12 (d := d_Card_balance) rfl) sc_Card_balance fun cdv A outer s H E p F0 hr => ?_
  exact dBone (dRet (dFld (ck := "Card") (ks := ["held", "daily"]) 0 rfl (by decide) c_Card n_Card_held (dVar 0)))
theorem bi_asked_sets {K : PySem.W.Frag} {mg : Str → Option Value} (C : HF fa fn K mg) : Binds K (fdOf K (Pl.ad K (.glob "asked_sets"))) ["events"] [] := (C.fun_ 13 (d := d_asked_sets) rfl).bindsN fun _ _ _ _ _ _ us hl => match us, hl with | [_], _ => rfl
theorem ok_asked_sets (C : HF fa fn K mg) : FO cs P w K mg base 3 (.glob "asked_sets") ["events"] 1 mf_asked_sets := by
  have f_list := C.free 37 rfl
  have f_enumerate := C.free 3 rfl
  have f_reversed := C.free 38 rfl
  have isi := isi_ok (C.fact 0 rfl)
  have g_Card := C.glo 12 rfl
  have f_isinstance := C.free 2 rfl
  have G_worth := ok_worth (P := P) (w := w) (base := base) C
  have F_worth := C.fun_ 9 (d := d_worth) rfl
  have B_worth := bi_worth C
  have f_len := C.free 4 rfl
  have G_Card_limit := ok_Card_limit (P := P) (w := w) (base := base) C
  have F_Card_limit := C.fun_ 11 (d := d_Card_limit) rfl
  have B_Card_limit := bi_Card_limit C
  have p_Card_limit := prop_ok (C.fact 39 rfl)
  have c_Card := C.cls 24 rfl
  have G_Card_balance := ok_Card_balance (P := P) (w := w) (base := base) C
  have F_Card_balance := C.fun_ 12 (d := d_Card_balance) rfl
  have B_Card_balance := bi_Card_balance C
  have p_Card_balance := prop_ok (C.fact 40 rfl)
  have g_worth := C.glo 33 rfl
  have f_range := C.free 17 rfl
  have sc := sc_asked_sets
  refine fn_mir (C.fun_ 13 (d := d_asked_sets) rfl) sc_asked_sets fun cdv A outer s H E p F0 hr => ?_
  exact dBcons (dSet (i := 1) sc.nd rfl (by first | exact Or.inl rfl | exact Or.inr rfl) (dFz (dLstO (dCons (dTup (dCons (dInt) (dCons (dTup (dNil)) (dNil)))) (dNil))))) (dBcons (dFor PassesOwn.never rfl (dIrev rfl f_reversed (dCons (dLstEn rfl rfl f_list rfl f_enumerate (dCons (dVar 0) (dNil))) (dNil))) (dGt (n := 2) rfl (dGcons (dGn (i := 2) sc.nd rfl (by first | exact Or.inl rfl | exact Or.inr rfl)) (dGcons (dGn (i := 3) sc.nd rfl (by first | exact Or.inl rfl | exact Or.inr rfl)) (dGnil)))) (dBone (dIfS (dTst (dCallB (m_isi isi) call_isi rfl f_isinstance bb_isinstance (dCons (dVar 3) (dCons (dGC (k := "Card") hc_Card rfl g_Card) (dNil))))) (dBone (dSet (i := 1) sc.nd rfl (by first | exact Or.inl rfl | exact Or.inr rfl) (dFz (dLcO (own := [("asks", 6), ("days", 7)]) rfl sc.nd (dIany (dVar 1)) (blkOk_by (by kernel_rfl)) (fun _ _ _ _ _ => dGt (n := 2) rfl (dGcons (dGn (i := 6) sc.nd rfl (by first | exact Or.inl rfl | exact Or.inr rfl)) (dGcons (dGn (i := 7) sc.nd rfl (by first | exact Or.inl rfl | exact Or.inr rfl)) (dGnil)))) (fun _ _ _ _ _ => dYes) (fun _ _ _ _ _ => dTup (dCons (dBin op_sub m_sub (dVar 6) (dCall G_worth (hr.mono (by decide)) rfl g_worth F_worth.kp B_worth (dCons (dProp (ck := "Card") (dVar 3) c_Card p_Card_balance G_Card_balance (hr.mono (by decide)) B_Card_balance) (dCons (dProp (ck := "Card") (dVar 3) c_Card p_Card_limit G_Card_limit (hr.mono (by decide)) B_Card_limit) (dCons (dCallB m_len call_lenA rfl f_len bb_len (dCons (dVar 7) (dNil))) (dNil)))))) (dCons (dVar 7) (dNil)))))))) (dBcons (dSet (i := 4) sc.nd rfl (by first | exact Or.inl rfl | exact Or.inr rfl) (dFz (dLcO (own := [("asks", 6), ("days", 7)]) rfl sc.nd (dIany (dVar 1)) (blkOk_by (by kernel_rfl)) (fun _ _ _ _ _ => dGt (n := 2) rfl (dGcons (dGn (i := 6) sc.nd rfl (by first | exact Or.inl rfl | exact Or.inr rfl)) (dGcons (dGn (i := 7) sc.nd rfl (by first | exact Or.inl rfl | exact Or.inr rfl)) (dGnil)))) (fun _ _ _ _ _ => dYes) (fun _ _ _ _ _ => dTup (dCons (dBin op_addA m_add (dVar 6) (dVar 3)) (dCons (dBin op_addA m_add (dTup (dCons (dVar 2) (dNil))) (dVar 7)) (dNil))))))) (dBcons (dLcSet 5 [] (own := [("k", 8)]) rfl sc.nd rfl rfl (sw_true rfl rfl rfl (by kernel_rfl)) (dIrng2 rfl f_range (dCons (dInt) (dCons (dCallB m_len call_lenA rfl f_len bb_len (dCons (dVar 1) (dNil))) (dNil)))) (blkOk_by (by kernel_rfl)) (fun _ _ _ _ _ => dGn (i := 8) sc.nd rfl (by first | exact Or.inl rfl | exact Or.inr rfl)) (fun _ _ _ _ _ => dYes) (fun _ _ _ _ _ => dIf (dTcmp op_ge m_ge (dIx ix_seq m_ix (dIx ix_seq m_ix (dVar 1) (dVar 8)) (dInt)) (dIx ix_seq m_ix (dIx ix_seq m_ix (dVar 4) (dBin op_sub m_sub (dVar 8) (dInt))) (dInt)) (nomark _)) (dIx ix_seq m_ix (dVar 1) (dVar 8)) (dIx ix_seq m_ix (dVar 4) (dBin op_sub m_sub (dVar 8) (dInt))))) (dBone (dSet (i := 1) sc.nd rfl (by first | exact Or.inl rfl | exact Or.inr rfl) (dBin op_addA m_add (dBin op_addA m_add (dFz (dLstO (dCons (dIx ix_seq m_ix (dVar 1) (dInt)) (dNil)))) (dVar 5)) (dFz (dLstO (dCons (dIx ix_seq m_ix (dVar 4) (dUn un_neg m_neg (dInt))) (dNil)))))))))))) (dBone (dRet (dVar 1))))
theorem bi_asked {K : PySem.W.Frag} {mg : Str → Option Value} (C : HF fa fn K mg) : Binds K (fdOf K (Pl.ad K (.glob "asked"))) ["events"] [] := (C.fun_ 14 (d := d_asked) rfl).bindsN fun _ _ _ _ _ _ us hl => match us, hl with | [_], _ => rfl
theorem ok_asked (C : HF fa fn K mg) : FO cs P w K mg base 4 (.glob "asked") ["events"] 1 mf_asked := by
  have G_asked_sets := ok_asked_sets (P := P) (w := w) (base := base) C
  have F_asked_sets := C.fun_ 13 (d := d_asked_sets) rfl
  have B_asked_sets := bi_asked_sets C
  have g_asked_sets := C.glo 41 rfl
  have sc := sc_asked
  refine fn_mir (C.fun_ 14 (d := d_asked) rfl) sc_asked fun cdv A outer s H E p F0 hr => ?_
  exact dBone (dRet (dSl (dFz (dLcO (own := [("asks", 1), ("days", 2)]) rfl sc.nd (dIany (dCall G_asked_sets (hr.mono (by decide)) rfl g_asked_sets F_asked_sets.kp B_asked_sets (dCons (dVar 0) (dNil)))) (blkOk_by (by kernel_rfl)) (fun _ _ _ _ _ => dGt (n := 2) rfl (dGcons (dGn (i := 1) sc.nd rfl (by first | exact Or.inl rfl | exact Or.inr rfl)) (dGcons (dGn (i := 2) sc.nd rfl (by first | exact Or.inl rfl | exact Or.inr rfl)) (dGnil)))) (fun _ _ _ _ _ => dYes) (fun _ _ _ _ _ => dVar 1))) (dOs (dInt)) (dOn)))
theorem bi_Course_events {K : PySem.W.Frag} {mg : Str → Option Value} (C : HF fa fn K mg) : Binds K (fdOf K (Pl.ad K (.prop "Course" "events"))) ["self"] [] := (C.fun_ 15 (d := d_Course_events) rfl).bindsN fun _ _ _ _ _ _ us hl => match us, hl with | [_], _ => rfl
theorem ok_Course_events (C : HF fa fn K mg) : FO cs P w K mg base 1 (.prop "Course" "events") ["self"] 1 mf_Course_events := by
  have n_Course_passed := C.noat 42 rfl
  have c_Course := C.cls 43 rfl
  have sc := sc_Course_events
  refine fn_mir (C.fun_ 15 (d := d_Course_events) rfl) sc_Course_events fun cdv A outer s H E p F0 hr => ?_
  exact dBone (dRet (dFld (ck := "Course") (ks := ["passed"]) 0 rfl (by decide) c_Course n_Course_passed (dVar 0)))
theorem bi_Wallet_cards {K : PySem.W.Frag} {mg : Str → Option Value} (C : HF fa fn K mg) : Binds K (fdOf K (Pl.ad K (.prop "Wallet" "cards"))) ["self"] [] := (C.fun_ 16 (d := d_Wallet_cards) rfl).bindsN fun _ _ _ _ _ _ us hl => match us, hl with | [_], _ => rfl
theorem ok_Wallet_cards (C : HF fa fn K mg) : FO cs P w K mg base 1 (.prop "Wallet" "cards") ["self"] 1 mf_Wallet_cards := by
  have n_Wallet_pairs := C.noat 14 rfl
  have c_Wallet := C.cls 15 rfl
  have f_tuple := C.free 1 rfl
  have sc := sc_Wallet_cards
  refine fn_mir (C.fun_ 16 (d := d_Wallet_cards) rfl) sc_Wallet_cards fun cdv A outer s H E p F0 hr => ?_
  exact dBone (dRet (dCallT m_tup call_tuple_of rfl f_tuple bb_tuple (dCons (dFz (dLcO (own := [("name", 1), ("card", 2)]) rfl sc.nd (dIany (dFld (ck := "Wallet") (ks := ["pairs"]) 0 rfl (by decide) c_Wallet n_Wallet_pairs (dVar 0))) (blkOk_by (by kernel_rfl)) (fun _ _ _ _ _ => dGt (n := 2) rfl (dGcons (dGn (i := 1) sc.nd rfl (by first | exact Or.inl rfl | exact Or.inr rfl)) (dGcons (dGn (i := 2) sc.nd rfl (by first | exact Or.inl rfl | exact Or.inr rfl)) (dGnil)))) (fun _ _ _ _ _ => dYes) (fun _ _ _ _ _ => dVar 2))) (dNil))))
theorem bi_amounts_of {K : PySem.W.Frag} {mg : Str → Option Value} (C : HF fa fn K mg) : Binds K (fdOf K (Pl.ad K (.glob "amounts_of"))) ["wallet"] [] := (C.fun_ 17 (d := d_amounts_of) rfl).bindsN fun _ _ _ _ _ _ us hl => match us, hl with | [_], _ => rfl
theorem ok_amounts_of (C : HF fa fn K mg) : FO cs P w K mg base 3 (.glob "amounts_of") ["wallet"] 1 mf_amounts_of := by
  have G_Wallet_cards := ok_Wallet_cards (P := P) (w := w) (base := base) C
  have F_Wallet_cards := C.fun_ 16 (d := d_Wallet_cards) rfl
  have B_Wallet_cards := bi_Wallet_cards C
  have p_Wallet_cards := prop_ok (C.fact 46 rfl)
  have c_Wallet := C.cls 15 rfl
  have G_Card_limit := ok_Card_limit (P := P) (w := w) (base := base) C
  have F_Card_limit := C.fun_ 11 (d := d_Card_limit) rfl
  have B_Card_limit := bi_Card_limit C
  have p_Card_limit := prop_ok (C.fact 39 rfl)
  have c_Card := C.cls 24 rfl
  have G_Card_balance := ok_Card_balance (P := P) (w := w) (base := base) C
  have F_Card_balance := C.fun_ 12 (d := d_Card_balance) rfl
  have B_Card_balance := bi_Card_balance C
  have p_Card_balance := prop_ok (C.fact 40 rfl)
  have f_tuple := C.free 1 rfl
  have sc := sc_amounts_of
  refine fn_mir (C.fun_ 17 (d := d_amounts_of) rfl) sc_amounts_of fun cdv A outer s H E p F0 hr => ?_
  exact dBone (dRet (dCallT m_tup call_tuple_of rfl f_tuple bb_tuple (dCons (dFz (dLcO (own := [("card", 1)]) rfl sc.nd (dIany (dProp (ck := "Wallet") (dVar 0) c_Wallet p_Wallet_cards G_Wallet_cards (hr.mono (by decide)) B_Wallet_cards)) (blkOk_by (by kernel_rfl)) (fun _ _ _ _ _ => dGn (i := 1) sc.nd rfl (by first | exact Or.inl rfl | exact Or.inr rfl)) (fun _ _ _ _ _ => dYes) (fun _ _ _ _ _ => dTup (dCons (dProp (ck := "Card") (dVar 1) c_Card p_Card_balance G_Card_balance (hr.mono (by decide)) B_Card_balance) (dCons (dProp (ck := "Card") (dVar 1) c_Card p_Card_limit G_Card_limit (hr.mono (by decide)) B_Card_limit) (dNil)))))) (dNil))))
theorem bi_upward {K : PySem.W.Frag} {mg : Str → Option Value} (C : HF fa fn K mg) : Binds K (fdOf K (Pl.ad K (.glob "upward"))) ["number", "parts_here"] [] := (C.fun_ 18 (d := d_upward) rfl).bindsN fun _ _ _ _ _ _ us hl => match us, hl with | [_, _], _ => rfl
theorem ok_upward (C : HF fa fn K mg) : FO cs P w K mg base 1 (.glob "upward") ["number", "parts_here"] 2 mf_upward := by
  have sc := sc_upward
  refine fn_mir (C.fun_ 18 (d := d_upward) rfl) sc_upward fun cdv A outer s H E p F0 hr => ?_
  exact dBone (dRet (dUn un_neg m_neg (dBin op_fdivW m_fdiv (dUn un_neg m_neg (dVar 0)) (dVar 1))))
theorem bi_least_card {K : PySem.W.Frag} {mg : Str → Option Value} (C : HF fa fn K mg) : Binds K (fdOf K (Pl.ad K (.glob "least_card"))) ["wallet", "course"] [] := (C.fun_ 19 (d := d_least_card) rfl).bindsN fun _ _ _ _ _ _ us hl => match us, hl with | [_, _], _ => rfl
theorem ok_least_card (C : HF fa fn K mg) : FO cs P w K mg base 5 (.glob "least_card") ["wallet", "course"] 2 mf_least_card := by
  have G_check_wallet := ok_check_wallet (P := P) (w := w) (base := base) C
  have F_check_wallet := C.fun_ 7 (d := d_check_wallet) rfl
  have B_check_wallet := bi_check_wallet C
  have g_check_wallet := C.glo 29 rfl
  have G_check_course := ok_check_course (P := P) (w := w) (base := base) C
  have F_check_course := C.fun_ 8 (d := d_check_course) rfl
  have B_check_course := bi_check_course C
  have g_check_course := C.glo 31 rfl
  have G_lacking := ok_lacking (P := P) (w := w) (base := base) C
  have F_lacking := C.fun_ 10 (d := d_lacking) rfl
  have B_lacking := bi_lacking C
  have G_asked := ok_asked (P := P) (w := w) (base := base) C
  have F_asked := C.fun_ 14 (d := d_asked) rfl
  have B_asked := bi_asked C
  have G_Course_events := ok_Course_events (P := P) (w := w) (base := base) C
  have F_Course_events := C.fun_ 15 (d := d_Course_events) rfl
  have B_Course_events := bi_Course_events C
  have p_Course_events := prop_ok (C.fact 44 rfl)
  have c_Course := C.cls 43 rfl
  have g_asked := C.glo 45 rfl
  have G_amounts_of := ok_amounts_of (P := P) (w := w) (base := base) C
  have F_amounts_of := C.fun_ 17 (d := d_amounts_of) rfl
  have B_amounts_of := bi_amounts_of C
  have g_amounts_of := C.glo 47 rfl
  have g_lacking := C.glo 48 rfl
  have f_max := C.free 36 rfl
  have G_Card___init__ := ok_Card___init__ (P := P) (w := w) (base := base) C
  have F_Card___init__ := C.fun_ 5 (d := d_Card___init__) rfl
  have B_Card___init__ := bi_Card___init__ C
  have m_Card := C.mkr 26 rfl
  have f_enumerate := C.free 3 rfl
  have G_upward := ok_upward (P := P) (w := w) (base := base) C
  have F_upward := C.fun_ 18 (d := d_upward) rfl
  have B_upward := bi_upward C
  have g_upward := C.glo 49 rfl
  have g_Card := C.glo 12 rfl
  have sc := sc_least_card
  refine fn_mir (C.fun_ 19 (d := d_least_card) rfl) sc_least_card fun cdv A outer s H E p F0 hr => ?_
  exact dBcons (dExpr (dCall G_check_wallet (hr.mono (by decide)) rfl g_check_wallet F_check_wallet.kp B_check_wallet (dCons (dVar 0) (dNil)))) (dBcons (dExpr (dCall G_check_course (hr.mono (by decide)) rfl g_check_course F_check_course.kp B_check_course (dCons (dVar 1) (dNil)))) (dBcons (dSet (i := 2) sc.nd rfl (by first | exact Or.inl rfl | exact Or.inr rfl) (dCall G_lacking (hr.mono (by decide)) rfl g_lacking F_lacking.kp B_lacking (dCons (dCall G_amounts_of (hr.mono (by decide)) rfl g_amounts_of F_amounts_of.kp B_amounts_of (dCons (dVar 0) (dNil))) (dCons (dCall G_asked (hr.mono (by decide)) rfl g_asked F_asked.kp B_asked (dCons (dProp (ck := "Course") (dVar 1) c_Course p_Course_events G_Course_events (hr.mono (by decide)) B_Course_events) (dNil))) (dNil))))) (dBcons (dSet (i := 3) sc.nd rfl (by first | exact Or.inl rfl | exact Or.inr rfl) (dMaxDf rfl (room65' hr) rfl f_max (dCons (dVar 2) (dNil)))) (dBcons (dIfS (dTcmp (op_eqD hr.units) m_eq (dVar 3) (dInt) (nomark _)) (dBone (dRet (dNon))) (dBnil)) (dBone (dRet (dMake (ck := "Card") hc_Card m_Card G_Card___init__ (hr.mono (by decide)) rfl g_Card B_Card___init__ (dCons (dVar 3) (dCons (dCallB m_max (cr_maxA rfl) rfl f_max bb_max (dCons (dFz (dLcO (own := [("day", 4), ("lack", 5)]) rfl sc.nd (dIenumA rfl f_enumerate (dCons (dVar 2) (dNil))) (blkOk_by (by kernel_rfl)) (fun _ _ _ _ _ => dGt (n := 2) rfl (dGcons (dGn (i := 4) sc.nd rfl (by first | exact Or.inl rfl | exact Or.inr rfl)) (dGcons (dGn (i := 5) sc.nd rfl (by first | exact Or.inl rfl | exact Or.inr rfl)) (dGnil)))) (fun _ _ _ _ _ => dYes) (fun _ _ _ _ _ => dCall G_upward (hr.mono (by decide)) rfl g_upward F_upward.kp B_upward (dCons (dVar 5) (dCons (dBin op_addA m_add (dVar 4) (dInt)) (dNil)))))) (dNil))) (dNil))))))))))
theorem bi_wrong_event {K : PySem.W.Frag} {mg : Str → Option Value} (C : HF fa fn K mg) : Binds K (fdOf K (Pl.ad K (.glob "wrong_event"))) ["events"] [] := (C.fun_ 20 (d := d_wrong_event) rfl).bindsN fun _ _ _ _ _ _ us hl => match us, hl with | [_], _ => rfl
theorem ok_wrong_event (C : HF fa fn K mg) : FO cs P w K mg base 3 (.glob "wrong_event") ["events"] 1 mf_wrong_event := by
  have f_enumerate := C.free 3 rfl
  have isi := isi_ok (C.fact 0 rfl)
  have g_Card := C.glo 12 rfl
  have f_isinstance := C.free 2 rfl
  have G_is_natural := ok_is_natural (P := P) (w := w) (base := base) C
  have F_is_natural := C.fun_ 4 (d := d_is_natural) rfl
  have B_is_natural := bi_is_natural C
  have g_is_natural := C.glo 21 rfl
  obtain ⟨_, k_MOST_BILLS⟩ := C.int 50 rfl
  obtain ⟨_, k_MOST_COMING⟩ := C.int 51 rfl
  have sc := sc_wrong_event
  refine fn_mir (C.fun_ 20 (d := d_wrong_event) rfl) sc_wrong_event fun cdv A outer s H E p F0 hr => ?_
  exact dBcons (dSet (i := 1) sc.nd rfl (by first | exact Or.inl rfl | exact Or.inr rfl) (dInt)) (dBcons (dSet (i := 2) sc.nd rfl (by first | exact Or.inl rfl | exact Or.inr rfl) (dInt)) (dBcons (dFor PassesOwn.never rfl (dIenumA rfl f_enumerate (dCons (dVar 0) (dNil))) (dGt (n := 2) rfl (dGcons (dGn (i := 3) sc.nd rfl (by first | exact Or.inl rfl | exact Or.inr rfl)) (dGcons (dGn (i := 4) sc.nd rfl (by first | exact Or.inl rfl | exact Or.inr rfl)) (dGnil)))) (dBcons (dIfS (dTst (dCallB (m_isi isi) call_isi rfl f_isinstance bb_isinstance (dCons (dVar 4) (dCons (dGC (k := "Card") hc_Card rfl g_Card) (dNil))))) (dBone (dAug (i := 2) m_addI ip_add sc.nd rfl (by first | exact Or.inl rfl | exact Or.inr rfl) (dInt))) (dBone (dIfS (dTst (dCall G_is_natural (hr.mono (by decide)) rfl g_is_natural F_is_natural.kp B_is_natural (dCons (dVar 4) (dNil)))) (dBone (dAug (i := 1) m_addI ip_add sc.nd rfl (by first | exact Or.inl rfl | exact Or.inr rfl) (dInt))) (dBone (dRet (dVar 3)))))) (dBone (dIfS (PW.pt (dOrT (dTcmp op_gt m_gt (dVar 1) (dGI rfl k_MOST_BILLS) (nomark _)) (dOr1 (dTcmp op_gt m_gt (dVar 2) (dGI rfl k_MOST_COMING) (nomark _))))) (dBone (dRet (dVar 3))) (dBnil))))) (dBone (dRet (dNon)))))
theorem bi_Course___init__ {K : PySem.W.Frag} {mg : Str → Option Value} (C : HF fa fn K mg) : Binds K (fdOf K (Pl.ad K (.meth "Course" "__init__"))) ["self", "events"] [] := (C.fun_ 21 (d := d_Course___init__) rfl).bindsN fun _ _ _ _ _ _ us hl => match us, hl with | [_, _], _ => rfl
theorem ok_Course___init__ (C : HF fa fn K mg) : FnOk P w K mg base CX0 4 (Pl.ad K (.meth "Course" "__init__")) (fdOf K (Pl.ad K (.meth "Course" "__init__"))) ["self", "events"] (spI (WW cs K) "Course" 1 mf_Course___init__) := by
  have isi := isi_ok (C.fact 0 rfl)
  have f_tuple := C.free 1 rfl
  have f_isinstance := C.free 2 rfl
  have G_wrong_event := ok_wrong_event (P := P) (w := w) (base := base) C
  have F_wrong_event := C.fun_ 20 (d := d_wrong_event) rfl
  have B_wrong_event := bi_wrong_event C
  have g_wrong_event := C.glo 52 rfl
  have n_Course_passed := C.noat 42 rfl
  have c_Course := C.cls 43 rfl
  have sc := sc_Course___init__
  refine fn_init (ck := "Course") (nm := "self") (N := ["events", "wrong"]) (n := 1) (C.fun_ 21 (d := d_Course___init__) rfl) sc_Course___init__ rfl fun cdv A outer s H E p F0 H0 sf hr => ?_
  exact dBcons (dIfS (dNotT (dTst (dCallB (m_isi isi) call_isi rfl f_isinstance bb_isinstance (dCons (dVar 1) (dCons (dTy rfl f_tuple bb_tuple) (dNil)))))) (dBone (dNever)) (dBnil)) (dBcons (dSet (i := 2) sc.nd rfl (by first | exact Or.inl rfl | exact Or.inr rfl) (dCall G_wrong_event (hr.mono (by decide)) rfl g_wrong_event F_wrong_event.kp B_wrong_event (dCons (dVar 1) (dNil)))) (dBcons (dIfS (dTcmp op_isntA m_isnt (dVar 2) (dNon) (nomark _)) (dBone (dNever)) (dBnil)) (dBone (dSelfSet (ck := "Course") 0 c_Course n_Course_passed (dVar 1)))))
theorem ok_Course_of (C : HF fa fn K mg) : FnR P w K mg base CX0 6 (Pl.ad K (.clsm "Course" "of")) (spS (WW cs K) 1 mf_Course_of) := by
  have f_enumerate := C.free 3 rfl
  have G_is_natural := ok_is_natural (P := P) (w := w) (base := base) C
  have F_is_natural := C.fun_ 4 (d := d_is_natural) rfl
  have B_is_natural := bi_is_natural C
  have g_is_natural := C.glo 21 rfl
  obtain ⟨_, k_MOST_BILLS⟩ := C.int 50 rfl
  have G_Course___init__ := ok_Course___init__ (P := P) (w := w) (base := base) C
  have F_Course___init__ := C.fun_ 21 (d := d_Course___init__) rfl
  have B_Course___init__ := bi_Course___init__ C
  have m_Course := C.mkr 53 rfl
  have sc := sc_Course_of
  refine fn_mirS (ps := ["cls"]) (pv := "bills") (C.fun_ 22 (d := d_Course_of) rfl) sc_Course_of (fun kV doc pm an cdv ct => StX.bind_star1 (B := fun z => bindArgs (PySem.W.fnOf _ _ _ _ _ .none kV doc pm an cdv ct) ⟨z, []⟩) (p1 := "cls") (pv := "bills") (fun _ => rfl) (fun _ _ _ => rfl)) fun cdv A outer s H E p F0 hr => ?_
  exact dBcons (dFor PassesOwn.never rfl (dIenumA rfl f_enumerate (dCons (dVar 1) (dNil))) (dGt (n := 2) rfl (dGcons (dGn (i := 2) sc.nd rfl (by first | exact Or.inl rfl | exact Or.inr rfl)) (dGcons (dGn (i := 3) sc.nd rfl (by first | exact Or.inl rfl | exact Or.inr rfl)) (dGnil)))) (dBone (dIfS (PW.pt (dOrT (dNotT (dTst (dCall G_is_natural (hr.mono (by decide)) rfl g_is_natural F_is_natural.kp B_is_natural (dCons (dVar 3) (dNil))))) (dOr1 (dTcmp (op_eqD hr.units) m_eq (dVar 2) (dGI rfl k_MOST_BILLS) (nomark _))))) (dBone (dNever)) (dBnil)))) (dBone (dRet (dMakeV (ck := "Course") 0 hc_Course m_Course G_Course___init__ (hr.mono (by decide)) B_Course___init__ (dCons (dVar 1) (dNil)))))
theorem bi_Card___str__ {K : PySem.W.Frag} {mg : Str → Option Value} (C : HF fa fn K mg) : Binds K (fdOf K (Pl.ad K (.meth "Card" "__str__"))) ["self"] [] := (C.fun_ 23 (d := d_Card___str__) rfl).bindsN fun _ _ _ _ _ _ us hl => match us, hl with | [_], _ => rfl
theorem ok_Card___str__ (C : HF fa fn K mg) : FO cs P w K mg base 1 (.meth "Card" "__str__") ["self"] 1 mf_Card___str__ := by
  have n_Card_held := C.noat 23 rfl
  have c_Card := C.cls 24 rfl
  have n_Card_daily := C.noat 25 rfl
  have sc := sc_Card___str__
  refine fn_mir (C.fun_ 23 (d := d_Card___str__) rfl) sc_Card___str__ fun cdv A outer s H E p F0 hr => ?_
  exact dBone (dRet (dFs (DJ.cons (dFmt (dFld (ck := "Card") (ks := ["held", "daily"]) 0 rfl (by decide) c_Card n_Card_held (dVar 0))) (DJ.cons (dStr) (DJ.cons (dFmt (dFld (ck := "Card") (ks := ["held", "daily"]) 1 rfl (by decide) c_Card n_Card_daily (dVar 0))) (DJ.nil))))))
theorem bi__law_draw {K : PySem.W.Frag} {mg : Str → Option Value} (C : HF fa fn K mg) : Binds K (fdOf K (Pl.ad K (.glob "_law_draw"))) ["_law_pot_here", "_law_many"] [] := (C.fun_ 24 (d := d__law_draw) rfl).bindsN fun _ _ _ _ _ _ us hl => match us, hl with | [_, _], _ => rfl
theorem ok__law_draw (C : HF fa fn K mg) : FO cs P w K mg base 1 (.glob "_law_draw") ["_law_pot_here", "_law_many"] 2 mf__law_draw := by
  have f_int := C.free 18 rfl
  have f_divmod := C.free 57 rfl
  have sc := sc__law_draw
  refine fn_mir (C.fun_ 24 (d := d__law_draw) rfl) sc__law_draw fun cdv A outer s H E p F0 hr => ?_
  exact dBcons (dPutP 0 (dBin op_addA m_add (dIxP 0 (dInt)) (dInt)) (dInt)) (dBcons (dSet (i := 2) sc.nd rfl (by first | exact Or.inl rfl | exact Or.inr rfl) (dCallT m_int1 call_int1 rfl f_int bb_int (dCons (dIxP 0 (dInt)) (dNil)))) (dBcons (dPutP 0 (dBin op_mod m_mod (dCallT m_int1 call_int1 rfl f_int bb_int (dCons (dBin op_addA m_add (dBin op_addA m_add (dBin op_mulA m_mul (dVar 2) (dInt)) (dBin op_mulA m_mul (dInt) (dIxP 0 (dInt)))) (dInt)) (dNil))) (dInt)) (dInt)) (dBcons (dIfS (dTcmp op_gt m_gt (dIxP 0 (dInt)) (dInt) (nomark _)) (dBcons (dDmP 0 3 rfl (dCallB m_dm call_divmodW rfl f_divmod bb_divmod (dCons (dIxP 0 (dInt)) (dCons (dVar 1) (dNil)))) (dInt) sc.nd rfl (by first | exact Or.inl rfl | exact Or.inr rfl)) (dBone (dRet (dVar 3)))) (dBnil)) (dBone (dRet (dBin op_mod m_mod (dCallT m_int1 call_int1 rfl f_int bb_int (dCons (dBin op_fdivW m_fdiv (dBin op_mulA m_mul (dBin op_fdivW m_fdiv (dVar 2) (dInt)) (dBin op_addA m_add (dBin op_mod m_mod (dCallT m_int1 call_int1 rfl f_int bb_int (dCons (dBin op_fdivW m_fdiv (dVar 2) (dInt)) (dNil))) (dInt)) (dInt))) (dInt)) (dNil))) (dVar 1)))))))
theorem bi__law_amount {K : PySem.W.Frag} {mg : Str → Option Value} (C : HF fa fn K mg) : Binds K (fdOf K (Pl.ad K (.glob "_law_amount"))) ["_law_pot_here"] [] := (C.fun_ 25 (d := d__law_amount) rfl).bindsN fun _ _ _ _ _ _ us hl => match us, hl with | [_], _ => rfl
theorem ok__law_amount (C : HF fa fn K mg) : FO cs P w K mg base 2 (.glob "_law_amount") ["_law_pot_here"] 1 mf__law_amount := by
  have G__law_draw := ok__law_draw (P := P) (w := w) (base := base) C
  have F__law_draw := C.fun_ 24 (d := d__law_draw) rfl
  have B__law_draw := bi__law_draw C
  have g__law_draw := C.glo 58 rfl
  have sc := sc__law_amount
  refine fn_mir (C.fun_ 25 (d := d__law_amount) rfl) sc__law_amount fun cdv A outer s H E p F0 hr => ?_
  exact dBcons (dSet (i := 1) sc.nd rfl (by first | exact Or.inl rfl | exact Or.inr rfl) (dCall G__law_draw (hr.mono (by decide)) rfl g__law_draw F__law_draw.kp B__law_draw (dCons (dVar 0) (dCons (dInt) (dNil))))) (dBcons (dIfS (dTcmp op_lt m_lt (dVar 1) (dInt) (nomark _)) (dBone (dRet (dCall G__law_draw (hr.mono (by decide)) rfl g__law_draw F__law_draw.kp B__law_draw (dCons (dVar 0) (dCons (dInt) (dNil)))))) (dBnil)) (dBcons (dIfS (dTcmp (op_eqD hr.units) m_eq (dVar 1) (dInt) (nomark _)) (dBone (dRet (dBin op_sub m_sub (dBin op_addA m_add (dBin op_pow m_pow (dInt) (dInt)) (dCall G__law_draw (hr.mono (by decide)) rfl g__law_draw F__law_draw.kp B__law_draw (dCons (dVar 0) (dCons (dInt) (dNil))))) (dInt)))) (dBnil)) (dBcons (dSet (i := 2) sc.nd rfl (by first | exact Or.inl rfl | exact Or.inr rfl) (dBin op_addA m_add (dBin op_mulA m_mul (dCall G__law_draw (hr.mono (by decide)) rfl g__law_draw F__law_draw.kp B__law_draw (dCons (dVar 0) (dCons (dBin op_pow m_pow (dInt) (dInt)) (dNil)))) (dBin op_pow m_pow (dInt) (dInt))) (dCall G__law_draw (hr.mono (by decide)) rfl g__law_draw F__law_draw.kp B__law_draw (dCons (dVar 0) (dCons (dBin op_pow m_pow (dInt) (dInt)) (dNil)))))) (dBone (dRet (dIf (dTcmp (op_eqD hr.units) m_eq (dVar 1) (dInt) (nomark _)) (dVar 2) (dBin op_addA m_add (dBin op_mulA m_mul (dVar 2) (dBin op_pow m_pow (dInt) (dInt))) (dCall G__law_draw (hr.mono (by decide)) rfl g__law_draw F__law_draw.kp B__law_draw (dCons (dVar 0) (dCons (dBin op_pow m_pow (dInt) (dInt)) (dNil)))))))))))
theorem bi__law_card {K : PySem.W.Frag} {mg : Str → Option Value} (C : HF fa fn K mg) : Binds K (fdOf K (Pl.ad K (.glob "_law_card"))) ["_law_pot_here"] [] := (C.fun_ 26 (d := d__law_card) rfl).bindsN fun _ _ _ _ _ _ us hl => match us, hl with | [_], _ => rfl
theorem ok__law_card (C : HF fa fn K mg) : FO cs P w K mg base 3 (.glob "_law_card") ["_law_pot_here"] 1 mf__law_card := by
  have G__law_amount := ok__law_amount (P := P) (w := w) (base := base) C
  have F__law_amount := C.fun_ 25 (d := d__law_amount) rfl
  have B__law_amount := bi__law_amount C
  have g__law_amount := C.glo 59 rfl
  have G__law_draw := ok__law_draw (P := P) (w := w) (base := base) C
  have F__law_draw := C.fun_ 24 (d := d__law_draw) rfl
  have B__law_draw := bi__law_draw C
  have g__law_draw := C.glo 58 rfl
  have f_int := C.free 18 rfl
  have sc := sc__law_card
  refine fn_mir (C.fun_ 26 (d := d__law_card) rfl) sc__law_card fun cdv A outer s H E p F0 hr => ?_
  exact dBcons (dSet (i := 1) sc.nd rfl (by first | exact Or.inl rfl | exact Or.inr rfl) (dBin op_addA m_add (dInt) (dCall G__law_amount (hr.mono (by decide)) rfl g__law_amount F__law_amount.kp B__law_amount (dCons (dVar 0) (dNil))))) (dBcons (dSet (i := 2) sc.nd rfl (by first | exact Or.inl rfl | exact Or.inr rfl) (dCall G__law_draw (hr.mono (by decide)) rfl g__law_draw F__law_draw.kp B__law_draw (dCons (dVar 0) (dCons (dIx ix_seq m_ix (dFz (dLstO (dCons (dInt) (dCons (dInt) (dNil))))) (dCallT m_intB call_int1 rfl f_int bb_int (dCons (dCmp (op_eqD hr.units) m_eq (dCall G__law_draw (hr.mono (by decide)) rfl g__law_draw F__law_draw.kp B__law_draw (dCons (dVar 0) (dCons (dInt) (dNil)))) (dInt) (nomark _)) (dNil)))) (dNil))))) (dBone (dRet (dTup (dCons (dBin op_addA m_add (dBin op_mulA m_mul (dVar 1) (dVar 2)) (dBin op_mod m_mod (dCallT m_int1 call_int1 rfl f_int bb_int (dCons (dCall G__law_amount (hr.mono (by decide)) rfl g__law_amount F__law_amount.kp B__law_amount (dCons (dVar 0) (dNil))) (dNil))) (dBin op_addA m_add (dVar 1) (dInt)))) (dCons (dVar 1) (dNil)))))))
theorem bi__law_worth {K : PySem.W.Frag} {mg : Str → Option Value} (C : HF fa fn K mg) : Binds K (fdOf K (Pl.ad K (.glob "_law_worth"))) ["_law_pair", "_law_days"] [] := (C.fun_ 27 (d := d__law_worth) rfl).bindsN fun _ _ _ _ _ _ us hl => match us, hl with | [_, _], _ => rfl
theorem ok__law_worth (C : HF fa fn K mg) : FO cs P w K mg base 1 (.glob "_law_worth") ["_law_pair", "_law_days"] 2 mf__law_worth := by
  have f_min := C.free 32 rfl
  have sc := sc__law_worth
  refine fn_mir (C.fun_ 27 (d := d__law_worth) rfl) sc__law_worth fun cdv A outer s H E p F0 hr => ?_
  exact dBone (dRet (dCallB m_min (cr_minA rfl) rfl f_min bb_min (dCons (dIx ix_seq m_ix (dVar 0) (dInt)) (dCons (dBin op_mulA m_mul (dVar 1) (dIx ix_seq m_ix (dVar 0) (dInt))) (dNil)))))
theorem bi__law_power {K : PySem.W.Frag} {mg : Str → Option Value} (C : HF fa fn K mg) : Binds K (fdOf K (Pl.ad K (.glob "_law_power"))) ["_law_cards", "_law_days"] [] := (C.fun_ 28 (d := d__law_power) rfl).bindsN fun _ _ _ _ _ _ us hl => match us, hl with | [_, _], _ => rfl
theorem ok__law_power (C : HF fa fn K mg) : FO cs P w K mg base 2 (.glob "_law_power") ["_law_cards", "_law_days"] 2 mf__law_power := by
  have G__law_worth := ok__law_worth (P := P) (w := w) (base := base) C
  have F__law_worth := C.fun_ 27 (d := d__law_worth) rfl
  have B__law_worth := bi__law_worth C
  have g__law_worth := C.glo 61 rfl
  have f_sum := C.free 34 rfl
  have sc := sc__law_power
  refine fn_mir (C.fun_ 28 (d := d__law_power) rfl) sc__law_power fun cdv A outer s H E p F0 hr => ?_
  exact dBone (dRet (dCallB m_sum (cr_sumA rfl) rfl f_sum bb_sum (dCons (dFz (dLcO (own := [("_law_pair", 2)]) rfl sc.nd (dIany (dVar 0)) (blkOk_by (by kernel_rfl)) (fun _ _ _ _ _ => dGn (i := 2) sc.nd rfl (by first | exact Or.inl rfl | exact Or.inr rfl)) (fun _ _ _ _ _ => dYes) (fun _ _ _ _ _ => dCall G__law_worth (hr.mono (by decide)) rfl g__law_worth F__law_worth.kp B__law_worth (dCons (dVar 2) (dCons (dVar 1) (dNil)))))) (dNil))))
theorem bi__law_great_events {K : PySem.W.Frag} {mg : Str → Option Value} (C : HF fa fn K mg) : Binds K (fdOf K (Pl.ad K (.glob "_law_great_events"))) ["_law_pot_here", "_law_cards"] [] := (C.fun_ 29 (d := d__law_great_events) rfl).bindsN fun _ _ _ _ _ _ us hl => match us, hl with | [_, _], _ => rfl
theorem ok__law_great_events (C : HF fa fn K mg) : FO cs P w K mg base 4 (.glob "_law_great_events") ["_law_pot_here", "_law_cards"] 2 mf__law_great_events := by
  have G__law_draw := ok__law_draw (P := P) (w := w) (base := base) C
  have F__law_draw := C.fun_ 24 (d := d__law_draw) rfl
  have B__law_draw := bi__law_draw C
  have g__law_draw := C.glo 58 rfl
  have f_range := C.free 17 rfl
  have G__law_power := ok__law_power (P := P) (w := w) (base := base) C
  have F__law_power := C.fun_ 28 (d := d__law_power) rfl
  have B__law_power := bi__law_power C
  have g__law_power := C.glo 62 rfl
  have G__law_amount := ok__law_amount (P := P) (w := w) (base := base) C
  have F__law_amount := C.fun_ 25 (d := d__law_amount) rfl
  have B__law_amount := bi__law_amount C
  have g__law_amount := C.glo 59 rfl
  have f_max := C.free 36 rfl
  have f_int := C.free 18 rfl
  have G__law_card := ok__law_card (P := P) (w := w) (base := base) C
  have F__law_card := C.fun_ 26 (d := d__law_card) rfl
  have B__law_card := bi__law_card C
  have g__law_card := C.glo 60 rfl
  have f_len := C.free 4 rfl
  have sc := sc__law_great_events
  refine fn_mir (C.fun_ 29 (d := d__law_great_events) rfl) sc__law_great_events fun cdv A outer s H E p F0 hr => ?_
  exact dBcons (dPar3 (i := 2) (j := 3) (l := 4) rfl sc.nd rfl rfl rfl (by decide) (by decide) (by decide) rfl rfl rfl (dMsh (dCall G__law_draw (hr.mono (by decide)) rfl g__law_draw F__law_draw.kp B__law_draw (dCons (dVar 0) (dCons (dInt) (dNil)))) (dMsh (dCall G__law_draw (hr.mono (by decide)) rfl g__law_draw F__law_draw.kp B__law_draw (dCons (dVar 0) (dCons (dInt) (dNil)))) (dMsh (dCall G__law_draw (hr.mono (by decide)) rfl g__law_draw F__law_draw.kp B__law_draw (dCons (dVar 0) (dCons (dInt) (dNil)))) (dMnil))))) (dBcons (dSet (i := 5) sc.nd rfl (by first | exact Or.inl rfl | exact Or.inr rfl) (dCall G__law_draw (hr.mono (by decide)) rfl g__law_draw F__law_draw.kp B__law_draw (dCons (dVar 0) (dCons (dIf (dTcmp (op_eqD hr.units) m_eq (dVar 3) (dInt) (nomark _)) (dInt) (dInt)) (dNil))))) (dBcons (dSet (i := 6) sc.nd rfl (by first | exact Or.inl rfl | exact Or.inr rfl) (dFz (dLcO (own := [("_law_k", 10)]) rfl sc.nd (dIrng1 rfl f_range (dCons (dBin op_addA m_add (dVar 5) (dInt)) (dNil))) (blkOk_by (by kernel_rfl)) (fun _ _ _ _ _ => dGn (i := 10) sc.nd rfl (by first | exact Or.inl rfl | exact Or.inr rfl)) (fun _ _ _ _ _ => dYes) (fun _ _ _ _ _ => dCall G__law_power (hr.mono (by decide)) rfl g__law_power F__law_power.kp B__law_power (dCons (dVar 1) (dCons (dVar 10) (dNil))))))) (dBcons (dIfS (dTcmp (op_eqD hr.units) m_eq (dVar 2) (dInt) (nomark _)) (dBone (dLcSetO 7 [] (own := [("_law_k", 10)]) rfl sc.nd rfl rfl (sw_true rfl rfl rfl (by kernel_rfl)) (dIrng1 rfl f_range (dCons (dVar 5) (dNil))) (blkOk_by (by kernel_rfl)) (fun _ _ _ _ _ => dGn (i := 10) sc.nd rfl (by first | exact Or.inl rfl | exact Or.inr rfl)) (fun _ _ _ _ _ => dYes) (fun _ _ _ _ _ => dCall G__law_amount (hr.mono (by decide)) rfl g__law_amount F__law_amount.kp B__law_amount (dCons (dVar 0) (dNil))))) (dBone (dLcSetO 7 [] (own := [("_law_k", 10)]) rfl sc.nd rfl rfl (sw_true rfl rfl rfl (by kernel_rfl)) (dIrng1 rfl f_range (dCons (dVar 5) (dNil))) (blkOk_by (by kernel_rfl)) (fun _ _ _ _ _ => dGn (i := 10) sc.nd rfl (by first | exact Or.inl rfl | exact Or.inr rfl)) (fun _ _ _ _ _ => dYes) (fun _ _ _ _ _ => dCallB m_max (cr_maxA rfl) rfl f_max bb_max (dCons (dInt) (dCons (dBin op_sub m_sub (dBin op_addA m_add (dBin op_sub m_sub (dIx ix_seq m_ix (dVar 6) (dBin op_addA m_add (dVar 10) (dInt))) (dIx ix_seq m_ix (dVar 6) (dVar 10))) (dCall G__law_draw (hr.mono (by decide)) rfl g__law_draw F__law_draw.kp B__law_draw (dCons (dVar 0) (dCons (dInt) (dNil))))) (dInt)) (dNil))))))) (dBcons (dIfS (dBorT 7 (PW.pt (dAndT (dTcmp (op_eqD hr.units) m_eq (dVar 2) (dInt) (nomark _)) (dAnd1 (dTcmp (op_neD hr.units) m_ne (dVar 7) (dFz (dLstO (dNil))) (nomark _)))))) (dBone (dPut 7 (dBin op_addA m_add (dIxO 7 (dBin op_sub m_sub (dVar 5) (dInt))) (dCall G__law_amount (hr.mono (by decide)) rfl g__law_amount F__law_amount.kp B__law_amount (dCons (dVar 0) (dNil)))) (dBin op_sub m_sub (dVar 5) (dInt)))) (dBnil)) (dBcons (dSet (i := 8) sc.nd rfl (by first | exact Or.inl rfl | exact Or.inr rfl) (dBin op_mod m_mod (dCallT m_int1 call_int1 rfl f_int bb_int (dCons (dVar 4) (dNil))) (dBin op_addA m_add (dVar 5) (dInt)))) (dBcons (dFrzS 7 (dSet (i := 9) sc.nd rfl (by first | exact Or.inl rfl | exact Or.inr rfl) (dBin op_addA m_add (dSl (dVar 7) (dOs (dVar 8)) (dOn)) (dSl (dVar 7) (dOn) (dOs (dVar 8)))))) (dBcons (dIfS (dTcmp (op_eqD hr.units) m_eq (dVar 3) (dInt) (nomark _)) (dBone (dRet (dBin op_addA m_add (dFz (dLcO (own := [("_law_k", 10)]) rfl sc.nd (dIrng1 rfl f_range (dCons (dBin op_addA m_add (dInt) (dCall G__law_draw (hr.mono (by decide)) rfl g__law_draw F__law_draw.kp B__law_draw (dCons (dVar 0) (dCons (dInt) (dNil))))) (dNil))) (blkOk_by (by kernel_rfl)) (fun _ _ _ _ _ => dGn (i := 10) sc.nd rfl (by first | exact Or.inl rfl | exact Or.inr rfl)) (fun _ _ _ _ _ => dYes) (fun _ _ _ _ _ => dCall G__law_card (hr.mono (by decide)) rfl g__law_card F__law_card.kp B__law_card (dCons (dVar 0) (dNil))))) (dVar 9)))) (dBnil)) (dBcons (dIfS (dTcmp (op_eqD hr.units) m_eq (dVar 3) (dInt) (nomark _)) (dBone (dFor PassesOwn.never rfl (dIrng1 rfl f_range (dCons (dBin op_addA m_add (dInt) (dCall G__law_draw (hr.mono (by decide)) rfl g__law_draw F__law_draw.kp B__law_draw (dCons (dVar 0) (dCons (dInt) (dNil))))) (dNil))) (dGn (i := 10) sc.nd rfl (by first | exact Or.inl rfl | exact Or.inr rfl)) (dBcons (dSet (i := 8) sc.nd rfl (by first | exact Or.inl rfl | exact Or.inr rfl) (dCall G__law_draw (hr.mono (by decide)) rfl g__law_draw F__law_draw.kp B__law_draw (dCons (dVar 0) (dCons (dBin op_addA m_add (dCallB m_len call_lenA rfl f_len bb_len (dCons (dVar 9) (dNil))) (dInt)) (dNil))))) (dBone (dSet (i := 9) sc.nd rfl (by first | exact Or.inl rfl | exact Or.inr rfl) (dBin op_addA m_add (dBin op_addA m_add (dSl (dVar 9) (dOn) (dOs (dVar 8))) (dFz (dLstO (dCons (dCall G__law_card (hr.mono (by decide)) rfl g__law_card F__law_card.kp B__law_card (dCons (dVar 0) (dNil))) (dNil))))) (dSl (dVar 9) (dOs (dVar 8)) (dOn)))))))) (dBnil)) (dBone (dRet (dVar 9)))))))))))
theorem bi__law_course {K : PySem.W.Frag} {mg : Str → Option Value} (C : HF fa fn K mg) : Binds K (fdOf K (Pl.ad K (.glob "_law_course"))) ["_law_events"] [] := (C.fun_ 30 (d := d__law_course) rfl).bindsN fun _ _ _ _ _ _ us hl => match us, hl with | [_], _ => rfl
theorem ok__law_course (C : HF fa fn K mg) : FO cs P w K mg base 6 (.glob "_law_course") ["_law_events"] 1 mf__law_course := by
  have G_Course___init__ := ok_Course___init__ (P := P) (w := w) (base := base) C
  have F_Course___init__ := C.fun_ 21 (d := d_Course___init__) rfl
  have B_Course___init__ := bi_Course___init__ C
  have m_Course := C.mkr 53 rfl
  have isi := isi_ok (C.fact 0 rfl)
  have f_int := C.free 18 rfl
  have f_isinstance := C.free 2 rfl
  have G_Card___init__ := ok_Card___init__ (P := P) (w := w) (base := base) C
  have F_Card___init__ := C.fun_ 5 (d := d_Card___init__) rfl
  have B_Card___init__ := bi_Card___init__ C
  have m_Card := C.mkr 26 rfl
  have g_Card := C.glo 12 rfl
  have f_tuple := C.free 1 rfl
  have g_Course := C.glo 30 rfl
  have sc := sc__law_course
  refine fn_mir (C.fun_ 30 (d := d__law_course) rfl) sc__law_course fun cdv A outer s H E p F0 hr => ?_
  exact dBone (dRet (dMake (ck := "Course") hc_Course m_Course G_Course___init__ (hr.mono (by decide)) rfl g_Course B_Course___init__ (dCons (dCallT m_tup call_tuple_of rfl f_tuple bb_tuple (dCons (dFz (dLcO (own := [("_law_event", 1)]) rfl sc.nd (dIany (dVar 0)) (blkOk_by (by kernel_rfl)) (fun _ _ _ _ _ => dGn (i := 1) sc.nd rfl (by first | exact Or.inl rfl | exact Or.inr rfl)) (fun _ _ _ _ _ => dYes) (fun _ _ _ _ _ => dIf (dTst (dCallB (m_isi isi) call_isi rfl f_isinstance bb_isinstance (dCons (dVar 1) (dCons (dTy rfl f_int bb_int) (dNil))))) (dVar 1) (dMake (ck := "Card") hc_Card m_Card G_Card___init__ (hr.mono (by decide)) rfl g_Card B_Card___init__ (dCons (dIx ix_seq m_ix (dVar 1) (dInt)) (dCons (dIx ix_seq m_ix (dVar 1) (dInt)) (dNil))))))) (dNil))) (dNil))))
theorem bi__law_asks {K : PySem.W.Frag} {mg : Str → Option Value} (C : HF fa fn K mg) : Binds K (fdOf K (Pl.ad K (.glob "_law_asks"))) ["_law_events"] [] := (C.fun_ 31 (d := d__law_asks) rfl).bindsN fun _ _ _ _ _ _ us hl => match us, hl with | [_], _ => rfl
theorem ok__law_asks (C : HF fa fn K mg) : FO cs P w K mg base 3 (.glob "_law_asks") ["_law_events"] 1 mf__law_asks := by
  have f_len := C.free 4 rfl
  have f_range := C.free 17 rfl
  have isi := isi_ok (C.fact 0 rfl)
  have f_int := C.free 18 rfl
  have f_isinstance := C.free 2 rfl
  have f_sorted := C.free 65 rfl
  have f_sum := C.free 34 rfl
  have G__law_power := ok__law_power (P := P) (w := w) (base := base) C
  have F__law_power := C.fun_ 28 (d := d__law_power) rfl
  have B__law_power := bi__law_power C
  have g__law_power := C.glo 62 rfl
  have G__law_worth := ok__law_worth (P := P) (w := w) (base := base) C
  have F__law_worth := C.fun_ 27 (d := d__law_worth) rfl
  have B__law_worth := bi__law_worth C
  have g__law_worth := C.glo 61 rfl
  have sc := sc__law_asks
  refine fn_mir (C.fun_ 31 (d := d__law_asks) rfl) sc__law_asks fun cdv A outer s H E p F0 hr => ?_
  exact dBcons (dLcSet 1 [] (own := [("_law_k", 10)]) rfl sc.nd rfl rfl (sw_true rfl rfl rfl (by kernel_rfl)) (dIrng1 rfl f_range (dCons (dCallB m_len call_lenA rfl f_len bb_len (dCons (dVar 0) (dNil))) (dNil))) (blkOk_by (by kernel_rfl)) (fun _ _ _ _ _ => dGn (i := 10) sc.nd rfl (by first | exact Or.inl rfl | exact Or.inr rfl)) (fun _ _ _ _ _ => pts_one (dTst (dCallB (m_isi isi) call_isi rfl f_isinstance bb_isinstance (dCons (dIx ix_seq m_ix (dVar 0) (dVar 10)) (dCons (dTy rfl f_int bb_int) (dNil)))))) (fun _ _ _ _ _ => dVar 10)) (dBcons (dLcSet 2 [] (own := [("_law_k", 10)]) rfl sc.nd rfl rfl (sw_true rfl rfl rfl (by kernel_rfl)) (dIrng1 rfl f_range (dCons (dCallB m_len call_lenA rfl f_len bb_len (dCons (dVar 0) (dNil))) (dNil))) (blkOk_by (by kernel_rfl)) (fun _ _ _ _ _ => dGn (i := 10) sc.nd rfl (by first | exact Or.inl rfl | exact Or.inr rfl)) (fun _ _ _ _ _ => pts_one (dNotT (dTst (dCallB (m_isi isi) call_isi rfl f_isinstance bb_isinstance (dCons (dIx ix_seq m_ix (dVar 0) (dVar 10)) (dCons (dTy rfl f_int bb_int) (dNil))))))) (fun _ _ _ _ _ => dVar 10)) (dBcons (dIfS (PW.pt (dOrT (dTcmp (op_eqD hr.units) m_eq (dVar 1) (dFz (dLstO (dNil))) (nomark _)) (dOrT (dTcmp (op_eqD hr.units) m_eq (dVar 2) (dFz (dLstO (dNil))) (nomark _)) (dOr1 (dTcmp op_lt m_lt (dIx ix_seq m_ix (dVar 2) (dUn un_neg m_neg (dInt))) (dIx ix_seq m_ix (dVar 1) (dInt)) (nomark _)))))) (dBcons (dAsg (dTup (dCons (dRevL (dFz (dSort rfl f_sorted (dCons (dFz (dLcO (own := [("_law_k", 10)]) rfl sc.nd (dIany (dVar 1)) (blkOk_by (by kernel_rfl)) (fun _ _ _ _ _ => dGn (i := 10) sc.nd rfl (by first | exact Or.inl rfl | exact Or.inr rfl)) (fun _ _ _ _ _ => dYes) (fun _ _ _ _ _ => dIx ix_seq m_ix (dVar 0) (dVar 10)))) (dNil))))) (dCons (dFz (dLcO (own := [("_law_k", 10)]) rfl sc.nd (dIany (dVar 2)) (blkOk_by (by kernel_rfl)) (fun _ _ _ _ _ => dGn (i := 10) sc.nd rfl (by first | exact Or.inl rfl | exact Or.inr rfl)) (fun _ _ _ _ _ => dYes) (fun _ _ _ _ _ => dIx ix_seq m_ix (dVar 0) (dVar 10)))) (dNil)))) (dGt (n := 2) rfl (dGcons (dGn (i := 3) sc.nd rfl (by first | exact Or.inl rfl | exact Or.inr rfl)) (dGcons (dGn (i := 4) sc.nd rfl (by first | exact Or.inl rfl | exact Or.inr rfl)) (dGnil))))) (dBone (dRet (dFz (dLcO (own := [("_law_k", 10)]) rfl sc.nd (dIrng1 rfl f_range (dCons (dCallB m_len call_lenA rfl f_len bb_len (dCons (dVar 3) (dNil))) (dNil))) (blkOk_by (by kernel_rfl)) (fun _ _ _ _ _ => dGn (i := 10) sc.nd rfl (by first | exact Or.inl rfl | exact Or.inr rfl)) (fun _ _ _ _ _ => dYes) (fun _ _ _ _ _ => dBin op_sub m_sub (dCallB m_sum (cr_sumA rfl) rfl f_sum bb_sum (dCons (dSl (dVar 3) (dOn) (dOs (dBin op_addA m_add (dVar 10) (dInt)))) (dNil))) (dCall G__law_power (hr.mono (by decide)) rfl g__law_power F__law_power.kp B__law_power (dCons (dVar 4) (dCons (dBin op_addA m_add (dVar 10) (dInt)) (dNil)))))))))) (dBnil)) (dBcons (dSet (i := 5) sc.nd rfl (by first | exact Or.inl rfl | exact Or.inr rfl) (dFz (dLstO (dCons (dFz (dLstO (dNil))) (dNil))))) (dBcons (dFor PassesOwn.never rfl (dIany (dVar 1)) (dGn (i := 6) sc.nd rfl (by first | exact Or.inl rfl | exact Or.inr rfl)) (dBone (dSet (i := 5) sc.nd rfl (by first | exact Or.inl rfl | exact Or.inr rfl) (dBin op_addA m_add (dVar 5) (dFz (dLcO (own := [("_law_one", 8)]) rfl sc.nd (dIany (dVar 5)) (blkOk_by (by kernel_rfl)) (fun _ _ _ _ _ => dGn (i := 8) sc.nd rfl (by first | exact Or.inl rfl | exact Or.inr rfl)) (fun _ _ _ _ _ => dYes) (fun _ _ _ _ _ => dBin op_addA m_add (dVar 8) (dFz (dLstO (dCons (dVar 6) (dNil))))))))))) (dBcons (dSetO (i := 7) sc.nd rfl (by first | exact Or.inl rfl | exact Or.inr rfl) (dRepO (dFz (dLstO (dCons (dNon) (dNil)))) (dBin op_addA m_add (dCallB m_len call_lenA rfl f_len bb_len (dCons (dVar 1) (dNil))) (dInt)))) (dBcons (dFor PassesOwn.never rfl (dIany (dVar 5)) (dGn (i := 8) sc.nd rfl (by first | exact Or.inl rfl | exact Or.inr rfl)) (dBcons (dSet (i := 9) sc.nd rfl (by first | exact Or.inl rfl | exact Or.inr rfl) (dCallB m_sum (cr_sumA rfl) rfl f_sum bb_sum (dCons (dFz (dLcO (own := [("_law_at", 6)]) rfl sc.nd (dIany (dVar 8)) (blkOk_by (by kernel_rfl)) (fun _ _ _ _ _ => dGn (i := 6) sc.nd rfl (by first | exact Or.inl rfl | exact Or.inr rfl)) (fun _ _ _ _ _ => dYes) (fun _ _ _ _ _ => dIx ix_seq m_ix (dVar 0) (dVar 6)))) (dNil)))) (dBcons (dFor PassesOwn.never rfl (dIany (dVar 2)) (dGn (i := 10) sc.nd rfl (by first | exact Or.inl rfl | exact Or.inr rfl)) (dBone (dSet (i := 9) sc.nd rfl (by first | exact Or.inl rfl | exact Or.inr rfl) (dBin op_sub m_sub (dVar 9) (dCall G__law_worth (hr.mono (by decide)) rfl g__law_worth F__law_worth.kp B__law_worth (dCons (dIx ix_seq m_ix (dVar 0) (dVar 10)) (dCons (dCallB m_len call_lenA rfl f_len bb_len (dCons (dFz (dLcO (own := [("_law_at", 6)]) rfl sc.nd (dIany (dVar 8)) (blkOk_by (by kernel_rfl)) (fun _ _ _ _ _ => dGn (i := 6) sc.nd rfl (by first | exact Or.inl rfl | exact Or.inr rfl)) (fun _ _ _ _ _ => pts_one (dTcmp op_gt m_gt (dVar 6) (dVar 10) (nomark _))) (fun _ _ _ _ _ => dVar 6))) (dNil))) (dNil)))))))) (dBone (dIfS (PW.pt (dOrT (dTcmp op_isA m_is (dIxO 7 (dCallB m_len call_lenA rfl f_len bb_len (dCons (dVar 8) (dNil)))) (dNon) (nomark _)) (dOr1 (dTcmp op_gt m_gt (dVar 9) (dIxO 7 (dCallB m_len call_lenA rfl f_len bb_len (dCons (dVar 8) (dNil)))) (nomark _))))) (dBone (dPut 7 (dVar 9) (dCallB m_len call_lenA rfl f_len bb_len (dCons (dVar 8) (dNil))))) (dBnil)))))) (dBone (dFrzS 7 (dRet (dSl (dVar 7) (dOs (dInt)) (dOn)))))))))))
theorem bi_Card___repr__ {K : PySem.W.Frag} {mg : Str → Option Value} (C : HF fa fn K mg) : Binds K (fdOf K (Pl.ad K (.meth "Card" "__repr__"))) ["self"] [] := (C.fun_ 32 (d := d_Card___repr__) rfl).bindsN fun _ _ _ _ _ _ us hl => match us, hl with | [_], _ => rfl
theorem ok_Card___repr__ (C : HF fa fn K mg) : FO cs P w K mg base 1 (.meth "Card" "__repr__") ["self"] 1 mf_Card___repr__ := by
  have n_Card_held := C.noat 23 rfl
  have c_Card := C.cls 24 rfl
  have n_Card_daily := C.noat 25 rfl
  have sc := sc_Card___repr__
  refine fn_mir (C.fun_ 32 (d := d_Card___repr__) rfl) sc_Card___repr__ fun cdv A outer s H E p F0 hr => ?_
  exact dBone (dRet (dFs (DJ.cons (dStr) (DJ.cons (dFmt (dFld (ck := "Card") (ks := ["held", "daily"]) 0 rfl (by decide) c_Card n_Card_held (dVar 0))) (DJ.cons (dStr) (DJ.cons (dFmt (dFld (ck := "Card") (ks := ["held", "daily"]) 1 rfl (by decide) c_Card n_Card_daily (dVar 0))) (DJ.nil)))))))
theorem bi__law_meets {K : PySem.W.Frag} {mg : Str → Option Value} (C : HF fa fn K mg) : Binds K (fdOf K (Pl.ad K (.glob "_law_meets"))) ["_law_cards", "_law_asks_here"] [] := (C.fun_ 33 (d := d__law_meets) rfl).bindsN fun _ _ _ _ _ _ us hl => match us, hl with | [_, _], _ => rfl
theorem ok__law_meets (C : HF fa fn K mg) : FO cs P w K mg base 3 (.glob "_law_meets") ["_law_cards", "_law_asks_here"] 2 mf__law_meets := by
  have f_len := C.free 4 rfl
  have f_range := C.free 17 rfl
  have G__law_power := ok__law_power (P := P) (w := w) (base := base) C
  have F__law_power := C.fun_ 28 (d := d__law_power) rfl
  have B__law_power := bi__law_power C
  have g__law_power := C.glo 62 rfl
  have f_all := C.free 10 rfl
  have sc := sc__law_meets
  refine fn_mir (C.fun_ 33 (d := d__law_meets) rfl) sc__law_meets fun cdv A outer s H E p F0 hr => ?_
  exact dBone (dRet (dCallB m_all (cr_all rfl) rfl f_all bb_all (dCons (dFz (dLcO (own := [("_law_k", 2)]) rfl sc.nd (dIrng1 rfl f_range (dCons (dCallB m_len call_lenA rfl f_len bb_len (dCons (dVar 1) (dNil))) (dNil))) (blkOk_by (by kernel_rfl)) (fun _ _ _ _ _ => dGn (i := 2) sc.nd rfl (by first | exact Or.inl rfl | exact Or.inr rfl)) (fun _ _ _ _ _ => dYes) (fun _ _ _ _ _ => dCmp op_le m_le (dIx ix_seq m_ix (dVar 1) (dVar 2)) (dCall G__law_power (hr.mono (by decide)) rfl g__law_power F__law_power.kp B__law_power (dCons (dVar 0) (dCons (dBin op_addA m_add (dVar 2) (dInt)) (dNil)))) (nomark _)))) (dNil))))
theorem bi__law_whole {K : PySem.W.Frag} {mg : Str → Option Value} (C : HF fa fn K mg) : Binds K (fdOf K (Pl.ad K (.glob "_law_whole"))) ["_law_value"] [] := (C.fun_ 34 (d := d__law_whole) rfl).bindsN fun _ _ _ _ _ _ us hl => match us, hl with | [_], _ => rfl
theorem ok__law_whole (C : HF fa fn K mg) : FO cs P w K mg base 1 (.glob "_law_whole") ["_law_value"] 1 mf__law_whole := by
  have isi := isi_ok (C.fact 0 rfl)
  have f_int := C.free 18 rfl
  have f_isinstance := C.free 2 rfl
  have f_bool := C.free 19 rfl
  have sc := sc__law_whole
  refine fn_mir (C.fun_ 34 (d := d__law_whole) rfl) sc__law_whole fun cdv A outer s H E p F0 hr => ?_
  exact dBone (dRet (dAndV (dCallB (m_isi isi) call_isi rfl f_isinstance bb_isinstance (dCons (dVar 0) (dCons (dTy rfl f_int bb_int) (dNil)))) (dAndV (dNotV (dCallB (m_isi isi) call_isi rfl f_isinstance bb_isinstance (dCons (dVar 0) (dCons (dTy rfl f_bool bb_bool) (dNil))))) (dOneV (dCmp op_ge m_ge (dVar 0) (dInt) (nomark _))))))
theorem bi__law_best_right {K : PySem.W.Frag} {mg : Str → Option Value} (C : HF fa fn K mg) : Binds K (fdOf K (Pl.ad K (.glob "_law_best_right"))) ["_law_cards", "_law_asks_here", "_law_best"] [] := (C.fun_ 35 (d := d__law_best_right) rfl).bindsN fun _ _ _ _ _ _ us hl => match us, hl with | [_, _, _], _ => rfl
theorem ok__law_best_right (C : HF fa fn K mg) : FO cs P w K mg base 4 (.glob "_law_best_right") ["_law_cards", "_law_asks_here", "_law_best"] 3 mf__law_best_right := by
  have G__law_meets := ok__law_meets (P := P) (w := w) (base := base) C
  have F__law_meets := C.fun_ 33 (d := d__law_meets) rfl
  have B__law_meets := bi__law_meets C
  have g__law_meets := C.glo 69 rfl
  have sc := sc__law_best_right
  refine fn_mir (C.fun_ 35 (d := d__law_best_right) rfl) sc__law_best_right fun cdv A outer s H E p F0 hr => ?_
  exact dBcons (dIfS (PW.pt (dOrT (dTcmp op_lt m_lt (dIx ix_seq m_ix (dVar 2) (dInt)) (dInt) (nomark _)) (dOrT (dTcmp op_lt m_lt (dIx ix_seq m_ix (dVar 2) (dInt)) (dInt) (nomark _)) (dOrT (dTcmp op_gt m_gt (dIx ix_seq m_ix (dVar 2) (dInt)) (dBin op_mulA m_mul (dInt) (dIx ix_seq m_ix (dVar 2) (dInt))) (nomark _)) (dOr1 (dNotT (dTst (dCall G__law_meets (hr.mono (by decide)) rfl g__law_meets F__law_meets.kp B__law_meets (dCons (dBin op_addA m_add (dVar 0) (dFz (dLstO (dCons (dVar 2) (dNil))))) (dCons (dVar 1) (dNil))))))))))) (dBone (dRet (dBl))) (dBnil)) (dBcons (dIfS (dTst (dCall G__law_meets (hr.mono (by decide)) rfl g__law_meets F__law_meets.kp B__law_meets (dCons (dBin op_addA m_add (dVar 0) (dFz (dLstO (dCons (dTup (dCons (dBin op_sub m_sub (dIx ix_seq m_ix (dVar 2) (dInt)) (dInt)) (dCons (dBin op_pow m_pow (dInt) (dInt)) (dNil)))) (dNil))))) (dCons (dVar 1) (dNil))))) (dBone (dRet (dBl))) (dBnil)) (dBone (dRet (dOrV (dCmp (op_eqD hr.units) m_eq (dIx ix_seq m_ix (dVar 2) (dInt)) (dInt) (nomark _)) (dOneV (dNotV (dCall G__law_meets (hr.mono (by decide)) rfl g__law_meets F__law_meets.kp B__law_meets (dCons (dBin op_addA m_add (dVar 0) (dFz (dLstO (dCons (dTup (dCons (dBin op_pow m_pow (dInt) (dInt)) (dCons (dBin op_sub m_sub (dIx ix_seq m_ix (dVar 2) (dInt)) (dInt)) (dNil)))) (dNil))))) (dCons (dVar 1) (dNil))))))))))
theorem bi__law_right {K : PySem.W.Frag} {mg : Str → Option Value} (C : HF fa fn K mg) : Binds K (fdOf K (Pl.ad K (.glob "_law_right"))) ["_law_pot_here"] [] := (C.fun_ 36 (d := d__law_right) rfl).bindsN fun _ _ _ _ _ _ us hl => match us, hl with | [_], _ => rfl
theorem ok__law_right (C : HF fa fn K mg) : FO cs P w K mg base 7 (.glob "_law_right") ["_law_pot_here"] 1 mf__law_right := by
  have G__law_draw := ok__law_draw (P := P) (w := w) (base := base) C
  have F__law_draw := C.fun_ 24 (d := d__law_draw) rfl
  have B__law_draw := bi__law_draw C
  have g__law_draw := C.glo 58 rfl
  have f_range := C.free 17 rfl
  have G__law_card := ok__law_card (P := P) (w := w) (base := base) C
  have F__law_card := C.fun_ 26 (d := d__law_card) rfl
  have B__law_card := bi__law_card C
  have g__law_card := C.glo 60 rfl
  have f_str := C.free 6 rfl
  have G__law_great_events := ok__law_great_events (P := P) (w := w) (base := base) C
  have F__law_great_events := C.fun_ 29 (d := d__law_great_events) rfl
  have B__law_great_events := bi__law_great_events C
  have g__law_great_events := C.glo 63 rfl
  have G__law_course := ok__law_course (P := P) (w := w) (base := base) C
  have F__law_course := C.fun_ 30 (d := d__law_course) rfl
  have B__law_course := bi__law_course C
  have g__law_course := C.glo 64 rfl
  have G__law_purse := ok__law_purse (P := P) (w := w) (base := base) C
  have F__law_purse := C.fun_ 6 (d := d__law_purse) rfl
  have B__law_purse := bi__law_purse C
  have g__law_purse := C.glo 28 rfl
  have G__law_asks := ok__law_asks (P := P) (w := w) (base := base) C
  have F__law_asks := C.fun_ 31 (d := d__law_asks) rfl
  have B__law_asks := bi__law_asks C
  have g__law_asks := C.glo 66 rfl
  have G_least_card := ok_least_card (P := P) (w := w) (base := base) C
  have F_least_card := C.fun_ 19 (d := d_least_card) rfl
  have B_least_card := bi_least_card C
  have g_least_card := C.glo 55 rfl
  have G_Card___repr__ := ok_Card___repr__ (P := P) (w := w) (base := base) C
  have F_Card___repr__ := C.fun_ 32 (d := d_Card___repr__) rfl
  have B_Card___repr__ := bi_Card___repr__ C
  have oR_Card___repr__ := own_ok (C.fact 67 rfl)
  have f_repr := C.free 68 rfl
  have G__law_meets := ok__law_meets (P := P) (w := w) (base := base) C
  have F__law_meets := C.fun_ 33 (d := d__law_meets) rfl
  have B__law_meets := bi__law_meets C
  have g__law_meets := C.glo 69 rfl
  have isi := isi_ok (C.fact 0 rfl)
  have g_Card := C.glo 12 rfl
  have f_isinstance := C.free 2 rfl
  have G__law_whole := ok__law_whole (P := P) (w := w) (base := base) C
  have F__law_whole := C.fun_ 34 (d := d__law_whole) rfl
  have B__law_whole := bi__law_whole C
  have G_Card_balance := ok_Card_balance (P := P) (w := w) (base := base) C
  have F_Card_balance := C.fun_ 12 (d := d_Card_balance) rfl
  have B_Card_balance := bi_Card_balance C
  have p_Card_balance := prop_ok (C.fact 40 rfl)
  have c_Card := C.cls 24 rfl
  have g__law_whole := C.glo 70 rfl
  have G_Card_limit := ok_Card_limit (P := P) (w := w) (base := base) C
  have F_Card_limit := C.fun_ 11 (d := d_Card_limit) rfl
  have B_Card_limit := bi_Card_limit C
  have p_Card_limit := prop_ok (C.fact 39 rfl)
  have G__law_best_right := ok__law_best_right (P := P) (w := w) (base := base) C
  have F__law_best_right := C.fun_ 35 (d := d__law_best_right) rfl
  have B__law_best_right := bi__law_best_right C
  have g__law_best_right := C.glo 71 rfl
  have sc := sc__law_right
  refine fn_mir (C.fun_ 36 (d := d__law_right) rfl) sc__law_right fun cdv A outer s H E p F0 hr => ?_
  exact dBcons (dLcSet 1 [] (own := [("_law_k", 8)]) rfl sc.nd rfl rfl (sw_true rfl rfl rfl (by kernel_rfl)) (dIrng1 rfl f_range (dCons (dCall G__law_draw (hr.mono (by decide)) rfl g__law_draw F__law_draw.kp B__law_draw (dCons (dVar 0) (dCons (dInt) (dNil)))) (dNil))) (blkOk_by (by kernel_rfl)) (fun _ _ _ _ _ => dGn (i := 8) sc.nd rfl (by first | exact Or.inl rfl | exact Or.inr rfl)) (fun _ _ _ _ _ => dYes) (fun _ _ _ _ _ => dCall G__law_card (hr.mono (by decide)) rfl g__law_card F__law_card.kp B__law_card (dCons (dVar 0) (dNil)))) (dBcons (dPar (i := 2) (j := 3) rfl sc.nd rfl rfl (by decide) rfl rfl (dMsh (dCall G__law_great_events (hr.mono (by decide)) rfl g__law_great_events F__law_great_events.kp B__law_great_events (dCons (dVar 0) (dCons (dVar 1) (dNil)))) (dMsh (dFz (dLcO (own := [("_law_k", 8)]) rfl sc.nd (dIrng1 rfl f_range (dCons (dInt) (dNil))) (blkOk_by (by kernel_rfl)) (fun _ _ _ _ _ => dGn (i := 8) sc.nd rfl (by first | exact Or.inl rfl | exact Or.inr rfl)) (fun _ _ _ _ _ => dYes) (fun _ _ _ _ _ => dBin op_addA m_add (dStr) (dCallT m_strI call_str_int rfl f_str bb_str (dCons (dVar 8) (dNil)))))) (dMnil)))) (dBcons (dPar3 (i := 4) (j := 5) (l := 6) rfl sc.nd rfl rfl rfl (by decide) (by decide) (by decide) rfl rfl rfl (dMsh (dCall G__law_asks (hr.mono (by decide)) rfl g__law_asks F__law_asks.kp B__law_asks (dCons (dVar 2) (dNil))) (dMsh (dCall G__law_purse (hr.mono (by decide)) rfl g__law_purse F__law_purse.kp B__law_purse (dCons (dVar 1) (dCons (dVar 3) (dNil)))) (dMsh (dCall G__law_course (hr.mono (by decide)) rfl g__law_course F__law_course.kp B__law_course (dCons (dVar 2) (dNil))) (dMnil))))) (dBcons (dSet (i := 7) sc.nd rfl (by first | exact Or.inl rfl | exact Or.inr rfl) (dCall G_least_card (hr.mono (by decide)) rfl g_least_card F_least_card.kp B_least_card (dCons (dVar 5) (dCons (dVar 6) (dNil))))) (dBcons (dIfS (dTcmp op_ne m_neS (dRepX (ck := "Card") G_Card___repr__ (hr.mono (by decide)) B_Card___repr__ oR_Card___repr__ rfl f_repr (dCall G_least_card (hr.mono (by decide)) rfl g_least_card F_least_card.kp B_least_card (dCons (dVar 5) (dCons (dVar 6) (dNil))))) (dRepX (ck := "Card") G_Card___repr__ (hr.mono (by decide)) B_Card___repr__ oR_Card___repr__ rfl f_repr (dVar 7)) (nomark _)) (dBone (dRet (dBl))) (dBnil)) (dBcons (dIfS (dTst (dCall G__law_meets (hr.mono (by decide)) rfl g__law_meets F__law_meets.kp B__law_meets (dCons (dVar 1) (dCons (dVar 4) (dNil))))) (dBone (dRet (dCmp op_isA m_is (dVar 7) (dNon) (nomark _)))) (dBnil)) (dBcons (dIfS (PW.pt (dOrT (dNotT (dTst (dCallB (m_isi isi) call_isi rfl f_isinstance bb_isinstance (dCons (dVar 7) (dCons (dGC (k := "Card") hc_Card rfl g_Card) (dNil)))))) (dOrT (dNotT (dTst (dCall G__law_whole (hr.mono (by decide)) rfl g__law_whole F__law_whole.kp B__law_whole (dCons (dProp (ck := "Card") (dVar 7) c_Card p_Card_balance G_Card_balance (hr.mono (by decide)) B_Card_balance) (dNil))))) (dOr1 (dNotT (dTst (dCall G__law_whole (hr.mono (by decide)) rfl g__law_whole F__law_whole.kp B__law_whole (dCons (dProp (ck := "Card") (dVar 7) c_Card p_Card_limit G_Card_limit (hr.mono (by decide)) B_Card_limit) (dNil))))))))) (dBone (dRet (dBl))) (dBnil)) (dBone (dRet (dCall G__law_best_right (hr.mono (by decide)) rfl g__law_best_right F__law_best_right.kp B__law_best_right (dCons (dVar 1) (dCons (dVar 4) (dCons (dTup (dCons (dProp (ck := "Card") (dVar 7) c_Card p_Card_balance G_Card_balance (hr.mono (by decide)) B_Card_balance) (dCons (dProp (ck := "Card") (dVar 7) c_Card p_Card_limit G_Card_limit (hr.mono (by decide)) B_Card_limit) (dNil)))) (dNil)))))))))))))
theorem bi__law_pot {K : PySem.W.Frag} {mg : Str → Option Value} (C : HF fa fn K mg) : Binds K (fdOf K (Pl.ad K (.glob "_law_pot"))) ["_law_cells", "_law_k"] [] := (C.fun_ 37 (d := d__law_pot) rfl).bindsN fun _ _ _ _ _ _ us hl => match us, hl with | [_, _], _ => rfl
theorem okL__law_pot (C : HF fa fn K mg) : FnOk P w K mg base CX0 1 (Pl.ad K (.glob "_law_pot")) (fdOf K (Pl.ad K (.glob "_law_pot"))) ["_law_cells", "_law_k"] (spL (WW cs K) 2 mfL__law_pot) := by
  have f_len := C.free 4 rfl
  have f_int := C.free 18 rfl
  have f_abs := C.free 72 rfl
  have sc := sc__law_pot
  refine fn_mirL (C.fun_ 37 (d := d__law_pot) rfl) sc__law_pot fun cdv A outer s H E p F0 hr => ?_
  exact dBcons (dSet (i := 2) sc.nd rfl (by first | exact Or.inl rfl | exact Or.inr rfl) (dIf (dTcmp op_lt m_lt (dVar 1) (dCallB m_len call_lenA rfl f_len bb_len (dCons (dVar 0) (dNil))) (nomark _)) (dIx ix_seq m_ix (dVar 0) (dVar 1)) (dBin op_addA m_add (dBin op_mulA m_mul (dInt) (dVar 1)) (dInt)))) (dBcons (dIfS (dTcmp op_ge m_ge (dVar 1) (dCallB m_len call_lenA rfl f_len bb_len (dCons (dVar 0) (dNil))) (nomark _)) (dBone (dFor PassesOwn.never rfl (dIany (dSl (dVar 0) (dOn) (dOs (dInt)))) (dGn (i := 3) sc.nd rfl (by first | exact Or.inl rfl | exact Or.inr rfl)) (dBone (dSet (i := 2) sc.nd rfl (by first | exact Or.inl rfl | exact Or.inr rfl) (dBin op_mod m_mod (dCallT m_int1 call_int1 rfl f_int bb_int (dCons (dBin op_addA m_add (dBin op_mulA m_mul (dVar 2) (dInt)) (dVar 3)) (dNil))) (dInt)))))) (dBnil)) (dBcons (dSet (i := 4) sc.nd rfl (by first | exact Or.inl rfl | exact Or.inr rfl) (dIf (dTcmp op_ge m_ge (dCallB m_abs call_abs rfl f_abs bb_abs (dCons (dVar 2) (dNil))) (dBin op_pow m_pow (dInt) (dInt)) (nomark _)) (dCallB m_abs call_abs rfl f_abs bb_abs (dCons (dVar 2) (dNil))) (dInt))) (dBone (dRetL (dLstO (dCons (dVar 4) (dCons (dBin op_mod m_mod (dCallT m_int1 call_int1 rfl f_int bb_int (dCons (dBin op_addA m_add (dBin op_addA m_add (dBin op_mulA m_mul (dVar 2) (dInt)) (dBin op_mulA m_mul (dInt) (dVar 1))) (dInt)) (dNil))) (dInt)) (dCons (dInt) (dNil)))))))))
theorem bi_law {K : PySem.W.Frag} {mg : Str → Option Value} (C : HF fa fn K mg) : Binds K (fdOf K (Pl.ad K (.glob "law"))) ["_law_cells"] [] := (C.fun_ 38 (d := d_law) rfl).bindsN fun _ _ _ _ _ _ us hl => match us, hl with | [_], _ => rfl
theorem ok_law (C : HF fa fn K mg) : FO cs P w K mg base 8 (.glob "law") ["_law_cells"] 1 mf_law := by
  have G__law_purse := ok__law_purse (P := P) (w := w) (base := base) C
  have F__law_purse := C.fun_ 6 (d := d__law_purse) rfl
  have B__law_purse := bi__law_purse C
  have f_range := C.free 17 rfl
  have f_str := C.free 6 rfl
  have g__law_purse := C.glo 28 rfl
  have G_least_card := ok_least_card (P := P) (w := w) (base := base) C
  have F_least_card := C.fun_ 19 (d := d_least_card) rfl
  have B_least_card := bi_least_card C
  have G_Course_of := ok_Course_of (P := P) (w := w) (base := base) C
  have cm_Course_of := clsm_ok (C.fact 54 rfl)
  have g_Course := C.glo 30 rfl
  have g_least_card := C.glo 55 rfl
  have G_Card___str__ := ok_Card___str__ (P := P) (w := w) (base := base) C
  have F_Card___str__ := C.fun_ 23 (d := d_Card___str__) rfl
  have B_Card___str__ := bi_Card___str__ C
  have oS_Card___str__ := own_ok (C.fact 56 rfl)
  have G_Course___init__ := ok_Course___init__ (P := P) (w := w) (base := base) C
  have F_Course___init__ := C.fun_ 21 (d := d_Course___init__) rfl
  have B_Course___init__ := bi_Course___init__ C
  have m_Course := C.mkr 53 rfl
  have f_tuple := C.free 1 rfl
  have f_len := C.free 4 rfl
  have f_min := C.free 32 rfl
  have f_max := C.free 36 rfl
  have G__law_right := ok__law_right (P := P) (w := w) (base := base) C
  have F__law_right := C.fun_ 36 (d := d__law_right) rfl
  have B__law_right := bi__law_right C
  have GL__law_pot := okL__law_pot (P := P) (w := w) (base := base) C
  have F__law_pot := C.fun_ 37 (d := d__law_pot) rfl
  have B__law_pot := bi__law_pot C
  have g__law_pot := C.glo 73 rfl
  have g__law_right := C.glo 74 rfl
  have f_all := C.free 10 rfl
  have sc := sc_law
  refine fn_mir (C.fun_ 38 (d := d_law) rfl) sc_law fun cdv A outer s H E p F0 hr => ?_
  exact dBcons (dSet (i := 1) sc.nd rfl (by first | exact Or.inl rfl | exact Or.inr rfl) (dCall G__law_purse (hr.mono (by decide)) rfl g__law_purse F__law_purse.kp B__law_purse (dCons (dBin op_mulA m_mul (dFz (dLstO (dCons (dTup (dCons (dInt) (dCons (dInt) (dNil)))) (dNil)))) (dInt)) (dCons (dFz (dLcO (own := [("_law_k", 2)]) rfl sc.nd (dIrng1 rfl f_range (dCons (dInt) (dNil))) (blkOk_by (by kernel_rfl)) (fun _ _ _ _ _ => dGn (i := 2) sc.nd rfl (by first | exact Or.inl rfl | exact Or.inr rfl)) (fun _ _ _ _ _ => dYes) (fun _ _ _ _ _ => dBin op_addA m_add (dStr) (dCallT m_strI call_str_int rfl f_str bb_str (dCons (dVar 2) (dNil)))))) (dNil))))) (dBcons (dIfS (dTcmp op_ne m_neS (dStrO (ck := "Card") G_Card___str__ (hr.mono (by decide)) B_Card___str__ oS_Card___str__ rfl f_str (dCall G_least_card (hr.mono (by decide)) rfl g_least_card F_least_card.kp B_least_card (dCons (dVar 1) (dCons (dCMeth (ck := "Course") hc_Course (dGC (k := "Course") hc_Course rfl g_Course) cm_Course_of (by decide) G_Course_of (hr.mono (by decide)) (dCons (dInt) (dCons (dInt) (dCons (dInt) (dCons (dInt) (dCons (dInt) (dCons (dInt) (dCons (dInt) (dCons (dInt) (dCons (dInt) (dCons (dInt) (dCons (dInt) (dCons (dInt) (dNil))))))))))))) (fun _ _ _ _ _ => Nat.succ_le_succ (Nat.zero_le _))) (dNil))))) (dStr) (nomark _)) (dBone (dRet (dBl))) (dBnil)) (dBcons (dIfS (dTcmp op_ne m_neS (dStrO (ck := "Card") G_Card___str__ (hr.mono (by decide)) B_Card___str__ oS_Card___str__ rfl f_str (dCall G_least_card (hr.mono (by decide)) rfl g_least_card F_least_card.kp B_least_card (dCons (dVar 1) (dCons (dMake (ck := "Course") hc_Course m_Course G_Course___init__ (hr.mono (by decide)) rfl g_Course B_Course___init__ (dCons (dCallT m_tup call_tuple_of rfl f_tuple bb_tuple (dCons (dBin op_mulA m_mul (dFz (dLstO (dCons (dBin op_addA m_add (dBin op_pow m_pow (dInt) (dInt)) (dInt)) (dNil)))) (dInt)) (dNil))) (dNil))) (dNil))))) (dBin op_addA m_add (dBin op_addA m_add (dBin op_addA m_add (dBin op_addA m_add (dStr) (dBin op_mulS m_mulS (dStr) (dInt))) (dStr)) (dBin op_mulS m_mulS (dStr) (dInt))) (dStr)) (nomark _)) (dBone (dRet (dBl))) (dBnil)) (dBone (dRet (dCallB m_all (cr_all rfl) rfl f_all bb_all (dCons (dFz (dLcO (own := [("_law_k", 2)]) rfl sc.nd (dIrng1 rfl f_range (dCons (dCallB m_max (cr_maxA rfl) rfl f_max bb_max (dCons (dInt) (dCons (dCallB m_min (cr_minA rfl) rfl f_min bb_min (dCons (dCallB m_len call_lenA rfl f_len bb_len (dCons (dVar 0) (dNil))) (dCons (dInt) (dNil)))) (dNil)))) (dNil))) (blkOk_by (by kernel_rfl)) (fun _ _ _ _ _ => dGn (i := 2) sc.nd rfl (by first | exact Or.inl rfl | exact Or.inr rfl)) (fun _ _ _ _ _ => dYes) (fun _ _ _ _ _ => dWith G__law_right (hr.mono (by decide)) rfl g__law_right F__law_right.kp B__law_right (dCallL GL__law_pot (hr.mono (by decide)) rfl g__law_pot F__law_pot.kp B__law_pot (dCons (dVar 0) (dCons (dVar 2) (dNil))))))) (dNil)))))))
theorem glaw (C : HF fa fn K mg) : mg "law" = some (.ref (ga K "law")) := C.glo 75 rfl
theorem flaw (C : HF fa fn K mg) : FunP K d_law := C.fun_ 38 rfl
end
end G48

set_option maxHeartbeats 0
open PySem PySem.W PySem.Calls PyProof.Rows in
theorem G48.fin (hlaw : ∀ (ns : List Int) (o : L2.HO), ns.length ≤ 63 → ∃ u', G48.mf_law [.scr ns] (.idle o) = some (.bl true, u')) : PySem.Challenge.rw_sparepay_k48_least_cards_of_great_number.Holds := by
  w_on; o_law
  refine HandSHeadRun.head_any (r := OpenLaw.row PySem.Challenge.rw_sparepay_k48_least_cards_of_great_number) (q := view (OpenLaw.row PySem.Challenge.rw_sparepay_k48_least_cards_of_great_number).prog [65]) (H := G48.hk) (ob := G48.ob) (M := 20000) (loose := G48.loose) (d := HandSHeadRun.topDef (OpenLaw.row PySem.Challenge.rw_sparepay_k48_least_cards_of_great_number).prog 65) (kwd := []) G48.ob_eq
    (by kernel_rfl) (fun s => by kernel_rfl) G48.run (by kernel_rfl) (by kernel_rfl) (by kernel_rfl) (by rfl) (by first | assumption | decide +kernel) (by decide +kernel) ⟨rfl, rfl, rfl, rfl, rfl, by decide +kernel⟩ ?hw ?hc
  case hw => w_witness2
  case hc =>
    refine L2.walk_ofE (l := PySem.Challenge.rw_sparepay_k48_least_cards_of_great_number) (n := 63) (k := 8) (x := "_law_cells") (CX := L2.CX0) rfl (by decide) (by kernel_rfl) ⟨rfl, by decide, by decide⟩ ?F (fun _ _ _ _ z => z)
    intro w mg fa h Y G hmg0
    obtain ⟨K, KX, c⟩ := Y
    have hmg : mg ("law" : PySem.Str) = some (.ref fa) := by
      have e : (HandSHeadRun.topDef (OpenLaw.row PySem.Challenge.rw_sparepay_k48_least_cards_of_great_number).prog 65).name = ("law" : PySem.Str) := by kernel_rfl
      rw [← e]
      exact hmg0
    have C : Mi.HF G48.fa G48.fn K mg := ⟨c, h, KX, G⟩
    have eg := G48.glaw C
    rw [hmg] at eg
    cases eg
    have b := L2.FunD.bindsA (ps := ["_law_cells"]) (G48.flaw C) fun _ _ _ _ _ _ us hl => match us, hl with | [_], _ => rfl
    refine ⟨K, _, Mi.spM (Mi.WW G48.cs K) 1 G48.mf_law, KX, fun s v => b s [v] rfl, fun H a ns hl _ hS => Mi.law_sp (C.fact 76 rfl) 63 hlaw H a ns hl hS, fun base _ _ => G48.ok_law C⟩

theorem PySem.Challenge.cw_sparepay_k48_least_cards_of_great_number_holds : PySem.Challenge.rw_sparepay_k48_least_cards_of_great_number.Holds := by
  exact G48.fin G48.hlaw
