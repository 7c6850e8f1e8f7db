import PyProof.Rows.All
import Wide.All
import OpenK.AllK
import Wide.FinOn
import HandS.ForMost
import HandS.Walk
import HandS.Defaults
import HandS.Property
import HandS.ClsMeth
import HandS.TupAny
import HandS.Wide
import HandS.WideBits
import HandS.IsInst
import HandS.Style
import HandS.Text
import KE.KTupSum
import KE.GoesEnum
import HandS.Zip
import HandS.MakeKwOnly
import KE.KStateDown
import HandS.Head0
import HandS.Head1
import HandS.Head2
import HandS.HeadEnd
import HandS.HeadHook1
import HandS.HeadHook2
import HandS.SortKw
import HandS.SortInts
import HandS.Rev
import HandS.FStr
import HandS.ListItems
import PyProof.Draws
import HandS.OwnEq
import KE.KDictZip
import KE.KOpsOwn
import KE.DatumOrd
import PyProof.ListNew
import HandS.Star
import PyProof.ReprRoads
import KE.KFmtOwn
import HandS.TryOnly
import PySem.Challenge.RW_sparepay_k27_course_texts_read_back
import Lean
namespace Mi
end Mi
namespace PySem.W
end PySem.W
namespace PySem
end PySem
namespace SrtR
end SrtR
namespace L2
end L2
namespace Sh
end Sh
namespace S2
end S2
namespace G27
end G27
namespace P20
end P20
namespace S1
end S1
set_option Elab.async false
set_option linter.all false
set_option maxRecDepth 100000
set_option maxHeartbeats 4000000
/-! Mh: the top run by one dispatch in each step (less time, less memory). -/
noncomputable section
namespace Hop
open PySem PySem.W PySem.Calls PyProof.Rows HandSHeadRun
abbrev Kt := SharedT → Sem Fin → Code → Pos → List Frame → Option SharedT
structure Ev where
  st : SharedT → Thread → Option (SharedT × Thread)
  den : Code → Sem Fin
  pr : Program
  wd : World
  n0 : Nat
  an : Option Value
abbrev Mo := Ev → Kt → SharedT → Code → Pos → List Frame → Option SharedT
def frd (d : Data) : Bool := match d with
  | .freed => true
  | _ => false
theorem frd_alive {o : Obj} (h : frd o.data = false) : alive o = some o := by
  obtain ⟨c, d, dt, sl⟩ := o
  cases dt <;> first | rfl | cases h
/-- a step by the given executor -/
def bGen (t : Thread) (E : Ev) (K : Kt) (s : SharedT) : Option SharedT := match through t with
  | true => some s
  | false => match stepOk E.n0 E.an t with
    | false => none
    | true => match E.st s t with
      | none => none
      | some q => frS q.1 fun s2 => K s2 q.2.cur q.2.code q.2.pos q.2.stack
def bLoad (a : Addr) (z : Option Value) (k : Obj → Sem Fin) (_ : Obj → Mo) : Mo := fun _ K s code pos stack =>
  @Bool.rec (fun _ => Option SharedT) none (@Option.rec Obj (fun _ => Option SharedT) none (fun o => @Bool.rec (fun _ => Option SharedT) (K s (k o) code pos stack) none (frd o.data)) (s.tree.get a)) (Nat.blt a s.n)
def upd (a : Addr) (f : Obj → Obj) (cur : Sem Fin) (K : Kt) (s : SharedT) (code : Code) (pos : Pos) (stack : List Frame) : Option SharedT :=
  @SharedT.rec (fun _ => Option SharedT) (fun T n life gens drawn toks os => @Bool.rec (fun _ => Option SharedT) none (@Option.rec Obj (fun _ => Option SharedT) none (fun o => @Bool.rec (fun _ => Option SharedT) (K ⟨T.set a f, n, life, gens, drawn, toks, os⟩ cur code pos stack) none (frd o.data)) (T.get a)) (Nat.blt a n)) s
def bUpdate (a : Addr) (z : Option Value) (f : Obj → Obj) (k : Unit → Sem Fin) (_ : Unit → Mo) : Mo := fun E K s code pos stack =>
  @Bool.rec (fun _ => Option SharedT)
    (@Bool.rec (fun _ => Option SharedT) (bGen ⟨.update a z f k, code, pos, stack⟩ E K s) (upd a f (k ()) K s code pos stack) (Nat.beq a mainNs))
    (upd a f (k ()) K s code pos stack) (Nat.ble E.n0 a)
def bAlloc (o : Obj) (k : Addr → Sem Fin) (_ : Addr → Mo) : Mo := fun _ K s code pos stack =>
  @SharedT.rec (fun _ => Option SharedT) (fun T n life gens drawn toks os => @Option.rec Obj (fun _ => Option SharedT) none (fun _ => frNat (n + 1) fun n1 => K ⟨T.ins n o, n1, life, gens, drawn, toks, os⟩ (k n) code pos stack) ((T.ins n o).get n)) s
def bFresh (k : Tok → Sem Fin) (_ : Tok → Mo) : Mo := fun _ K s code pos stack =>
  @SharedT.rec (fun _ => Option SharedT) (fun T n life gens drawn toks os => frNat (toks + 1) fun t1 => K ⟨T, n, life, gens, drawn, t1, os⟩ (k toks) code pos stack) s
def bDone (f : Flow) : Mo := fun E K s code pos stack => match stack with
  | [] => some s
  | .ret k _ _ _ c p _ :: rest => K s (k (.ok f)) c p rest
  | x :: rest => bGen ⟨.pure (.done f), code, pos, x :: rest⟩ E K s
def bPure (f : Fin) : Mo := @PySem.Fin.rec (fun _ => Mo) bDone (fun c E K s code pos stack => bGen ⟨.pure (.again c), code, pos, stack⟩ E K s) f
def keptOf (c1 c2 : Code) (lv : List Value) : List Value := match c1, c2 with
  | .builtin _ x, _ => unmarked x.refs
  | .call g x, .builtin .. => unmarked (if lv.contains borrowed then x.refs else g :: x.refs)
  | .call g x, .call .. => unmarked (if lv.contains borrowed then x.refs else g :: x.refs)
  | _, _ => []
def bCall (c : Code) (h : Option Value) (g : Bool) (l : List Value) (k : Result → Sem Fin) (_ : Result → Mo) : Mo := fun E K s code pos stack =>
  K s (E.den c) c pos (.ret k h g l code pos (keptOf c code l) :: stack)
def disp : Sem Fin → Mo := @Sem.rec PySem.Fin (fun _ => Mo)
  bPure
  (fun e E K s code pos stack => bGen ⟨.raise e, code, pos, stack⟩ E K s)
  (fun e E K s code pos stack => bGen ⟨.unsupported e, code, pos, stack⟩ E K s)
  (fun e E K s code pos stack => bGen ⟨.finish e, code, pos, stack⟩ E K s)
  (fun _ k _ _ K s code pos stack => K s (k ()) code pos stack)
  (fun q k _ _ K s code _ stack => K s (k ()) code q stack)
  bLoad bUpdate bAlloc
  (fun a k _ E K s code pos stack => bGen ⟨.loadIfAlive a k, code, pos, stack⟩ E K s)
  (fun _ k _ _ K s code pos stack => K s (k ()) code pos stack)
  (fun a k _ E K s code pos stack => bGen ⟨.register a k, code, pos, stack⟩ E K s)
  bFresh
  (fun k _ E K s code pos stack => K s (k ⟨E.pr, E.wd.params⟩) code pos stack)
  (fun a b k _ E K s code pos stack => bGen ⟨.choose a b k, code, pos, stack⟩ E K s)
  (fun a b k _ E K s code pos stack => bGen ⟨.os a b k, code, pos, stack⟩ E K s)
  bCall
  (fun a k _ E K s code pos stack => bGen ⟨.handled a k, code, pos, stack⟩ E K s)
  (fun a k _ E K s code pos stack => bGen ⟨.newGen a k, code, pos, stack⟩ E K s)
  (fun a k _ E K s code pos stack => bGen ⟨.genState a k, code, pos, stack⟩ E K s)
  (fun a b c k _ E K s code pos stack => bGen ⟨.resume a b c k, code, pos, stack⟩ E K s)
  (fun a b c k _ E K s code pos stack => bGen ⟨.yield a b c k, code, pos, stack⟩ E K s)
  (fun k _ E K s code pos stack => bGen ⟨.stack k, code, pos, stack⟩ E K s)
  (fun a k _ E K s code pos stack => bGen ⟨.fork a k, code, pos, stack⟩ E K s)
  (fun k _ E K s code pos stack => bGen ⟨.thread k, code, pos, stack⟩ E K s)
  (fun a b c d k _ E K s code pos stack => bGen ⟨.await a b c d k, code, pos, stack⟩ E K s)
def goH (E : Ev) : Nat → Kt := @Nat.rec (fun _ => Kt) (fun _ _ _ _ _ => none) (fun _ K s cur code pos stack => disp cur E K s code pos stack)
/-- what a step says -/
def Goes (E : Ev) (K : Kt) (s : SharedT) (t : Thread) (r : SharedT) : Prop := (through t = true ∧ s = r) ∨ (through t = false ∧ stepOk E.n0 E.an t = true ∧ ∃ s2 t2, stepT E.den E.pr E.wd s t = some (s2, t2) ∧ K s2 t2.cur t2.code t2.pos t2.stack = some r)
theorem gen_goes {E : Ev} {K : Kt} {s : SharedT} {t : Thread} {r : SharedT} (hE : E.st = stepT E.den E.pr E.wd) (h : bGen t E K s = some r) : Goes E K s t r := by
  unfold bGen at h
  cases ht : through t with
  | true => rw [ht] at h; exact .inl ⟨ht, Option.some.inj h⟩
  | false =>
    rw [ht] at h
    cases hk : stepOk E.n0 E.an t with
    | false => rw [hk] at h; cases h
    | true =>
      rw [hk] at h
      cases hs : E.st s t with
      | none => rw [hs] at h; cases h
      | some q =>
        rw [hs] at h
        simp only [frS_eq] at h
        exact .inr ⟨ht, hk, q.1, q.2, by rw [← hE]; exact hs, h⟩
theorem load_goes {E : Ev} {K : Kt} {s : SharedT} {a : Addr} {z : Option Value} {k : Obj → Sem Fin} {code : Code} {pos : Pos} {stack : List Frame} {ih : Obj → Mo} {r : SharedT} (h : bLoad a z k ih E K s code pos stack = some r) : Goes E K s ⟨.load a z k, code, pos, stack⟩ r := by
  obtain ⟨T, n, life, gens, drawn, toks, os⟩ := s
  unfold bLoad at h
  cases hb : Nat.blt a n with
  | false => simp only [hb] at h; cases h
  | true =>
    simp only [hb] at h
    cases hg : T.get a with
    | none => simp only [hg] at h; cases h
    | some o =>
      simp only [hg] at h
      cases hf : frd o.data with
      | true => simp only [hf] at h; cases h
      | false =>
        simp only [hf] at h
        refine .inr ⟨?_, rfl, _, ⟨k o, code, pos, stack⟩, ?_, h⟩
        · unfold through; exact Bool.and_false _
        · unfold stepT
          simp only [hb, hg, frd_alive hf]
theorem upd_goes {E : Ev} {K : Kt} {s : SharedT} {a : Addr} {z : Option Value} {f : Obj → Obj} {k : Unit → Sem Fin} {code : Code} {pos : Pos} {stack : List Frame} {r : SharedT} (ho : stepOk E.n0 E.an ⟨.update a z f k, code, pos, stack⟩ = true) (h : upd a f (k ()) K s code pos stack = some r) : Goes E K s ⟨.update a z f k, code, pos, stack⟩ r := by
  obtain ⟨T, n, life, gens, drawn, toks, os⟩ := s
  unfold upd at h
  cases hb : Nat.blt a n with
  | false => simp only [hb] at h; cases h
  | true =>
    simp only [hb] at h
    cases hg : T.get a with
    | none => simp only [hg] at h; cases h
    | some o =>
      simp only [hg] at h
      cases hf : frd o.data with
      | true => simp only [hf] at h; cases h
      | false =>
        simp only [hf] at h
        refine .inr ⟨?_, ho, _, ⟨k (), code, pos, stack⟩, ?_, h⟩
        · unfold through; exact Bool.and_false _
        · unfold stepT
          simp only [hb, hg, frd_alive hf]
theorem disp_goes {E : Ev} (hE : E.st = stepT E.den E.pr E.wd) {K : Kt} {s : SharedT} {cur : Sem Fin} {code : Code} {pos : Pos} {stack : List Frame} {r : SharedT} (h : disp cur E K s code pos stack = some r) : Goes E K s ⟨cur, code, pos, stack⟩ r := by
  cases cur with
  | pure f =>
    cases f with
    | done f =>
      have h : bDone f E K s code pos stack = some r := h
      cases stack with
      | nil => exact .inl ⟨rfl, Option.some.inj h⟩
      | cons x rest =>
        cases x with
        | ret k a b c d e g =>
          obtain ⟨T, n, life, gens, drawn, toks, os⟩ := s
          exact .inr ⟨rfl, rfl, _, ⟨k (.ok f), d, e, rest⟩, rfl, h⟩
        | gen => exact gen_goes hE h
    | again c => exact gen_goes hE h
  | load a z k => exact load_goes (ih := fun x => disp (k x)) h
  | update a z f k =>
    have h : bUpdate a z f k (fun _ => disp (k ())) E K s code pos stack = some r := h
    unfold bUpdate at h
    cases h1 : Nat.ble E.n0 a with
    | true =>
      simp only [h1] at h
      refine upd_goes ?_ h
      show (true && (Nat.ble E.n0 a || a == mainNs || a == cStatics || E.an == some (.ref a))) = true
      rw [h1]; rfl
    | false =>
      simp only [h1] at h
      cases h2 : Nat.beq a mainNs with
      | true =>
        simp only [h2] at h
        refine upd_goes ?_ h
        show (true && (Nat.ble E.n0 a || a == mainNs || a == cStatics || E.an == some (.ref a))) = true
        have : (a == mainNs) = true := by rw [Nat.eq_of_beq_eq_true h2]; exact beq_self_eq_true _
        rw [h1, this]; rfl
      | false =>
        simp only [h2] at h
        exact gen_goes hE h
  | alloc o k =>
    obtain ⟨T, n, life, gens, drawn, toks, os⟩ := s
    have h : bAlloc o k (fun x => disp (k x)) E K ⟨T, n, life, gens, drawn, toks, os⟩ code pos stack = some r := h
    unfold bAlloc at h
    cases hg : (T.ins n o).get n with
    | none => simp only [hg] at h; cases h
    | some q =>
      simp only [hg, frNat_eq] at h
      refine .inr ⟨by unfold through; exact Bool.and_false _, rfl, _, ⟨k n, code, pos, stack⟩, ?_, h⟩
      unfold stepT
      simp only [hg]
      rfl
  | fresh k =>
    obtain ⟨T, n, life, gens, drawn, toks, os⟩ := s
    have h : bFresh k (fun x => disp (k x)) E K ⟨T, n, life, gens, drawn, toks, os⟩ code pos stack = some r := h
    unfold bFresh at h
    simp only [frNat_eq] at h
    exact .inr ⟨by unfold through; exact Bool.and_false _, rfl, _, ⟨k toks, code, pos, stack⟩, rfl, h⟩
  | rule q k =>
    obtain ⟨T, n, life, gens, drawn, toks, os⟩ := s
    exact .inr ⟨by unfold through; exact Bool.and_false _, rfl, _, ⟨k (), code, pos, stack⟩, rfl, h⟩
  | «at» q k =>
    obtain ⟨T, n, life, gens, drawn, toks, os⟩ := s
    exact .inr ⟨by unfold through; exact Bool.and_false _, rfl, _, ⟨k (), code, q, stack⟩, rfl, h⟩
  | point q k =>
    obtain ⟨T, n, life, gens, drawn, toks, os⟩ := s
    exact .inr ⟨by unfold through; exact Bool.and_false _, rfl, _, ⟨k (), code, pos, stack⟩, rfl, h⟩
  | ask k =>
    obtain ⟨T, n, life, gens, drawn, toks, os⟩ := s
    exact .inr ⟨by unfold through; exact Bool.and_false _, rfl, _, ⟨k ⟨E.pr, E.wd.params⟩, code, pos, stack⟩, rfl, h⟩
  | call c h0 g l k =>
    obtain ⟨T, n, life, gens, drawn, toks, os⟩ := s
    have e : keptOf c code l = _ := rfl
    refine .inr ⟨by unfold through; exact Bool.and_false _, rfl, _, ⟨E.den c, c, pos, .ret k h0 g l code pos (keptOf c code l) :: stack⟩, ?_, h⟩
    cases c <;> cases code <;> rfl
  | _ => exact gen_goes hE h
theorem go_ok {E : Ev} (hE : E.st = stepT E.den E.pr E.wd) : ∀ {m : Nat} {s r : SharedT} {t : Thread}, goH E m s t.cur t.code t.pos t.stack = some r → goF E.st E.n0 E.an m s t = some r
  | 0, _, _, _, h => by cases h
  | m + 1, s, r, t, h => by
    have h1 : disp t.cur E (goH E m) s t.code t.pos t.stack = some r := h
    have key := disp_goes hE h1
    unfold goF
    rcases key with ⟨k1, rfl⟩ | ⟨k1, k2, s2, t2, k3, k4⟩
    · obtain ⟨cur, code, pos, stack⟩ := t
      rw [k1]
    · obtain ⟨cur, code, pos, stack⟩ := t
      rw [k1]
      simp only [k2]
      rw [hE, k3]
      simp only [frS_eq]
      rw [← hE]
      exact go_ok hE k4
/-- the state behind the top -/
def endH (st : SharedT → Thread → Option (SharedT × Thread)) (den : Code → Sem Fin) (M : Nat) (p : Program) (w : World) (os : OsState) : Option SharedT := match putAll (boot_heap w.params).objs.toList .nil 0 with
  | some (t, n) => frNat n fun n0 => goH ⟨st, den, p, w, n0, bootAnn w⟩ M (bootT w os (t, n0)) (topStub p).cur (topStub p).code (topStub p).pos (topStub p).stack
  | none => none
theorem end_ok {M : Nat} {p : Program} {w : World} {os : OsState} {s : SharedT} (h : endH (stepQ (denQ tabQ) p w) (denQ tabQ) M p w os = some s) : endF (stepQ (denQ tabQ) p w) M p w os = some s := by
  unfold endH at h
  unfold endF
  cases e : putAll (boot_heap w.params).objs.toList .nil 0 with
  | none => rw [e] at h; cases h
  | some r =>
    obtain ⟨t, n⟩ := r
    rw [e] at h
    simp only [frNat_eq] at h ⊢
    exact go_ok (E := ⟨stepQ (denQ tabQ) p w, denQ tabQ, p, w, n, bootAnn w⟩) (by show stepQ (denQ tabQ) p w = stepT (denQ tabQ) p w; rw [← stepQ_eq]) h
theorem map_ok {α : Type} {f : SharedT → α} {v : α} {M : Nat} {p : Program} {w : World} {os : OsState} (h : (endH (stepQ (denQ tabQ) p w) (denQ tabQ) M p w os).map f = some v) : (endF (stepQ (denQ tabQ) p w) M p w os).map f = some v := by
  obtain ⟨s, h1, h2⟩ := Option.map_eq_some_iff.mp h
  rw [end_ok h1]
  exact congrArg some h2
end Hop

set_option Elab.async false
set_option linter.all false
set_option maxRecDepth 100000
set_option maxHeartbeats 2000000
/-! Mi0: a mirror of Python code as plain functions on data, over the hand layer. Data D, how data lie in the abstract heap (Rep), steps of the heap (Stp, Gd), slots (Env, Sta), readings of mirrors (rdE, rdT, rdA, rdS, rdI, rdG, spM). -/
namespace Mi
open PySem PySem.Spec PyProof.Rows L2

/-- data -/
inductive D where
  | non | bl (b : Bool) | int (i : Int) | str (x : Str)
  | tup (ds : List D) | lst (ds : List D)
  | obj (c : Str) (ks : List Str) (ds : List D)
  | pur | ty (n : String) | cls (c : Str) | scr (ns : List Int)

/-- the one list that changes through calls (a purse of drawn numbers); idle: none is in use -/
inductive PuS where
  | real (l : List Int) | idle (o : HO)
def PuS.ho : PuS → HO
  | .real l => .lst (l.map V.int)
  | .idle o => o

/-- what is fixed: the written part, the classes by name -/
structure Wo where
  K : PySem.W.Frag
  cl : Str → Addr
  cs : List Str

inductive Rep (W : Wo) (p : Addr) (F : Hp) : V → D → Prop
  | non : Rep W p F .non .non
  | bl (b : Bool) : Rep W p F (.bl b) (.bl b)
  | int (i : Int) : Rep W p F (.int i) (.int i)
  | str (x : Str) : Rep W p F (.str x) (.str x)
  | ty (n : String) : Rep W p F (.ty n) (.ty n)
  | cls (c : Str) (hc : c ∈ W.cs) : Rep W p F (.ref (W.cl c)) (.cls c)
  | pur : Rep W p F (.ref p) .pur
  | scr {a : Addr} {ns : List Int} (h : SqL W.K F a (ns.map V.int)) : Rep W p F (.ref a) (.scr ns)
  | tup {a : Addr} {vs : List V} {ds : List D} (h : SqT W.K F a vs) (l : vs.length = ds.length) (r : ∀ (i : Nat) (v : V) (d : D), vs[i]? = some v → ds[i]? = some d → Rep W p F v d) : Rep W p F (.ref a) (.tup ds)
  | lst {a : Addr} {vs : List V} {ds : List D} (h : F a = some (.lst vs)) (l : vs.length = ds.length) (r : ∀ (i : Nat) (v : V) (d : D), vs[i]? = some v → ds[i]? = some d → Rep W p F v d) : Rep W p F (.ref a) (.lst ds)
  | obj {a dx : Addr} {c : Str} {ks : List Str} {vs : List V} {ds : List D} (hc : c ∈ W.cs) (h : F a = some (.ins (W.cl c) dx (ks.zip vs))) (lk : ks.length = vs.length) (l : vs.length = ds.length)
      (r : ∀ (i : Nat) (v : V) (d : D), vs[i]? = some v → ds[i]? = some d → Rep W p F v d) : Rep W p F (.ref a) (.obj c ks ds)

def Reps (W : Wo) (p : Addr) (F : Hp) (vs : List V) (ds : List D) : Prop := vs.length = ds.length ∧ ∀ (i : Nat) (v : V) (d : D), vs[i]? = some v → ds[i]? = some d → Rep W p F v d

theorem sq_t {K : PySem.W.Frag} {H H' : Hp} {a : Addr} {xs : List V} (e : Same H H') (h : SqT K H a xs) : SqT K H' a xs := by
  rcases h with (h | ⟨o, h⟩) | h
  · exact .inl (.inl (e _ _ h))
  · exact .inl (.inr ⟨o, e _ _ h⟩)
  · exact .inr h

theorem sq_l {K : PySem.W.Frag} {H H' : Hp} {a : Addr} {xs : List V} (e : Same H H') (h : SqL K H a xs) : SqL K H' a xs := by
  rcases h with (h | ⟨o, h⟩) | h
  · exact .inl (.inl (e _ _ h))
  · exact .inl (.inr ⟨o, e _ _ h⟩)
  · exact .inr h

section
variable {W : Wo} {p : Addr} {F F' H H' F1 H1 F2 H2 : Hp} {u u1 u2 : PuS}
theorem Rep.mono {v : V} {d : D} (e : Same F F') (h : Rep W p F v d) : Rep W p F' v d := by
  induction h with
  | non => exact .non
  | bl b => exact .bl b
  | int i => exact .int i
  | str x => exact .str x
  | ty n => exact .ty n
  | cls c hc => exact .cls c hc
  | pur => exact .pur
  | scr h => exact .scr (sq_l e h)
  | tup h l r ih => exact .tup (sq_t e h) l ih
  | lst h l r ih => exact .lst (e _ _ h) l ih
  | obj hc h lk l r ih => exact .obj hc (e _ _ h) lk l ih
theorem Reps.mono {vs : List V} {ds : List D} (e : Same F F') (h : Reps W p F vs ds) : Reps W p F' vs ds := ⟨h.1, fun i v d a b => (h.2 i v d a b).mono e⟩
theorem Reps.nil : Reps W p F [] [] := ⟨rfl, fun i v d a _ => by simp at a⟩
theorem Reps.cons {v : V} {d : D} {vs : List V} {ds : List D} (h : Rep W p F v d) (r : Reps W p F vs ds) : Reps W p F (v :: vs) (d :: ds) := by
  refine ⟨by simp [r.1], fun i x y a b => ?_⟩
  cases i with
  | zero =>
    simp at a b
    subst a; subst b
    exact h
  | succ i =>
    simp at a b
    exact r.2 i x y a b
theorem Reps.uncons {vs : List V} {d : D} {ds : List D} (r : Reps W p F vs (d :: ds)) : ∃ v vr, vs = v :: vr ∧ Rep W p F v d ∧ Reps W p F vr ds := by
  obtain ⟨l, r⟩ := r
  cases vs with
  | nil => simp at l
  | cons v vr => exact ⟨v, vr, rfl, r 0 v d rfl rfl, by simpa using l, fun i x y a b => r (i + 1) x y (by simpa using a) (by simpa using b)⟩
theorem Reps.none {vs : List V} (r : Reps W p F vs []) : vs = [] := by
  cases vs with
  | nil => rfl
  | cons v vr => have := r.1; simp at this
theorem Reps.append {vs ws : List V} {ds es : List D} (a : Reps W p F vs ds) (b : Reps W p F ws es) : Reps W p F (vs ++ ws) (ds ++ es) := by
  refine ⟨by simp [a.1, b.1], fun i v d h1 h2 => ?_⟩
  by_cases hi : i < vs.length
  · rw [List.getElem?_append_left hi] at h1
    rw [List.getElem?_append_left (by rw [← a.1]; exact hi)] at h2
    exact a.2 i v d h1 h2
  · rw [List.getElem?_append_right (by omega)] at h1
    rw [List.getElem?_append_right (by rw [← a.1]; omega)] at h2
    rw [a.1] at h1
    exact b.2 _ v d h1 h2
theorem Reps.get {vs : List V} {ds : List D} {i : Nat} {d : D} (a : Reps W p F vs ds) (h : ds[i]? = some d) : ∃ v, vs[i]? = some v ∧ Rep W p F v d := by
  have hi : i < vs.length := by
    have := (List.getElem?_eq_some_iff.mp h).1
    rw [a.1]; exact this
  exact ⟨vs[i], List.getElem?_eq_getElem hi, a.2 i _ d (List.getElem?_eq_getElem hi) h⟩

/-! ### steps of the heap -/
structure Stp (p : Addr) (F H F' H' : Hp) : Prop where
  ef : Same F F'
  eh : ∀ a o, a ≠ p → H a = some o → H' a = some o
  nw : ∀ a o, F' a = some o → F a = some o ∨ H a = none
structure Gd (p : Addr) (u : PuS) (F H : Hp) : Prop where
  ex : Same F H
  pu : H p = some u.ho
  off : ∀ l, u = .real l → F p = none
theorem Stp.refl : Stp p F H F H := ⟨fun _ _ h => h, fun _ _ _ h => h, fun _ _ h => .inl h⟩
theorem Stp.trans (s : Stp p F H F1 H1) (g : H1 p ≠ none) (t : Stp p F1 H1 F2 H2) : Stp p F H F2 H2 := by
  refine ⟨s.ef.trans t.ef, fun a o h e => t.eh a o h (s.eh a o h e), fun a o e => ?_⟩
  rcases t.nw a o e with h | h
  · exact s.nw a o h
  · right
    cases q : H a with
    | none => rfl
    | some x =>
      by_cases ha : a = p
      · subst ha; exact absurd h g
      · rw [s.eh a x ha q] at h; cases h
theorem Gd.ne (g : Gd p u F H) : H p ≠ none := by rw [g.pu]; simp
theorem Gd.new {q : Addr} {o : HO} (g : Gd p u F H) (h : H q = none) : Gd p u (upd F q o) (upd H q o) := by
  have hq : p ≠ q := fun e => g.ne (e ▸ h)
  refine ⟨fun a x e => ?_, by rw [upd_ne hq]; exact g.pu, fun l e => by rw [upd_ne hq]; exact g.off l e⟩
  by_cases ha : a = q
  · subst ha; rw [upd_same] at e ⊢; exact e
  · rw [upd_ne ha] at e ⊢; exact g.ex a x e
theorem Stp.new {q : Addr} {o : HO} (g : Gd p u F H) (h : H q = none) : Stp p F H (upd F q o) (upd H q o) := by
  refine ⟨fun a x e => ?_, fun a x _ e => ?_, fun a x e => ?_⟩
  · rw [upd_ne (ne_of_none (g.ex a x e) h)]; exact e
  · rw [upd_ne (ne_of_none e h)]; exact e
  · by_cases ha : a = q
    · subst ha; exact .inr h
    · rw [upd_ne ha] at e; exact .inl e
/-- a new object that is not frozen -/
theorem Gd.own {q : Addr} {o : HO} (g : Gd p u F H) (h : H q = none) : Gd p u F (upd H q o) := by
  have hq : p ≠ q := fun e => g.ne (e ▸ h)
  exact ⟨fun a x e => by rw [upd_ne (ne_of_none (g.ex a x e) h)]; exact g.ex a x e, by rw [upd_ne hq]; exact g.pu, g.off⟩
theorem Stp.own {q : Addr} {o : HO} (h : H q = none) : Stp p F H F (upd H q o) :=
  ⟨fun _ _ e => e, fun a x _ e => by rw [upd_ne (ne_of_none e h)]; exact e, fun _ _ e => .inl e⟩
theorem Gd.fresh {q : Addr} (g : Gd p u F H) (h : H q = none) : F q = none := by
  cases e : F q with
  | none => rfl
  | some o => rw [g.ex q o e] at h; cases h
theorem Stp.off {q : Addr} (s : Stp p F H F' H') (h : F q = none) (h' : H q ≠ none) : F' q = none := by
  cases e : F' q with
  | none => rfl
  | some o =>
    rcases s.nw q o e with z | z
    · rw [h] at z; cases z
    · exact absurd z h'
end

/-! ### slots -/
inductive Sd where
  | un | sh (d : D) | ow (ds : List D) | oi (c : Str) (ks : List Str) (ds : List D)
abbrev Env := List Sd
def Sd.own : Sd → Bool
  | .ow _ => true
  | .oi _ _ _ => true
  | _ => false
/-- where a body runs: entered at F0, H0; sf: the object that is being made -/
structure Cf where
  W : Wo
  p : Addr
  F0 : Hp
  H0 : Hp
  sf : Addr
def SdOk (c : Cf) (F H : Hp) (x : Option (Option V)) : Sd → Prop
  | .un => True
  | .sh d => ∃ v, x = some (some v) ∧ Rep c.W c.p F v d
  | .ow ds => ∃ q vs, x = some (some (.ref q)) ∧ H q = some (.lst vs) ∧ F q = none ∧ q ≠ c.p ∧ c.H0 q = none ∧ Reps c.W c.p F vs ds
  | .oi k ks ds => ∃ dx vs, x = some (some (.ref c.sf)) ∧ H c.sf = some (.ins (c.W.cl k) dx (ks.zip vs)) ∧ F c.sf = none ∧ c.sf ≠ c.p ∧ c.H0 c.sf = none ∧ ks.length = vs.length ∧ Reps c.W c.p F vs ds
structure EnvOk (c : Cf) (F H : Hp) (σ : L2.St) (ρ : Env) : Prop where
  len : σ.length = ρ.length
  at_ : ∀ (i : Nat) (s : Sd), ρ[i]? = some s → SdOk c F H σ[i]? s
  ne : ∀ (i j : Nat) (s t : Sd), i ≠ j → ρ[i]? = some s → ρ[j]? = some t → s.own = true → t.own = true → σ[i]? ≠ σ[j]?
structure Sta (c : Cf) (u : PuS) (F H : Hp) (σ : L2.St) (ρ : Env) : Prop where
  ent : Stp c.p c.F0 c.H0 F H
  gd : Gd c.p u F H
  env : EnvOk c F H σ ρ
section
variable {c : Cf} {u u' : PuS} {F H F' H' : Hp} {σ : L2.St} {ρ : Env}
theorem SdOk.step {x : Option (Option V)} {s : Sd} (h : SdOk c F H x s) (t : Stp c.p F H F' H') : SdOk c F' H' x s := by
  cases s with
  | un => trivial
  | sh d => obtain ⟨v, e, r⟩ := h; exact ⟨v, e, r.mono t.ef⟩
  | ow ds => obtain ⟨q, vs, e, hq, hf, hp, h0, r⟩ := h; exact ⟨q, vs, e, t.eh q _ hp hq, t.off hf (by rw [hq]; simp), hp, h0, r.mono t.ef⟩
  | oi k ks ds => obtain ⟨dx, vs, e, hq, hf, hp, h0, hl, r⟩ := h; exact ⟨dx, vs, e, t.eh _ _ hp hq, t.off hf (by rw [hq]; simp), hp, h0, hl, r.mono t.ef⟩
theorem Sta.step (s : Sta c u F H σ ρ) (t : Stp c.p F H F' H') (g : Gd c.p u' F' H') : Sta c u' F' H' σ ρ :=
  ⟨s.ent.trans s.gd.ne t, g, s.env.len, fun i x e => (s.env.at_ i x e).step t, s.env.ne⟩
end

/-! ### mirrors -/
abbrev M (α : Type) := PuS → Option (α × PuS)
def M.pure {α : Type} (a : α) : M α := fun u => some (a, u)
def M.bind {α β : Type} (m : M α) (f : α → M β) : M β := fun u => match m u with
  | some (a, u') => f a u'
  | none => none
def lft {α : Type} (o : Option α) : M α := fun u => o.map fun a => (a, u)
instance : Monad M where
  pure := M.pure
  bind := M.bind
/-- what is wanted behind a mirror's step -/
def After {α : Type} (p : Addr) (F H : Hp) (r : Option (α × PuS)) (Φ : α → PuS → Hp → Hp → Prop) : Prop := match r with
  | some (a, u') => ∀ F' H', Stp p F H F' H' → Gd p u' F' H' → Φ a u' F' H'
  | none => False
section
variable {α β : Type} {p : Addr} {F H : Hp} {u : PuS}
theorem After.imp {r : Option (α × PuS)} {Φ Ψ : α → PuS → Hp → Hp → Prop} (h : After p F H r Φ) (k : ∀ a u' F' H', r = some (a, u') → Stp p F H F' H' → Gd p u' F' H' → Φ a u' F' H' → Ψ a u' F' H') : After p F H r Ψ := by
  cases r with
  | none => exact h
  | some x => obtain ⟨a, u'⟩ := x; exact fun F' H' s g => k a u' F' H' rfl s g (h F' H' s g)
theorem After.split {m : M α} {f : α → M β} {Φ : β → PuS → Hp → Hp → Prop} (h : After p F H (M.bind m f u) Φ) : After p F H (m u) fun a u1 F1 H1 => After p F1 H1 (f a u1) Φ := by
  unfold M.bind at h
  cases e : m u with
  | none => rw [e] at h; exact h
  | some x =>
    obtain ⟨a, u1⟩ := x
    rw [e] at h
    intro F1 H1 s g
    show After p F1 H1 (f a u1) Φ
    have h2 : After p F H (f a u1) Φ := h
    cases e2 : f a u1 with
    | none => rw [e2] at h2; exact h2
    | some y =>
      obtain ⟨b, u2⟩ := y
      rw [e2] at h2
      exact fun F2 H2 s2 g2 => h2 F2 H2 (s.trans g.ne s2) g2
theorem After.now {a : α} {Φ : α → PuS → Hp → Hp → Prop} (g : Gd p u F H) (h : After p F H (some (a, u)) Φ) : Φ a u F H := h F H Stp.refl g
end

abbrev ME := Env → M D
abbrev MT := Env → M Bool
abbrev MA := Env → M (List D)
inductive Fl where
  | nx (ρ : Env) | rt (d : D) | bk (ρ : Env) | ct (ρ : Env) | rl (ds : List D)
abbrev MS := Env → M Fl
abbrev MG := D → Env → Option Env

def rdE (c : Cf) (m : ME) : TE := fun σ H Q => ∃ F u ρ, Sta c u F H σ ρ ∧ After c.p F H (m ρ u) fun d _ F' H' => ∀ v, Rep c.W c.p F' v d → Q v H'
def rdT (c : Cf) (m : MT) : TT := fun σ H Q => ∃ F u ρ, Sta c u F H σ ρ ∧ After c.p F H (m ρ u) fun b _ _ H' => Q b H'
def rdA (c : Cf) (m : MA) : TA := fun σ H Q => ∃ F u ρ, Sta c u F H σ ρ ∧ After c.p F H (m ρ u) fun ds _ F' H' => ∀ vs, Reps c.W c.p F' vs ds → Q vs H'
/-- a fresh list, not frozen -/
def rdL (c : Cf) (m : MA) : TE := fun σ H Q => ∃ F u ρ, Sta c u F H σ ρ ∧ After c.p F H (m ρ u) fun ds _ F' H' => ∀ q vs, F' q = none → H q = none → H' q = some (.lst vs) → Reps c.W c.p F' vs ds → Q (.ref q) H'
def flow (c : Cf) (F : Hp) (Dn : Ends) : Fl → PuS → Prop := fun f u' => match f with
  | .nx ρ' => ∀ σ' F' H', Same F F' → Sta c u' F' H' σ' ρ' → Dn.nx σ' H'
  | .bk ρ' => ∀ σ' F' H', Same F F' → Sta c u' F' H' σ' ρ' → Dn.bk σ' H'
  | .ct ρ' => ∀ σ' F' H', Same F F' → Sta c u' F' H' σ' ρ' → Dn.ct σ' H'
  | .rt d => ∀ v F' H', Stp c.p c.F0 c.H0 F' H' → Gd c.p u' F' H' → Rep c.W c.p F' v d → Dn.rt v H'
  | .rl ds => ∀ q vs F' H', Stp c.p c.F0 c.H0 F' H' → Gd c.p u' F' H' → F' q = none → c.H0 q = none → H' q = some (.lst vs) → Reps c.W c.p F' vs ds → Dn.rt (.ref q) H'
def flowO (c : Cf) (F : Hp) (Dn : Ends) : Option (Fl × PuS) → Prop
  | some (f, u') => flow c F Dn f u'
  | none => False
def rdS (c : Cf) (m : MS) : TS := fun Dn σ H => ∃ F u ρ, Sta c u F H σ ρ ∧ flowO c F Dn (m ρ u)
/-- two slot lists that differ at most at these places -/
def Agr (is : List Nat) (σ σ' : L2.St) : Prop := σ'.length = σ.length ∧ ∀ j, j ∉ is → σ'[j]? = σ[j]?
def rdG (c : Cf) (is : List Nat) (m : MG) : TG := fun v σ H Q => ∃ F u ρ d, Sta c u F H σ ρ ∧ Rep c.W c.p F v d ∧ match m d ρ with
  | some ρ' => ∀ σ', Sta c u F H σ' ρ' → Agr is σ σ' → Q σ' H
  | none => False
def rdGs (c : Cf) (is : List Nat) (m : List D → Env → Option Env) : TGs := fun vs σ H Q => ∃ F u ρ ds, Sta c u F H σ ρ ∧ Reps c.W c.p F vs ds ∧ match m ds ρ with
  | some ρ' => ∀ σ', Sta c u F H σ' ρ' → Agr is σ σ' → Q σ' H
  | none => False
/-- what a walk over data gives -/
def WalkD (W : Wo) (p : Addr) (J : It) (F : Hp) (ds : List D) : Prop := ∃ (G : Hp → Prop) (Y : Nat → Hp → V → Hp → Prop), Walk J ds.length G Y ∧ (∀ H, Same F H → G H) ∧
  ∀ (i : Nat) (H : Hp) (x : V) (H' F2 : Hp) (u : PuS) (d : D), ds[i]? = some d → Same F F2 → Gd p u F2 H → Y i H x H' → ∃ F3, Stp p F2 H F3 H' ∧ Gd p u F3 H' ∧ Rep W p F3 x d
def rdI (c : Cf) (m : MA) : TI := fun σ H R => ∃ F u ρ, Sta c u F H σ ρ ∧ After c.p F H (m ρ u) fun ds _ F' H' => ∀ J, WalkD c.W c.p J F' ds → R J H'
/-- a def's promise by its mirror -/
def spM (W : Wo) (n : Nat) (mf : List D → M D) : Sp := fun vs H Q _ => vs.length = n ∧ ∃ p F u ds, Gd p u F H ∧ Reps W p F vs ds ∧ After p F H (mf ds u) fun d _ F' H' => ∀ v, Rep W p F' v d → Q v H'

/-! ### the judgements -/
theorem _root_.L2.PE.imp {X : Cx} {e : Expr} {t t' : TE} (h : PE X e t) (k : ∀ σ H Q, t' σ H Q → t σ H Q) : PE X e t' := ⟨fun pins s σ H Q I q => h.run pins s σ H Q I (k σ H Q q)⟩
theorem _root_.L2.PT.imp {X : Cx} {e : Expr} {t t' : TT} (h : PT X e t) (k : ∀ σ H Q, t' σ H Q → t σ H Q) : PT X e t' := ⟨fun pins s σ H Q I q => h.run pins s σ H Q I (k σ H Q q)⟩
theorem _root_.L2.PW.imp {X : Cx} {e : Expr} {t t' : TT} (h : PW X e t) (k : ∀ σ H Q, t' σ H Q → t σ H Q) : PW X e t' := ⟨fun wh pins s σ H Q I q => h.run wh pins s σ H Q I (k σ H Q q)⟩
theorem _root_.L2.PA.imp {X : Cx} {e : List Expr} {t t' : TA} (h : PA X e t) (k : ∀ σ H Q, t' σ H Q → t σ H Q) : PA X e t' := ⟨fun pos pins s σ H Q I q => h.run pos pins s σ H Q I (k σ H Q q)⟩
theorem _root_.L2.PS.imp {X : Cx} {e : Stmt} {t t' : TS} (h : PS X e t) (k : ∀ Dn σ H, t' Dn σ H → t Dn σ H) : PS X e t' := ⟨fun pins s σ H Dn I q => h.run pins s σ H Dn I (k Dn σ H q)⟩
theorem _root_.L2.PSs.imp {X : Cx} {e : List Stmt} {t t' : TS} (h : PSs X e t) (k : ∀ Dn σ H, t' Dn σ H → t Dn σ H) : PSs X e t' := ⟨fun pins s σ H Dn I q => h.run pins s σ H Dn I (k Dn σ H q)⟩
theorem _root_.L2.PG.imp {X : Cx} {e : Expr} {t t' : TG} (h : PG X e t) (k : ∀ v σ H Q, t' v σ H Q → t v σ H Q) : PG X e t' := ⟨fun pins s σ H v u Q I r q => h.run pins s σ H v u Q I r (k v σ H Q q)⟩
theorem _root_.L2.PGs.imp {X : Cx} {e : List Expr} {t t' : TGs} (h : PGs X e t) (k : ∀ v σ H Q, t' v σ H Q → t v σ H Q) : PGs X e t' := ⟨fun pins s σ H v u Q I r q => h.run pins s σ H v u Q I r (k v σ H Q q)⟩
theorem _root_.L2.PI.imp {X : Cx} {tg e : Expr} {t t' : TI} (h : PI X tg e t) (k : ∀ σ H R, t' σ H R → t σ H R) : PI X tg e t' := ⟨fun pins s σ H R I q => h.run pins s σ H R I (k σ H R q)⟩
theorem _root_.L2.PTs.imp {X : Cx} {e : List Expr} {t t' : TT} (h : PTs X e t) (k : ∀ σ H Q, t' σ H Q → t σ H Q) : PTs X e t' := ⟨fun pins s σ H Q I q => h.run pins s σ H Q I (k σ H Q q)⟩

abbrev DE (X : Cx) (c : Cf) (e : Expr) (m : ME) : Prop := PE X e (rdE c m)
abbrev DT (X : Cx) (c : Cf) (e : Expr) (m : MT) : Prop := PT X e (rdT c m)
abbrev DA (X : Cx) (c : Cf) (e : List Expr) (m : MA) : Prop := PA X e (rdA c m)
abbrev DL (X : Cx) (c : Cf) (e : Expr) (m : MA) : Prop := PE X e (rdL c m)
abbrev DS (X : Cx) (c : Cf) (e : Stmt) (m : MS) : Prop := PS X e (rdS c m)
abbrev DB (X : Cx) (c : Cf) (e : List Stmt) (m : MS) : Prop := PSs X e (rdS c m)
end Mi


set_option Elab.async false
set_option linter.all false
set_option maxRecDepth 100000
set_option maxHeartbeats 2000000
/-! Mi1: expressions. -/
namespace Mi
open PySem PySem.Spec PyProof.Rows L2

section
variable {W : Wo} {p : Addr} {F H : Hp}
theorem Rep.int_ {v : V} {i : Int} (h : Rep W p F v (.int i)) : v = .int i := by cases h; rfl
theorem Rep.bl_ {v : V} {i : Bool} (h : Rep W p F v (.bl i)) : v = .bl i := by cases h; rfl
theorem Rep.str_ {v : V} {i : Str} (h : Rep W p F v (.str i)) : v = .str i := by cases h; rfl
theorem Rep.non_ {v : V} (h : Rep W p F v .non) : v = .non := by cases h; rfl
theorem Rep.ty_ {v : V} {n : String} (h : Rep W p F v (.ty n)) : v = .ty n := by cases h; rfl
theorem Rep.tup_ {v : V} {ds : List D} (h : Rep W p F v (.tup ds)) : ∃ a vs, v = .ref a ∧ SqT W.K F a vs ∧ Reps W p F vs ds := by
  cases h with
  | tup h l r => exact ⟨_, _, rfl, h, l, r⟩
theorem Rep.lst_ {v : V} {ds : List D} (h : Rep W p F v (.lst ds)) : ∃ a vs, v = .ref a ∧ F a = some (.lst vs) ∧ Reps W p F vs ds := by
  cases h with
  | lst h l r => exact ⟨_, _, rfl, h, l, r⟩
theorem Rep.obj_ {v : V} {c : Str} {ks : List Str} {ds : List D} (h : Rep W p F v (.obj c ks ds)) : ∃ a dx vs, v = .ref a ∧ F a = some (.ins (W.cl c) dx (ks.zip vs)) ∧ ks.length = vs.length ∧ Reps W p F vs ds := by
  cases h with
  | obj hc h lk l r => exact ⟨_, _, _, rfl, h, lk, l, r⟩
theorem Rep.objc {v : V} {c : Str} {ks : List Str} {ds : List D} (h : Rep W p F v (.obj c ks ds)) : c ∈ W.cs := by
  cases h with
  | obj hc h lk l r => exact hc
theorem Rep.cls_ {v : V} {c : Str} (h : Rep W p F v (.cls c)) : v = .ref (W.cl c) ∧ c ∈ W.cs := by
  cases h with
  | cls _ hc => exact ⟨rfl, hc⟩
theorem Rep.scr_ {v : V} {ns : List Int} (h : Rep W p F v (.scr ns)) : ∃ a, v = .ref a ∧ SqL W.K F a (ns.map V.int) := by
  cases h with
  | scr h => exact ⟨_, rfl, h⟩
theorem Rep.mkT {a : Addr} {vs : List V} {ds : List D} (h : F a = some (.tup vs)) (r : Reps W p F vs ds) : Rep W p F (.ref a) (.tup ds) := .tup (SqT.of h) r.1 r.2
theorem Rep.mkL {a : Addr} {vs : List V} {ds : List D} (h : F a = some (.lst vs)) (r : Reps W p F vs ds) : Rep W p F (.ref a) (.lst ds) := .lst h r.1 r.2
end

/-! ### names, constants -/
def vSh (ρ : Env) (i : Nat) : Option D := match ρ[i]? with
  | some (.sh d) => some d
  | _ => none
def mVar (i : Nat) : ME := fun ρ => lft (vSh ρ i)
def mC (d : D) : ME := fun _ => M.pure d
section
variable {X : Cx} {c : Cf} {pos : Pos}
theorem lft_some {α : Type} {o : Option α} {u : PuS} {p : Addr} {F H : Hp} {Φ : α → PuS → Hp → Hp → Prop} (h : After p F H (lft o u) Φ) : ∃ a, o = some a ∧ After p F H (some (a, u)) Φ := by
  cases o with
  | none => exact absurd h (by intro z; exact z)
  | some a => exact ⟨a, rfl, h⟩
theorem Sta.var {u : PuS} {F H : Hp} {σ : L2.St} {ρ : Env} {i : Nat} {d : D} (S : Sta c u F H σ ρ) (e : vSh ρ i = some d) : ∃ v, σ[i]? = some (some v) ∧ Rep c.W c.p F v d := by
  unfold vSh at e
  cases q : ρ[i]? with
  | none => rw [q] at e; cases e
  | some s =>
    rw [q] at e
    cases s with
    | sh d' => cases e; exact S.env.at_ i _ q
    | _ => cases e
theorem dVar (i : Nat) {x : Str} (hN : X.N[i]? = some x := by rfl) (hv : Vis X.env.scope x := by first | exact Or.inl rfl | exact Or.inr (Or.inl rfl) | exact Or.inr (Or.inr rfl)) (hd : (x == ("__debug__" : Str)) = false := by decide)
    (hcd : (x == ("__classdict__" : Str)) = false := by decide) : DE X c (.Name x pos) (mVar i) :=
  (pe_var hN hv hd hcd).imp fun σ H Q ⟨F, u, ρ, S, h⟩ => by
    obtain ⟨d, e, h⟩ := lft_some h
    obtain ⟨v, e1, r⟩ := S.var e
    exact ⟨v, e1, After.now S.gd h v r⟩
theorem dC_of {e : Expr} {v : V} {d : D} (h : PE X e (tC v)) (r : ∀ F, Rep c.W c.p F v d) : DE X c e (mC d) := h.imp fun σ H Q ⟨F, u, ρ, S, q⟩ => After.now S.gd q v (r F)
theorem dInt {i : Int} {j} : DE X c (.Constant (.int i) j pos) (mC (.int i)) := dC_of pe_int fun _ => .int i
theorem dBl {b : Bool} {j} : DE X c (.Constant (.bool b) j pos) (mC (.bl b)) := dC_of pe_bl fun _ => .bl b
theorem dNon {j} : DE X c (.Constant .none j pos) (mC .non) := dC_of pe_non fun _ => .non
theorem dStr {x : Str} {j} : DE X c (.Constant (.str x) j pos) (mC (.str x)) := dC_of pe_str fun _ => .str x
/-- a module's constant -/
theorem dGI {x : Str} {i : Int} {t : Tok} (hg : Gl X x) (hm : X.mg x = some (.int i t)) (hd : (x == ("__debug__" : Str)) = false := by decide) : DE X c (.Name x pos) (mC (.int i)) := dC_of (pe_glob (v := .int i) hg hm ⟨t, rfl⟩ hd) fun _ => .int i
theorem dGS {x : Str} {i : Str} {t : Tok} (hg : Gl X x) (hm : X.mg x = some (.str i t)) (hd : (x == ("__debug__" : Str)) = false := by decide) : DE X c (.Name x pos) (mC (.str i)) := dC_of (pe_glob (v := .str i) hg hm ⟨t, rfl⟩ hd) fun _ => .str i
theorem dGC {x k : Str} (hc : k ∈ c.W.cs) (hg : Gl X x) (hm : X.mg x = some (.ref (c.W.cl k))) (hd : (x == ("__debug__" : Str)) = false := by decide) : DE X c (.Name x pos) (mC (.cls k)) := dC_of (pe_glob (v := .ref (c.W.cl k)) hg hm rfl hd) fun _ => .cls k hc
theorem dTy {x : Str} {n : String} (hg : Gl X x) (hm : X.mg x = none) (hv : bootBuiltins x = some (.type n)) (hn : x ≠ "__name__" := by decide) (hd : (x == ("__debug__" : Str)) = false := by decide) : DE X c (.Name x pos) (mC (.ty n)) :=
  dC_of (pe_bltn (v := .ty n) hg hm hv rfl hn hd) fun _ => .ty n
end

/-! ### operators -/
/-- a mirror of an operator on values -/
def OpM (W : Wo) (r : R2) (f : D → D → Option D) : Prop := ∀ (p : Addr) (F H : Hp) (u : PuS) (x y : V) (a b : D) (Q : VK), Gd p u F H → Rep W p F x a → Rep W p F y b →
  After p F H (lft (f a b) u) (fun d _ F' H' => ∀ v, Rep W p F' v d → Q v H') → r x y H Q
def CallM (W : Wo) (r : List V → Hp → VK → Prop) (f : List D → Option D) : Prop := ∀ (p : Addr) (F H : Hp) (u : PuS) (xs : List V) (as : List D) (Q : VK), Gd p u F H → Reps W p F xs as →
  After p F H (lft (f as) u) (fun d _ F' H' => ∀ v, Rep W p F' v d → Q v H') → r xs H Q
def mBin (f : D → D → Option D) (ma mb : ME) : ME := fun ρ => M.bind (ma ρ) fun x => M.bind (mb ρ) fun y => lft (f x y)
def mUn (f : D → Option D) (ma : ME) : ME := fun ρ => M.bind (ma ρ) fun x => lft (f x)
def mCB (f : List D → Option D) (ms : MA) : ME := fun ρ => M.bind (ms ρ) fun xs => lft (f xs)
def mNil : MA := fun _ => M.pure []
def mCons (m : ME) (ms : MA) : MA := fun ρ => M.bind (m ρ) fun x => M.bind (ms ρ) fun xs => M.pure (x :: xs)
section
variable {X : Cx} {c : Cf} {pos : Pos} {a b e : Expr} {es : List Expr} {ma mb m : ME} {ms : MA} {r : R2}
theorem rd2 {f : D → D → Option D} (hm : OpM c.W r f) : ∀ σ H Q, rdE c (mBin f ma mb) σ H Q → tOp r (rdE c ma) (rdE c mb) σ H Q := fun σ H Q ⟨F, u, ρ, S, h⟩ =>
  ⟨F, u, ρ, S, (After.split h).imp fun x u1 F1 H1 _ s1 g1 h1 v rv => ⟨F1, u1, ρ, S.step s1 g1, (After.split h1).imp fun y u2 F2 H2 _ s2 g2 h2 w rw => hm c.p F2 H2 u2 v w x y Q g2 (rv.mono s2.ef) rw h2⟩⟩
theorem dBin {op : Operator} {f : D → D → Option D} (ho : OpR X (binaryOp op) r) (hm : OpM c.W r f) (ha : DE X c a ma) (hb : DE X c b mb) : DE X c (.BinOp a op b pos) (mBin f ma mb) := (pe_op ho ha hb).imp (rd2 hm)
theorem dCmp {op : CmpOp} {f : D → D → Option D} (ho : OpR X (compareOp op) r) (hm : OpM c.W r f) (ha : DE X c a ma) (hb : DE X c b mb) (hk : behindInMarks op b = false) : DE X c (.Compare a [op] [b] pos) (mBin f ma mb) := (pe_cmpR ho ha hb hk).imp (rd2 hm)
theorem dIx {f : D → D → Option D} (ho : IxR X r) (hm : OpM c.W r f) (ha : DE X c a ma) (hb : DE X c b mb) (hs : PlainIx b := by exact fun _ _ => rfl) : DE X c (.Subscript a b pos) (mBin f ma mb) := (pe_ix ho ha hb hs).imp (rd2 hm)
theorem dNil : DA X c [] mNil := pa_nil.imp fun σ H Q ⟨F, u, ρ, S, h⟩ => After.now S.gd h [] Reps.nil
theorem dCons (ha : DE X c e m) (hr : DA X c es ms) (hs : starEach (e :: es) X.env = (false, eval e X.env) :: starEach es X.env := by rfl) : DA X c (e :: es) (mCons m ms) :=
  (pa_cons ha hr hs).imp fun σ H Q ⟨F, u, ρ, S, h⟩ => ⟨F, u, ρ, S, (After.split h).imp fun x u1 F1 H1 _ s1 g1 h1 v rv => ⟨F1, u1, ρ, S.step s1 g1, (After.split h1).imp fun xs u2 F2 H2 _ s2 g2 h2 vs rvs =>
    After.now g2 h2 (v :: vs) (Reps.cons (rv.mono s2.ef) rvs)⟩⟩
theorem rdCB {rc : List V → Hp → VK → Prop} {f : List D → Option D} (hm : CallM c.W rc f) : ∀ σ H Q, rdE c (mCB f ms) σ H Q → tCB rc (rdA c ms) σ H Q := fun σ H Q ⟨F, u, ρ, S, h⟩ =>
  ⟨F, u, ρ, S, (After.split h).imp fun xs u1 F1 H1 _ s1 g1 h1 vs rvs => hm c.p F1 H1 u1 vs xs Q g1 rvs h1⟩
theorem dCallB {rc : List V → Hp → VK → Prop} {f : List D → Option D} {id : String} {x : Str} {p : Pos} (hm : CallM c.W rc f) (hc : CallR X (.builtin id) rc) (hg : Gl X x) (hmg : X.mg x = none) (hv : bootBuiltins x = some (.builtin id)) (ha : DA X c (e :: es) ms)
    (hn : x ≠ "__name__" := by decide) (hdb : (x == ("__debug__" : Str)) = false := by decide)
    (he : starEach (e :: es) X.env = (false, eval e X.env) :: starEach es X.env := by rfl) (hpl : (backTo pos (starEach es X.env)).any (·.1) = false := by rfl) : DE X c (.Call (.Name x p) (e :: es) [] pos) (mCB f ms) :=
  (pe_callB hc hg hmg hv ha hn hdb he hpl).imp (rdCB hm)
theorem dCallT {rc : List V → Hp → VK → Prop} {f : List D → Option D} {id : String} {x : Str} {p : Pos} (hm : CallM c.W rc f) (hc : CallR X (.type id) rc) (hg : Gl X x) (hmg : X.mg x = none) (hv : bootBuiltins x = some (.type id)) (ha : DA X c (e :: es) ms)
    (hn : x ≠ "__name__" := by decide) (hdb : (x == ("__debug__" : Str)) = false := by decide)
    (he : starEach (e :: es) X.env = (false, eval e X.env) :: starEach es X.env := by rfl) (hpl : (backTo pos (starEach es X.env)).any (·.1) = false := by rfl) : DE X c (.Call (.Name x p) (e :: es) [] pos) (mCB f ms) :=
  (pe_callTy hc hg hmg hv ha hn hdb he hpl).imp (rdCB hm)
end

/-! ### displays -/
def mTup (ms : MA) : ME := fun ρ => M.bind (ms ρ) fun xs => lft (if xs.length ≤ 100000 then some (.tup xs) else none)
def mLstO (ms : MA) : MA := fun ρ => M.bind (ms ρ) fun xs => lft (if xs.length ≤ 100000 then some xs else none)
theorem sz5 {n : Nat} (h : n ≤ 100000) : n ≤ sizeLine := Nat.le_trans h (by decide)
theorem sz5l {n : Nat} (h : n ≤ 100000) : n < sizeLine := Nat.lt_of_le_of_lt h (by decide)
theorem lft_if {α : Type} {b : Prop} [Decidable b] {a : α} {u : PuS} {p : Addr} {F H : Hp} {Φ : α → PuS → Hp → Hp → Prop} (h : After p F H (lft (if b then some a else none) u) Φ) : b ∧ After p F H (some (a, u)) Φ := by
  obtain ⟨a', e, h⟩ := lft_some h
  by_cases hb : b
  · rw [if_pos hb] at e; cases e; exact ⟨hb, h⟩
  · rw [if_neg hb] at e; cases e
section
variable {X : Cx} {c : Cf} {pos : Pos} {es : List Expr} {ms : MA}
theorem dTup {x1} (h : DA X c es ms) : DE X c (.Tuple es x1 pos) (mTup ms) :=
  (pe_tup h).imp fun σ H Q ⟨F, u, ρ, S, h⟩ => ⟨F, u, ρ, S, (After.split h).imp fun xs u1 F1 H1 _ s1 g1 h1 vs rvs => by
    obtain ⟨hl, h2⟩ := lft_if h1
    refine ⟨sz5 (by rw [rvs.1]; exact hl), fun q hq => ?_⟩
    exact h2 _ _ (Stp.new g1 hq) (g1.new hq) _ (Rep.mkT upd_same (rvs.mono (Stp.new g1 hq).ef))⟩
theorem Stp.back {p q : Addr} {F H F' H' : Hp} (s : Stp p F H F' H') (hp : H' p ≠ none) (h : H' q = none) : H q = none := by
  cases e : H q with
  | none => rfl
  | some o =>
    by_cases hq : q = p
    · subst hq; exact absurd h hp
    · rw [s.eh q o hq e] at h; cases h
theorem dLstO (h : DA X c es ms) : DL X c (.List es pos) (mLstO ms) :=
  (pe_lst h).imp fun σ H Q ⟨F, u, ρ, S, h⟩ => ⟨F, u, ρ, S, (After.split h).imp fun xs u1 F1 H1 _ s1 g1 h1 vs rvs => by
    obtain ⟨hl, h2⟩ := lft_if h1
    refine ⟨sz5 (by rw [rvs.1]; exact hl), fun q hq => ?_⟩
    exact h2 _ _ (Stp.own hq) (g1.own hq) q vs (g1.fresh hq) (s1.back g1.ne hq) upd_same rvs⟩
end

/-! ### tests -/
def mB (m : ME) : MT := fun ρ => M.bind (m ρ) fun d => match d with
  | .bl b => M.pure b
  | _ => lft none
def mAnd (t v : MT) : MT := fun ρ => M.bind (t ρ) fun b => if b = true then v ρ else M.pure false
def mOr (t v : MT) : MT := fun ρ => M.bind (t ρ) fun b => if b = true then M.pure true else v ρ
def mNot (t : MT) : MT := fun ρ => M.bind (t ρ) fun b => M.pure (!b)
def mIf (t : MT) (ma mb : ME) : ME := fun ρ => M.bind (t ρ) fun b => if b = true then ma ρ else mb ρ
def mAndV (ma mb : ME) : ME := fun ρ => M.bind (ma ρ) fun d => match d with
  | .bl b => if b = true then mb ρ else M.pure (.bl false)
  | _ => lft none
def mNotV (ma : ME) : ME := fun ρ => M.bind (ma ρ) fun d => match d with
  | .bl b => M.pure (.bl (!b))
  | _ => lft none
section
variable {X : Cx} {c : Cf} {pos : Pos} {a b e : Expr} {rest : List Expr} {ma mb m : ME} {t v : MT} {r : R2}
theorem rdB : ∀ σ H Q, rdT c (mB m) σ H Q → tB (rdE c m) σ H Q := fun σ H Q ⟨F, u, ρ, S, h⟩ =>
  ⟨F, u, ρ, S, (After.split h).imp fun d u1 F1 H1 _ s1 g1 h1 w rw => by
    cases d with
    | bl k =>
      have h2 : After c.p F1 H1 (some (k, u1)) (fun b _ _ H' => Q b H') := h1
      exact ⟨k, rw.bl_, After.now g1 h2⟩
    | _ => exact False.elim h1⟩
theorem dTst (h : DE X c e m) (he : ∀ whole, isTrue e X.env whole = (do let v ← whole; standAt e.pos; holding [v] (truthy v)) := by intro _; rfl) : DT X c e (mB m) := (pt_val h he).imp rdB
theorem dTcmp {op : CmpOp} {f : D → D → Option D} (ho : OpR X (compareOp op) r) (hm : OpM c.W r f) (ha : DE X c a ma) (hb : DE X c b mb) (hk : behindInMarks op b = false) : DT X c (.Compare a [op] [b] pos) (mB (mBin f ma mb)) :=
  (pt_cmpR ho ha hb hk).imp fun σ H Q h => by
    obtain ⟨F, u, ρ, S, h⟩ := h
    refine rd2 hm σ H _ ⟨F, u, ρ, S, (After.split h).imp fun d u1 F1 H1 _ s1 g1 h1 w rw => ?_⟩
    cases d with
    | bl k =>
      have h2 : After c.p F1 H1 (some (k, u1)) (fun b _ _ H' => Q b H') := h1
      exact ⟨k, rw.bl_, After.now g1 h2⟩
    | _ => exact False.elim h1
theorem dNotT (h : DT X c e t) : DT X c (.UnaryOp .Not e pos) (mNot t) :=
  (pt_not h).imp fun σ H Q ⟨F, u, ρ, S, h⟩ => ⟨F, u, ρ, S, (After.split h).imp fun b u1 F1 H1 _ s1 g1 h1 => After.now g1 h1⟩
theorem dAnd1 (h : DT X c e t) : PW X (.BoolOp .And [e] pos) (rdT c t) := pw_and1 h
theorem dOr1 (h : DT X c e t) : PW X (.BoolOp .Or [e] pos) (rdT c t) := pw_or1 h
theorem dAndT (h : DT X c a t) (hb : PW X (.BoolOp .And (b :: rest) pos) (rdT c v)) : PW X (.BoolOp .And (a :: b :: rest) pos) (rdT c (mAnd t v)) :=
  (pw_and h hb).imp fun σ H Q ⟨F, u, ρ, S, h⟩ => ⟨F, u, ρ, S, (After.split h).imp fun b u1 F1 H1 _ s1 g1 h1 => by
    cases b with
    | true => exact ⟨F1, u1, ρ, S.step s1 g1, h1⟩
    | false =>
      have h2 : After c.p F1 H1 (some (false, u1)) (fun b _ _ H' => Q b H') := h1
      exact After.now g1 h2⟩
theorem dOrT (h : DT X c a t) (hb : PW X (.BoolOp .Or (b :: rest) pos) (rdT c v)) : PW X (.BoolOp .Or (a :: b :: rest) pos) (rdT c (mOr t v)) :=
  (pw_or h hb).imp fun σ H Q ⟨F, u, ρ, S, h⟩ => ⟨F, u, ρ, S, (After.split h).imp fun b u1 F1 H1 _ s1 g1 h1 => by
    cases b with
    | false => exact ⟨F1, u1, ρ, S.step s1 g1, h1⟩
    | true =>
      have h2 : After c.p F1 H1 (some (true, u1)) (fun b _ _ H' => Q b H') := h1
      exact After.now g1 h2⟩
theorem dIf {k : Expr} (hk : DT X c k t) (ha : DE X c a ma) (hb : DE X c b mb) : DE X c (.IfExp k a b pos) (mIf t ma mb) :=
  (pe_ifExp hk ha hb).imp fun σ H Q ⟨F, u, ρ, S, h⟩ => ⟨F, u, ρ, S, (After.split h).imp fun b u1 F1 H1 _ s1 g1 h1 => by
    cases b with
    | true => exact ⟨F1, u1, ρ, S.step s1 g1, h1⟩
    | false => exact ⟨F1, u1, ρ, S.step s1 g1, h1⟩⟩
theorem dOneV {op} (h : DE X c e m) : DE X c (.BoolOp op [e] pos) m := pe_one h
theorem dAndV (ha : DE X c a ma) (hb : DE X c (.BoolOp .And (b :: rest) pos) mb) : DE X c (.BoolOp .And (a :: b :: rest) pos) (mAndV ma mb) :=
  (pe_and ha hb).imp fun σ H Q ⟨F, u, ρ, S, h⟩ => ⟨F, u, ρ, S, (After.split h).imp fun d u1 F1 H1 _ s1 g1 h1 w rw => by
    cases d with
    | bl k =>
      refine ⟨k, rw.bl_, ?_⟩
      cases k with
      | true => exact ⟨F1, u1, ρ, S.step s1 g1, h1⟩
      | false =>
        have h2 : After c.p F1 H1 (some (D.bl false, u1)) (fun d _ F' H' => ∀ v, Rep c.W c.p F' v d → Q v H') := h1
        exact After.now g1 h2 _ (.bl false)
    | _ => exact False.elim h1⟩
theorem dNotV (ha : DE X c a ma) : DE X c (.UnaryOp .Not a pos) (mNotV ma) :=
  (pe_not ha).imp fun σ H Q ⟨F, u, ρ, S, h⟩ => ⟨F, u, ρ, S, (After.split h).imp fun d u1 F1 H1 _ s1 g1 h1 w rw => by
    cases d with
    | bl k =>
      have h2 : After c.p F1 H1 (some (D.bl (!k), u1)) (fun d _ F' H' => ∀ v, Rep c.W c.p F' v d → Q v H') := h1
      exact ⟨k, rw.bl_, After.now g1 h2 _ (.bl (!k))⟩
    | _ => exact False.elim h1⟩
end
end Mi


set_option Elab.async false
set_option linter.all false
set_option maxRecDepth 100000
set_option maxHeartbeats 2000000
/-! Mi2: statements, loops, comprehensions. -/
namespace Mi
open PySem PySem.Spec PyProof.Rows L2

/-! ### slots are set -/
section
variable {c : Cf} {u : PuS} {F H : Hp} {σ : L2.St} {ρ : Env}
theorem set_get {α : Type} {l : List α} {i j : Nat} {a b : α} (h : (l.set i a)[j]? = some b) : (i = j ∧ b = a ∧ i < l.length) ∨ (i ≠ j ∧ l[j]? = some b) := by
  by_cases e : i = j
  · subst e
    rw [List.getElem?_set] at h
    simp only [if_true] at h
    split at h
    · rename_i hl
      cases h
      exact .inl ⟨rfl, rfl, hl⟩
    · cases h
  · rw [List.getElem?_set_ne e] at h
    exact .inr ⟨e, h⟩
theorem Sta.set {i : Nat} {v : V} {d : D} (S : Sta c u F H σ ρ) (r : Rep c.W c.p F v d) : Sta c u F H (σ.set i (some v)) (ρ.set i (.sh d)) := by
  refine ⟨S.ent, S.gd, by simpa using S.env.len, fun j s e => ?_, fun j k s t h e1 e2 o1 o2 => ?_⟩
  · rcases set_get e with ⟨rfl, rfl, hl⟩ | ⟨ne, e⟩
    · exact ⟨v, List.getElem?_set_self (by rw [S.env.len]; exact hl), r⟩
    · rw [List.getElem?_set_ne ne]; exact S.env.at_ j s e
  · rcases set_get e1 with ⟨rfl, rfl, _⟩ | ⟨n1, e1⟩
    · cases o1
    · rcases set_get e2 with ⟨rfl, rfl, _⟩ | ⟨n2, e2⟩
      · cases o2
      · rw [List.getElem?_set_ne n1, List.getElem?_set_ne n2]; exact S.env.ne j k s t h e1 e2 o1 o2
theorem SdOk.ref {x : Option (Option V)} {s : Sd} (h : SdOk c F H x s) (o : s.own = true) : ∃ q, x = some (some (.ref q)) ∧ H q ≠ none ∧ F q = none := by
  cases s with
  | un => cases o
  | sh d => cases o
  | ow ds => obtain ⟨q, vs, e, hq, hf, _⟩ := h; exact ⟨q, e, by rw [hq]; simp, hf⟩
  | oi k ks ds => obtain ⟨dx, vs, e, hq, hf, _⟩ := h; exact ⟨_, e, by rw [hq]; simp, hf⟩
/-- a fresh list at q is owned by the slot i -/
theorem Sta.setO {H1 : Hp} {i : Nat} {q : Addr} {vs : List V} {ds : List D} {u1 : PuS} {F1 : Hp} (S : Sta c u F H σ ρ) (s : Stp c.p F H F1 H1) (g : Gd c.p u1 F1 H1) (hF : F1 q = none) (hn : H q = none) (h1 : H1 q = some (.lst vs)) (r : Reps c.W c.p F1 vs ds) :
    Sta c u1 F1 H1 (σ.set i (some (.ref q))) (ρ.set i (.ow ds)) := by
  have S1 := S.step s g
  have hp : q ≠ c.p := fun e => S.gd.ne (e ▸ hn)
  have h0 : c.H0 q = none := S.ent.back S.gd.ne hn
  have nq : ∀ {j : Nat} {t : Sd}, ρ[j]? = some t → t.own = true → σ[j]? ≠ some (some (.ref q)) := fun {j t} e o z => by
    obtain ⟨q', e', hq', _⟩ := (S.env.at_ j t e).ref o
    rw [z] at e'
    injection e' with e'
    injection e' with e'
    injection e' with e'
    subst e'
    exact hq' hn
  refine ⟨S1.ent, S1.gd, by simpa using S.env.len, fun j t e => ?_, fun j k t t' h e1 e2 o1 o2 => ?_⟩
  · rcases set_get e with ⟨rfl, rfl, hl⟩ | ⟨ne, e⟩
    · exact ⟨q, vs, List.getElem?_set_self (by rw [S.env.len]; exact hl), h1, hF, hp, h0, r⟩
    · rw [List.getElem?_set_ne ne]; exact S1.env.at_ j t e
  · rcases set_get e1 with ⟨rfl, rfl, hl⟩ | ⟨n1, e1⟩
    · rcases set_get e2 with ⟨e, _, _⟩ | ⟨n2, e2⟩
      · exact absurd e h
      · rw [List.getElem?_set_self (by rw [S.env.len]; exact hl), List.getElem?_set_ne n2]; exact fun z => nq e2 o2 z.symm
    · rcases set_get e2 with ⟨rfl, rfl, hl⟩ | ⟨n2, e2⟩
      · rw [List.getElem?_set_self (by rw [S.env.len]; exact hl), List.getElem?_set_ne n1]; exact nq e1 o1
      · rw [List.getElem?_set_ne n1, List.getElem?_set_ne n2]; exact S.env.ne j k t t' h e1 e2 o1 o2
/-- the owned list of the slot i is changed -/
theorem Sta.put {i : Nat} {q : Addr} {vs : List V} {ds es : List D} (S : Sta c u F H σ ρ) (e : ρ[i]? = some (.ow ds)) (hq : σ[i]? = some (some (.ref q))) (r : Reps c.W c.p F vs es) :
    Sta c u F (upd H q (.lst vs)) σ (ρ.set i (.ow es)) := by
  obtain ⟨q', ws, e1, h1, hf, hp, h0, _⟩ := S.env.at_ i _ e
  rw [hq] at e1
  injection e1 with e1; injection e1 with e1; injection e1 with e1
  subst e1
  have qs : ∀ {j : Nat} {t : Sd} {a : Addr}, i ≠ j → ρ[j]? = some t → t.own = true → σ[j]? = some (some (.ref a)) → a ≠ q := fun {j t a} ne e2 o z h => by
    subst h
    exact S.env.ne i j _ t ne e e2 rfl o (hq.trans z.symm)
  refine ⟨⟨S.ent.ef, fun a o ha e => ?_, S.ent.nw⟩, ⟨fun a o e => ?_, by rw [upd_ne (Ne.symm hp)]; exact S.gd.pu, S.gd.off⟩, by simpa using S.env.len, fun j t e2 => ?_, fun j k t t' h e1 e2 o1 o2 => ?_⟩
  · rw [upd_ne (fun z => by rw [z, h0] at e; cases e)]; exact S.ent.eh a o ha e
  · rw [upd_ne (fun z => by rw [z, hf] at e; cases e)]; exact S.gd.ex a o e
  · rcases set_get e2 with ⟨rfl, rfl, hl⟩ | ⟨ne, e2⟩
    · exact ⟨q, vs, hq, upd_same, hf, hp, h0, r⟩
    · have k := S.env.at_ j t e2
      cases t with
      | un => trivial
      | sh d => exact k
      | ow ds' => obtain ⟨a, xs, z, ha, rest⟩ := k; exact ⟨a, xs, z, by rw [upd_ne (qs ne e2 rfl z)]; exact ha, rest⟩
      | oi kk ks ds' => obtain ⟨dx, xs, z, ha, rest⟩ := k; exact ⟨dx, xs, z, by rw [upd_ne (qs ne e2 rfl z)]; exact ha, rest⟩
  · have back : ∀ {m : Nat} {y : Sd}, (ρ.set i (.ow es))[m]? = some y → y.own = true → ∃ y', ρ[m]? = some y' ∧ y'.own = true := fun {m y} z o => by
      rcases set_get z with ⟨rfl, rfl, _⟩ | ⟨_, z⟩
      · exact ⟨_, e, rfl⟩
      · exact ⟨y, z, o⟩
    obtain ⟨y1, z1, p1⟩ := back e1 o1
    obtain ⟨y2, z2, p2⟩ := back e2 o2
    exact S.env.ne j k y1 y2 h z1 z2 p1 p2
end

/-! ### blocks and small statements -/
def mNext : MS := fun ρ => M.pure (.nx ρ)
def mSeq (m n : MS) : MS := fun ρ => M.bind (m ρ) fun f => match f with
  | .nx ρ' => n ρ'
  | .rt d => M.pure (.rt d)
  | .rl d => M.pure (.rl d)
  | .bk ρ' => M.pure (.bk ρ')
  | .ct ρ' => M.pure (.ct ρ')
def mRet (m : ME) : MS := fun ρ => M.bind (m ρ) fun d => M.pure (.rt d)
def mIfS (t : MT) (m n : MS) : MS := fun ρ => M.bind (t ρ) fun b => if b = true then m ρ else n ρ
def mSet (i : Nat) (m : ME) : MS := fun ρ => M.bind (m ρ) fun d => M.pure (.nx (ρ.set i (.sh d)))
def mSetO (i : Nat) (m : MA) : MS := fun ρ => M.bind (m ρ) fun ds => M.pure (.nx (ρ.set i (.ow ds)))
def mStuck : MS := fun _ => lft none
section
variable {X : Cx} {c : Cf} {pos : Pos} {st : Stmt} {rest : List Stmt} {e : Expr} {m n : MS} {me : ME} {ml : MA} {t : MT}
theorem flowO.split {F : Hp} {Dn : Ends} {u : PuS} {ρ : Env} (h : flowO c F Dn (mSeq m n ρ u)) : flowO c F { Dn with nx := rdS c n Dn } (m ρ u) := by
  unfold mSeq M.bind at h
  cases e : m ρ u with
  | none => rw [e] at h; exact h
  | some x =>
    obtain ⟨f, u1⟩ := x
    rw [e] at h
    cases f with
    | nx ρ1 =>
      intro σ' F' H' sm S'
      have h2 : flowO c F Dn (n ρ1 u1) := h
      refine ⟨F', u1, ρ1, S', ?_⟩
      cases e2 : n ρ1 u1 with
      | none => rw [e2] at h2; exact h2
      | some y =>
        obtain ⟨f2, u2⟩ := y
        rw [e2] at h2
        cases f2 with
        | nx ρ2 => exact fun σ2 F2 H2 s2 => h2 σ2 F2 H2 (sm.trans s2)
        | bk ρ2 => exact fun σ2 F2 H2 s2 => h2 σ2 F2 H2 (sm.trans s2)
        | ct ρ2 => exact fun σ2 F2 H2 s2 => h2 σ2 F2 H2 (sm.trans s2)
        | rt d => exact h2
        | rl d => exact h2
    | rt d => exact h
    | rl d => exact h
    | bk ρ1 => exact h
    | ct ρ1 => exact h
theorem dBnil : DB X c [] mNext := pss_nil.imp fun Dn σ H ⟨F, u, ρ, S, h⟩ => h σ F H (Same.refl F) S
theorem dBcons (h1 : DS X c st m) (h2 : DB X c rest n) : DB X c (st :: rest) (mSeq m n) := (pss_cons h1 h2).imp fun Dn σ H ⟨F, u, ρ, S, h⟩ => ⟨F, u, ρ, S, h.split⟩
theorem dBone (h1 : DS X c st m) : DB X c [st] m := pss_one h1
theorem dNever : DS X c st mStuck := ps_never.imp fun Dn σ H ⟨F, u, ρ, S, h⟩ => h
/-- an expression's end, from a statement's -/
theorem flowO.after {α : Type} {F H : Hp} {Dn : Ends} {u : PuS} {ρ : Env} {σ : L2.St} {k : M α} {f : α → M Fl} (S : Sta c u F H σ ρ) (h : flowO c F Dn (M.bind k f u)) :
    After c.p F H (k u) fun a u1 F1 H1 => Sta c u1 F1 H1 σ ρ ∧ flowO c F1 Dn (f a u1) := by
  unfold M.bind at h
  cases e : k u with
  | none => rw [e] at h; exact h
  | some x =>
    obtain ⟨a, u1⟩ := x
    rw [e] at h
    intro F1 H1 s g
    refine ⟨S.step s g, ?_⟩
    have h2 : flowO c F Dn (f a u1) := h
    cases e2 : f a u1 with
    | none => rw [e2] at h2; exact h2
    | some y =>
      obtain ⟨f2, u2⟩ := y
      rw [e2] at h2
      cases f2 with
      | nx ρ2 => exact fun σ2 F2 H2 s2 => h2 σ2 F2 H2 (s.ef.trans s2)
      | bk ρ2 => exact fun σ2 F2 H2 s2 => h2 σ2 F2 H2 (s.ef.trans s2)
      | ct ρ2 => exact fun σ2 F2 H2 s2 => h2 σ2 F2 H2 (s.ef.trans s2)
      | rt d => exact h2
      | rl d => exact h2
theorem dRet (he : DE X c e me) : DS X c (.Return (some e) pos) (mRet me) :=
  (ps_ret he).imp fun Dn σ H ⟨F, u, ρ, S, h⟩ => ⟨F, u, ρ, S, (flowO.after S h).imp fun d u1 F1 H1 _ s1 g1 h1 v rv => h1.2 v F1 H1 h1.1.ent g1 rv⟩
theorem dIfS {k : Expr} {a b : List Stmt} (hk : DT X c k t) (ha : DB X c a m) (hb : DB X c b n) : DS X c (.If k a b pos) (mIfS t m n) :=
  (ps_if hk ha hb).imp fun Dn σ H ⟨F, u, ρ, S, h⟩ => ⟨F, u, ρ, S, (flowO.after S h).imp fun b u1 F1 H1 _ s1 g1 h1 => by
    cases b with
    | true => exact ⟨F1, u1, ρ, h1.1, h1.2⟩
    | false => exact ⟨F1, u1, ρ, h1.1, h1.2⟩⟩
theorem dSet {i : Nat} {x : Str} {pos' : Pos} (hN : X.N.Nodup) (hi : X.N[i]? = some x) (hx : Loc X.env.scope x) (he : DE X c e me) (hs : swapsWith e (some (.Name x pos')) pos.line X.env = pure false := by rfl)
    (hf : X.fn x = true ∨ X.env.scope.names.lookup x = some .local := by first | exact .inl rfl | exact .inr rfl | assumption) : DS X c (.Assign [.Name x pos'] e pos) (mSet i me) :=
  (ps_set hN hi hx he hs hf).imp fun Dn σ H ⟨F, u, ρ, S, h⟩ => ⟨F, u, ρ, S, (flowO.after S h).imp fun d u1 F1 H1 _ s1 g1 h1 v rv => h1.2 _ F1 H1 (Same.refl _) (h1.1.set rv)⟩
theorem dSetO {i : Nat} {x : Str} {pos' : Pos} (hN : X.N.Nodup) (hi : X.N[i]? = some x) (hx : Loc X.env.scope x) (he : DL X c e ml) (hs : swapsWith e (some (.Name x pos')) pos.line X.env = pure false := by rfl)
    (hf : X.fn x = true ∨ X.env.scope.names.lookup x = some .local := by first | exact .inl rfl | exact .inr rfl | assumption) : DS X c (.Assign [.Name x pos'] e pos) (mSetO i ml) :=
  (ps_set hN hi hx he hs hf).imp fun Dn σ H ⟨F, u, ρ, S, h⟩ => ⟨F, u, ρ, S, (flowO.after S h).imp fun d u1 F1 H1 _ s1 g1 h1 q vs hF hn h3 r => h1.2 _ F1 H1 (Same.refl _) (S.setO s1 g1 hF hn h3 r)⟩
end

/-! ### targets -/
def mGn (i : Nat) : MG := fun d ρ => some (ρ.set i (.sh d))
def mGnil : List D → Env → Option Env := fun ds ρ => match ds with
  | [] => some ρ
  | _ => none
def mGcons (g : MG) (gs : List D → Env → Option Env) : List D → Env → Option Env := fun ds ρ => match ds with
  | d :: r => (g d ρ).bind fun ρ' => gs r ρ'
  | [] => none
def mGt (n : Nat) (gs : List D → Env → Option Env) : MG := fun d ρ => match d with
  | .tup ds => if ds.length = n then gs ds ρ else none
  | _ => none
def mAsg (m : ME) (g : MG) : MS := fun ρ => M.bind (m ρ) fun d => lft ((g d ρ).map Fl.nx)
abbrev DG (X : Cx) (c : Cf) (e : Expr) (is : List Nat) (g : MG) : Prop := PG X e (rdG c is g)
abbrev DGs (X : Cx) (c : Cf) (e : List Expr) (is : List Nat) (g : List D → Env → Option Env) : Prop := PGs X e (rdGs c is g)
section
variable {X : Cx} {c : Cf} {pos : Pos} {e : Expr} {es : List Expr} {g : MG} {gs : List D → Env → Option Env} {is js : List Nat}
theorem Agr.refl {σ : L2.St} : Agr is σ σ := ⟨rfl, fun _ _ => rfl⟩
theorem Agr.trans {σ σ1 σ2 : L2.St} (a : Agr is σ σ1) (b : Agr js σ1 σ2) : Agr (is ++ js) σ σ2 :=
  ⟨b.1.trans a.1, fun j hj => (b.2 j fun z => hj (List.mem_append_right _ z)).trans (a.2 j fun z => hj (List.mem_append_left _ z))⟩
theorem Agr.set {σ : L2.St} {i : Nat} {x : Option V} : Agr [i] σ (σ.set i x) := ⟨by simp, fun j hj => List.getElem?_set_ne (fun z => hj (by simp [z]))⟩
theorem dGn {i : Nat} {x : Str} (hN : X.N.Nodup) (hi : X.N[i]? = some x) (hx : Loc X.env.scope x) (hf : X.fn x = true ∨ X.env.scope.names.lookup x = some .local := by first | exact .inl rfl | exact .inr rfl | assumption) : DG X c (.Name x pos) [i] (mGn i) :=
  (pg_name hN hi hx hf).imp fun v σ H Q ⟨F, u, ρ, d, S, r, h⟩ => h _ (S.set r) Agr.set
theorem dGnil : DGs X c [] [] mGnil := pgs_nil.imp fun vs σ H Q ⟨F, u, ρ, ds, S, r, h⟩ => by
  cases ds with
  | nil => exact ⟨r.none, h σ S Agr.refl⟩
  | cons d ds => exact False.elim h
theorem dGcons (h1 : DG X c e is g) (h2 : DGs X c es js gs) (hs : (assignEach (e :: es) X.env).map (·.2) = assign e X.env :: (assignEach es X.env).map (·.2) := by rfl) : DGs X c (e :: es) (is ++ js) (mGcons g gs) :=
  (pgs_cons h1 h2 hs).imp fun vs σ H Q ⟨F, u, ρ, ds, S, r, h⟩ => by
    cases ds with
    | nil => exact False.elim h
    | cons d ds =>
      obtain ⟨v, vr, rfl, r1, r2⟩ := r.uncons
      refine ⟨v, vr, rfl, F, u, ρ, d, S, r1, ?_⟩
      have h' : match (g d ρ).bind fun ρ' => gs ds ρ' with
        | some ρ' => ∀ σ', Sta c u F H σ' ρ' → Agr (is ++ js) σ σ' → Q σ' H
        | none => False := h
      cases e1 : g d ρ with
      | none => rw [e1] at h'; exact h'
      | some ρ1 =>
        rw [e1] at h'
        intro σ1 S1 a1
        refine ⟨F, u, ρ1, ds, S1, r2, ?_⟩
        have h3 : match gs ds ρ1 with
          | some ρ' => ∀ σ', Sta c u F H σ' ρ' → Agr (is ++ js) σ σ' → Q σ' H
          | none => False := h'
        cases e2 : gs ds ρ1 with
        | none => rw [e2] at h3; exact h3
        | some ρ2 =>
          rw [e2] at h3
          exact fun σ2 S2 a2 => h3 σ2 S2 (a1.trans a2)
theorem dGt {k n : Nat} (hc : X.calm = true) (h : DGs X c es is gs) (hn : (assignEach es X.env).length = n := by rfl) (hst : (assignEach es X.env).findIdx? (·.1) = none := by rfl) (hK : X.K = c.W.K := by rfl) : DG X c (.Tuple es k pos) is (mGt n gs) :=
  (pg_tup hc h hn hst).imp fun v σ H Q ⟨F, u, ρ, d, S, r, h⟩ => by
    cases d with
    | tup ds =>
      obtain ⟨a, vs, rfl, ht, rs⟩ := r.tup_
      have h' : match (if ds.length = n then gs ds ρ else none) with
        | some ρ' => ∀ σ', Sta c u F H σ' ρ' → Agr is σ σ' → Q σ' H
        | none => False := h
      by_cases hl : ds.length = n
      · rw [if_pos hl] at h'
        exact ⟨a, vs, rfl, by rw [hK]; exact sq_t S.gd.ex ht, rs.1.trans hl, F, u, ρ, ds, S, rs, h'⟩
      · rw [if_neg hl] at h'; exact False.elim h'
    | _ => exact False.elim h
theorem dAsg {tg : Expr} {me : ME} (he : DE X c e me) (hg : DG X c tg is g) (hs : swapsWithSole [tg] e pos.line X.env = pure false := by rfl) (hw : swappedStores [tg] e X.env = pure none := by rfl)
    (h1 : (assignEach [tg] X.env).map (·.2) = [assign tg X.env] := by rfl) : DS X c (.Assign [tg] e pos) (mAsg me g) :=
  (ps_asg he hg hs hw h1).imp fun Dn σ H ⟨F, u, ρ, S, h⟩ => ⟨F, u, ρ, S, (flowO.after S h).imp fun d u1 F1 H1 _ s1 g1 h1 v rv => by
    refine ⟨F1, u1, ρ, d, h1.1, rv, ?_⟩
    have h2 := h1.2
    cases e1 : g d ρ with
    | none => rw [e1] at h2; exact h2
    | some ρ1 =>
      rw [e1] at h2
      exact fun σ' S' _ => h2 σ' F1 H1 (Same.refl _) S'⟩
end

/-! ### augmented assignment to a name -/
def IpM (W : Wo) (r : TIp) (f : D → D → Option D) : Prop := OpM W r f
def mAug (i : Nat) (f : D → D → Option D) (m : ME) : MS := fun ρ => M.bind (lft (vSh ρ i)) fun x => M.bind (m ρ) fun y => M.bind (lft (f x y)) fun z => M.pure (.nx (ρ.set i (.sh z)))
section
variable {X : Cx} {c : Cf} {pos : Pos} {e : Expr} {me : ME}
theorem flowO.lft {α : Type} {F H : Hp} {Dn : Ends} {u : PuS} {ρ : Env} {σ : L2.St} {o : Option α} {f : α → M Fl} (S : Sta c u F H σ ρ) (h : flowO c F Dn (M.bind (Mi.lft o) f u)) : ∃ a, o = some a ∧ flowO c F Dn (f a u) := by
  cases o with
  | none => exact False.elim h
  | some a => exact ⟨a, rfl, h⟩
theorem dAug {i : Nat} {x : Str} {op : Operator} {ti : TIp} {f : D → D → Option D} {pos' : Pos} (hm : IpM c.W ti f) (ho : PIp X op ti) (hN : X.N.Nodup) (hi : X.N[i]? = some x) (hx : Loc X.env.scope x) (he : DE X c e me)
    (hf : X.fn x = true ∨ X.env.scope.names.lookup x = some .local := by first | exact .inl rfl | exact .inr rfl | assumption) : DS X c (.AugAssign (.Name x pos') op e pos) (mAug i f me) :=
  (ps_aug hN hi hx he ho hf).imp fun Dn σ H ⟨F, u, ρ, S, h⟩ => by
    obtain ⟨x0, e0, h⟩ := flowO.lft S h
    obtain ⟨v0, e1, r0⟩ := S.var e0
    refine ⟨v0, e1, F, u, ρ, S, (flowO.after S h).imp fun y u1 F1 H1 _ s1 g1 h1 w rw => ?_⟩
    refine hm c.p F1 H1 u1 v0 w x0 y _ g1 (r0.mono s1.ef) rw ((flowO.after h1.1 h1.2).imp fun z u2 F2 H2 _ s2 g2 h2 v rv => ?_)
    exact h2.2 _ F2 H2 (Same.refl _) (h2.1.set rv)
end

/-! ### loops -/
def loopD (g : MG) (mb : MS) : List D → Env → M Fl
  | [], ρ => M.pure (.nx ρ)
  | d :: ds, ρ => M.bind (lft (g d ρ)) fun ρ1 => M.bind (mb ρ1) fun f => match f with
    | .nx ρ2 => loopD g mb ds ρ2
    | .ct ρ2 => loopD g mb ds ρ2
    | .bk ρ2 => M.pure (.nx ρ2)
    | .rt d => M.pure (.rt d)
    | .rl d => M.pure (.rl d)
def mFor (mi : MA) (g : MG) (mb : MS) : MS := fun ρ => M.bind (mi ρ) fun ds => loopD g mb ds ρ
def loopW (t : MT) (mb : MS) : Nat → Env → M Fl
  | 0, _ => lft none
  | n + 1, ρ => M.bind (t ρ) fun b => if b = true then M.bind (mb ρ) fun f => match f with
    | .nx ρ2 => loopW t mb n ρ2
    | .ct ρ2 => loopW t mb n ρ2
    | .bk ρ2 => M.pure (.nx ρ2)
    | .rt d => M.pure (.rt d)
    | .rl d => M.pure (.rl d)
    else M.pure (.nx ρ)
def mWhile (n : Nat) (t : MT) (mb : MS) : MS := fun ρ => loopW t mb n ρ
abbrev DI (X : Cx) (c : Cf) (tg e : Expr) (m : MA) : Prop := PI X tg e (rdI c m)
section
variable {X : Cx} {c : Cf} {pos : Pos} {tg iter : Expr} {body : List Stmt} {mi : MA} {g : MG} {mb : MS} {is : List Nat}
theorem flowO.mono {F F' : Hp} {Dn : Ends} {r : Option (Fl × PuS)} (e : Same F F') (h : flowO c F Dn r) : flowO c F' Dn r := by
  cases r with
  | none => exact h
  | some x =>
    obtain ⟨f, u⟩ := x
    cases f with
    | nx ρ2 => exact fun σ2 F2 H2 s2 => h σ2 F2 H2 (e.trans s2)
    | bk ρ2 => exact fun σ2 F2 H2 s2 => h σ2 F2 H2 (e.trans s2)
    | ct ρ2 => exact fun σ2 F2 H2 s2 => h σ2 F2 H2 (e.trans s2)
    | rt d => exact h
    | rl d => exact h
theorem dFor (hp : PassesOwn (model X.prog X.w) X.A X.env X.xe) (hc : X.calm = true) (hi : DI X c tg iter mi) (hg : DG X c tg is g) (hb : DB X c body mb) (hs : ∀ x, foldedSetIterable iter X.env x = pure x := by intro _; rfl) : DS X c (.For tg iter body [] pos) (mFor mi g mb) :=
  (ps_for hp hc hi hg hb hs).imp fun Dn σ H ⟨F, u, ρ, S, h⟩ => ⟨F, u, ρ, S, (flowO.after S h).imp fun ds u1 F1 H1 _ s1 g1 h1 J hJ => by
    obtain ⟨G, Y, w, hG, hY⟩ := hJ
    refine for_it w (fun i σ H => ∃ F' u' ρ', Same F1 F' ∧ Sta c u' F' H σ ρ' ∧ flowO c F' Dn (loopD g mb (ds.drop i) ρ' u')) ⟨F1, u1, ρ, Same.refl _, h1.1, by simpa using h1.2⟩
      (fun i σ H _ ⟨F', u', ρ', e, S', _⟩ => hG H (e.trans S'.gd.ex)) (fun i x σ H H' hi ⟨F', u', ρ', e, S', hf⟩ hy => ?_) (fun σ H ⟨F', u', ρ', e, S', hf⟩ => ?_)
    · have hd : ds[i]? = some ds[i] := List.getElem?_eq_getElem hi
      obtain ⟨F3, s3, g3, r3⟩ := hY i H x H' F' u' _ hd e S'.gd hy
      rw [List.drop_eq_getElem_cons hi] at hf
      unfold loopD at hf
      obtain ⟨ρ1, e1, hf⟩ := flowO.lft S' hf
      have S3 := S'.step s3 g3
      refine ⟨F3, u', ρ', ds[i], S3, r3, ?_⟩
      rw [e1]
      intro σ1 S1 _
      refine ⟨F3, u', ρ1, S1, ?_⟩
      have hf3 := hf.mono s3.ef
      unfold M.bind at hf3
      cases e2 : mb ρ1 u' with
      | none => rw [e2] at hf3; exact hf3
      | some y =>
        obtain ⟨f2, u2⟩ := y
        rw [e2] at hf3
        cases f2 with
        | nx ρ2 => exact fun σ2 F2 H2 sm S2 => ⟨F2, u2, ρ2, (e.trans s3.ef).trans sm, S2, flowO.mono sm hf3⟩
        | ct ρ2 => exact fun σ2 F2 H2 sm S2 => ⟨F2, u2, ρ2, (e.trans s3.ef).trans sm, S2, flowO.mono sm hf3⟩
        | bk ρ2 => exact fun σ2 F2 H2 sm S2 => hf3 σ2 F2 H2 sm S2
        | rt d => exact hf3
        | rl d => exact hf3
    · rw [List.drop_eq_nil_of_le (Nat.le_refl _)] at hf
      exact hf σ F' H (Same.refl _) S'⟩
theorem dWhile {k : Expr} {t : MT} (n : Nat) (hp : PassesOwn (model X.prog X.w) X.A X.env X.xe) (hk : DT X c k t) (hb : DB X c body mb) : DS X c (.While k body [] pos) (mWhile n t mb) :=
  (ps_while hp hk hb).imp fun Dn σ H ⟨F, u, ρ, S, h⟩ => by
    refine ⟨fun m σ H => ∃ F u ρ, Sta c u F H σ ρ ∧ flowO c F Dn (loopW t mb m ρ u), ⟨n, F, u, ρ, S, h⟩, fun m σ H ⟨F, u, ρ, S, h⟩ => ?_⟩
    cases m with
    | zero => exact False.elim h
    | succ m =>
      unfold loopW at h
      refine ⟨F, u, ρ, S, (flowO.after S h).imp fun b u1 F1 H1 _ s1 g1 h1 => ?_⟩
      cases b with
      | false => exact h1.2 σ F1 H1 (Same.refl _) h1.1
      | true =>
        refine ⟨fun σ' H' => ∃ F u ρ, Sta c u F H' σ' ρ ∧ flowO c F Dn (loopW t mb m ρ u), fun σ' H' z => ⟨m, Nat.lt_succ_self _, z⟩, F1, u1, ρ, h1.1, ?_⟩
        have hf3 : flowO c F1 Dn (M.bind (mb ρ) (fun f => match f with
          | .nx ρ2 => loopW t mb m ρ2
          | .ct ρ2 => loopW t mb m ρ2
          | .bk ρ2 => M.pure (.nx ρ2)
          | .rt d => M.pure (.rt d)
          | .rl d => M.pure (.rl d)) u1) := h1.2
        unfold M.bind at hf3
        cases e2 : mb ρ u1 with
        | none => rw [e2] at hf3; exact hf3
        | some y =>
          obtain ⟨f2, u2⟩ := y
          rw [e2] at hf3
          cases f2 with
          | nx ρ2 => exact fun σ2 F2 H2 sm S2 => ⟨F2, u2, ρ2, S2, flowO.mono sm hf3⟩
          | ct ρ2 => exact fun σ2 F2 H2 sm S2 => ⟨F2, u2, ρ2, S2, flowO.mono sm hf3⟩
          | bk ρ2 => exact fun σ2 F2 H2 sm S2 => hf3 σ2 F2 H2 sm S2
          | rt d => exact hf3
          | rl d => exact hf3
end
end Mi


set_option Elab.async false
set_option linter.all false
set_option maxRecDepth 100000
set_option maxHeartbeats 2000000
/-! Mi3: what is walked, comprehensions, owned lists, calls, classes, a def's promise. -/
namespace Mi
open PySem PySem.Spec PyProof.Rows L2

/-! ### what is walked -/
section
variable {W : Wo} {p : Addr} {F : Hp}
theorem walkD_at {J : It} {G : Hp → Prop} {vs : List V} {ds : List D} (w : Walk J vs.length G (YAt vs)) (hG : ∀ H, Same F H → G H) (r : Reps W p F vs ds) : WalkD W p J F ds := by
  refine ⟨G, YAt vs, by rw [← r.1]; exact w, hG, fun i H x H' F2 u d hd e g hy => ?_⟩
  obtain ⟨rfl, hx⟩ := hy
  exact ⟨F2, Stp.refl, g, (r.2 i x d hx hd).mono e⟩
theorem walkD_list {a : Addr} {vs : List V} {ds : List D} (h : F a = some (.lst vs)) (r : Reps W p F vs ds) : WalkD W p (Itl W.K a) F ds := walkD_at walk_list (fun H e => SqL.of (e _ _ h)) r
theorem walkD_tup {a : Addr} {vs : List V} {ds : List D} (h : SqT W.K F a vs) (r : Reps W p F vs ds) : WalkD W p (Itt W.K a) F ds := walkD_at walk_tup (fun H e => sq_t e h) r
def rngD (lo : Int) (n : Nat) : List D := (List.range n).map fun i => .int (lo + (i : Nat))
theorem rngD_len (lo : Int) (n : Nat) : (rngD lo n).length = n := by simp [rngD]
theorem rngD_at {lo : Int} {n i : Nat} {d : D} (h : (rngD lo n)[i]? = some d) : d = .int (lo + (i : Nat)) := by
  unfold rngD at h
  rw [List.getElem?_map] at h
  by_cases hi : i < n
  · rw [List.getElem?_range hi] at h
    exact (Option.some.inj h).symm
  · rw [List.getElem?_eq_none (by simpa using hi)] at h; cases h
theorem walkD_range {lo : Int} {n : Nat} : WalkD W p (Itr lo n) F (rngD lo n) := by
  refine ⟨_, _, by rw [rngD_len]; exact walk_range, fun _ _ => trivial, fun i H x H' F2 u d hd e g hy => ?_⟩
  obtain ⟨rfl, rfl⟩ := hy
  exact ⟨F2, Stp.refl, g, by rw [rngD_at hd]; exact .int _⟩
/-- pairs of the items of two walks -/
theorem walkD_pair {J : It} {n : Nat} {G : Hp → Prop} {xs ys : Nat → Option V} {ds : List D} (hn : ds.length = n) (w : Walk J n G (YPair xs ys)) (hG : ∀ H, Same F H → G H)
    (r : ∀ i x y d, xs i = some x → ys i = some y → ds[i]? = some d → ∃ a b, d = .tup [a, b] ∧ Rep W p F x a ∧ Rep W p F y b) : WalkD W p J F ds := by
  refine ⟨G, _, by rw [hn]; exact w, hG, fun i H x H' F2 u d hd e g hy => ?_⟩
  obtain ⟨T, x1, y1, rfl, hT, rfl, hx, hy⟩ := hy
  obtain ⟨a, b, rfl, ra, rb⟩ := r i x1 y1 d hx hy hd
  have e2 := e.trans (Stp.new (o := .tup [x1, y1]) g hT).ef
  exact ⟨_, Stp.new g hT, g.new hT, Rep.mkT upd_same (Reps.cons (ra.mono e2) (Reps.cons (rb.mono e2) Reps.nil))⟩
end
def mIseq (m : ME) : MA := fun ρ => M.bind (m ρ) fun d => lft (match d with
  | .lst ds => some ds
  | _ => none)
def mItup (m : ME) : MA := fun ρ => M.bind (m ρ) fun d => lft (match d with
  | .tup ds => some ds
  | _ => none)
def rng1 : List D → Option (List D) := fun ds => match ds with
  | [.int j] => if -100000 ≤ j ∧ j ≤ 100000 then some (rngD 0 j.toNat) else none
  | _ => none
def mIof (f : List D → Option (List D)) (ms : MA) : MA := fun ρ => M.bind (ms ρ) fun ds => lft (f ds)
def enumD (xs : List D) : List D := xs.mapIdx fun i d => .tup [.int (i : Nat), d]
def enum1 : List D → Option (List D) := fun ds => match ds with
  | [.lst xs] => some (enumD xs)
  | _ => none
theorem enumD_at {xs : List D} {i : Nat} {d : D} (h : (enumD xs)[i]? = some d) : ∃ x, xs[i]? = some x ∧ d = .tup [.int (i : Nat), x] := by
  unfold enumD at h
  rw [List.getElem?_mapIdx] at h
  cases e : xs[i]? with
  | none => rw [e] at h; cases h
  | some q =>
    rw [e] at h
    exact ⟨q, rfl, (Option.some.inj h).symm⟩
theorem enumD_len (xs : List D) : (enumD xs).length = xs.length := by simp [enumD]
section
variable {X : Cx} {c : Cf} {tg e a b : Expr} {m : ME} {ms : MA} {pos q : Pos}
theorem dIlist (h : DE X c e m) (hK : X.K = c.W.K := by rfl) : DI X c tg e (mIseq m) :=
  (pi_list h).imp fun σ H R ⟨F, u, ρ, S, h⟩ => ⟨F, u, ρ, S, (After.split h).imp fun d u1 F1 H1 _ s1 g1 h1 v rv => by
    obtain ⟨ds, e1, h2⟩ := lft_some h1
    cases d with
    | lst es =>
      cases e1
      obtain ⟨a, vs, rfl, ha, rs⟩ := rv.lst_
      exact ⟨a, rfl, ⟨vs, SqL.of (g1.ex _ _ ha)⟩, by rw [hK]; exact After.now g1 h2 _ (walkD_list ha rs)⟩
    | _ => cases e1⟩
theorem dItup (h : DE X c e m) (hK : X.K = c.W.K := by rfl) : DI X c tg e (mItup m) :=
  (pi_tup h).imp fun σ H R ⟨F, u, ρ, S, h⟩ => ⟨F, u, ρ, S, (After.split h).imp fun d u1 F1 H1 _ s1 g1 h1 v rv => by
    obtain ⟨ds, e1, h2⟩ := lft_some h1
    cases d with
    | tup es =>
      cases e1
      obtain ⟨a, vs, rfl, ha, rs⟩ := rv.tup_
      exact ⟨a, rfl, ⟨vs, by rw [hK]; exact sq_t g1.ex ha⟩, by rw [hK]; exact After.now g1 h2 _ (walkD_tup ha rs)⟩
    | _ => cases e1⟩
theorem dIrng1 (hg : Gl X "range") (hm : X.mg "range" = none) (ha : DA X c [a] ms) (hs : starEach [a] X.env = [(false, eval a X.env)] := by rfl) : DI X c tg (.Call (.Name "range" q) [a] [] pos) (mIof rng1 ms) :=
  (pi_range1 hg hm ha hs).imp fun σ H R ⟨F, u, ρ, S, h⟩ => ⟨F, u, ρ, S, (After.split h).imp fun ds u1 F1 H1 _ s1 g1 h1 vs rv => by
    obtain ⟨es, e1, h2⟩ := lft_some h1
    unfold rng1 at e1
    split at e1
    · rename_i j _h
      split at e1
      · rename_i hj
        cases e1
        obtain ⟨v, vr, rfl, r1, r2⟩ := rv.uncons
        rw [r2.none, r1.int_]
        exact ⟨j, rfl, by omega, by omega, After.now g1 h2 _ walkD_range⟩
      · cases e1
    · cases e1⟩
theorem dIenum {elts : List Expr} {kk : Nat} {tpos : Pos} (hg : Gl X "enumerate") (hm : X.mg "enumerate" = none) (ha : DA X c [a] ms) (hs : starEach [a] X.env = [(false, eval a X.env)] := by rfl) (hK : X.K = c.W.K := by rfl) :
    DI X c (.Tuple elts kk tpos) (.Call (.Name "enumerate" q) [a] [] pos) (mIof enum1 ms) :=
  (pi_enum hg hm ha hs).imp fun σ H R ⟨F, u, ρ, S, h⟩ => ⟨F, u, ρ, S, (After.split h).imp fun ds u1 F1 H1 _ s1 g1 h1 vs rv => by
    obtain ⟨es, e1, h2⟩ := lft_some h1
    unfold enum1 at e1
    split at e1
    · rename_i xs _h
      cases e1
      obtain ⟨v, vr, rfl, r1, r2⟩ := rv.uncons
      rw [r2.none]
      obtain ⟨p1, v1, rfl, f1, q1⟩ := r1.lst_
      refine ⟨p1, v1, rfl, SqL.of (g1.ex _ _ f1), After.now g1 h2 _ ?_⟩
      rw [hK]
      refine walkD_pair (n := v1.length) (by rw [enumD_len, q1.1]) walk_enum (fun H e => SqL.of (e _ _ f1)) fun i x y d hx hy hd => ?_
      obtain ⟨y', e2, rfl⟩ := enumD_at hd
      cases hx
      exact ⟨_, y', rfl, .int _, q1.2 i y y' hy e2⟩
    · cases e1⟩
end

/-! ### comprehensions -/
def wipeE (ρ : Env) : List Nat → Env
  | [] => ρ
  | v :: vs => (wipeE ρ vs).set v .un
theorem wipe_get {σ : L2.St} {j : Nat} : ∀ {vs : List Nat}, j ∉ vs → (wipe σ vs)[j]? = σ[j]?
  | [], _ => rfl
  | v :: vs, h => by
    show ((wipe σ vs).set v none)[j]? = _
    rw [List.getElem?_set_ne (fun z => h (by simp [z])), wipe_get (fun z => h (List.mem_cons_of_mem _ z))]
theorem wipeE_len (ρ : Env) : ∀ vs : List Nat, (wipeE ρ vs).length = ρ.length
  | [] => rfl
  | v :: vs => by show ((wipeE ρ vs).set v .un).length = _; rw [List.length_set, wipeE_len ρ vs]
theorem wipeE_get {ρ : Env} {j : Nat} {s : Sd} : ∀ {vs : List Nat}, (wipeE ρ vs)[j]? = some s → s = .un ∨ (j ∉ vs ∧ ρ[j]? = some s)
  | [], h => .inr ⟨by simp, h⟩
  | v :: vs, h => by
    have h' : ((wipeE ρ vs).set v .un)[j]? = some s := h
    rcases set_get h' with ⟨_, e, _⟩ | ⟨ne, h2⟩
    · exact .inl e
    · rcases wipeE_get h2 with e | ⟨a, b⟩
      · exact .inl e
      · exact .inr ⟨fun z => (List.mem_cons.mp z).elim (fun q => ne q.symm) a, b⟩
theorem Sta.wipe {c : Cf} {u : PuS} {F H : Hp} {σ : L2.St} {ρ : Env} (S : Sta c u F H σ ρ) (vs : List Nat) : Sta c u F H (wipe σ vs) (wipeE ρ vs) := by
  refine ⟨S.ent, S.gd, by rw [wipe_length, wipeE_len]; exact S.env.len, fun i s e => ?_, fun i j s t h e1 e2 o1 o2 => ?_⟩
  · rcases wipeE_get e with rfl | ⟨hn, e⟩
    · trivial
    · rw [wipe_get hn]; exact S.env.at_ i s e
  · rcases wipeE_get e1 with rfl | ⟨n1, e1⟩
    · cases o1
    · rcases wipeE_get e2 with rfl | ⟨n2, e2⟩
      · cases o2
      · rw [wipe_get n1, wipe_get n2]; exact S.env.ne i j s t h e1 e2 o1 o2
theorem wipe_in {σ : L2.St} {j : Nat} : ∀ {vs : List Nat}, j ∈ vs → (wipe σ vs)[j]? = if j < σ.length then some none else none
  | [], h => by cases h
  | v :: vs, h => by
    show ((wipe σ vs).set v none)[j]? = _
    by_cases e : v = j
    · subst e
      rw [List.getElem?_set]
      simp [wipe_length]
    · rw [List.getElem?_set_ne e]
      exact wipe_in ((List.mem_cons.mp h).resolve_left fun z => e z.symm)
theorem wipe_agr {σ σ' : L2.St} {is vs : List Nat} (h : ∀ i ∈ is, i ∈ vs) (a : Agr is (wipe σ vs) σ') : wipe σ' vs = wipe σ vs := by
  apply List.ext_getElem?
  intro j
  have hl : σ'.length = σ.length := by rw [a.1, wipe_length]
  by_cases hj : j ∈ vs
  · rw [wipe_in hj, wipe_in hj, hl]
  · rw [wipe_get hj, a.2 j (fun z => hj (h j z))]
theorem bind_some {α β : Type} {m : M α} {f : α → M β} {u : PuS} {r : β × PuS} (h : M.bind m f u = some r) : ∃ a u1, m u = some (a, u1) ∧ f a u1 = some r := by
  unfold M.bind at h
  cases e : m u with
  | none => rw [e] at h; cases h
  | some x =>
    obtain ⟨a, u1⟩ := x
    rw [e] at h
    exact ⟨a, u1, rfl, h⟩
def lcD (g : MG) (mt : MT) (me : ME) (ρ : Env) : List D → M (List D)
  | [] => M.pure []
  | d :: ds => M.bind (lft (g d ρ)) fun ρ1 => M.bind (mt ρ1) fun b =>
    if b = true then M.bind (me ρ1) fun y => M.bind (lcD g mt me ρ ds) fun ys => M.pure (y :: ys) else lcD g mt me ρ ds
def mLcO (vs : List Nat) (mi : MA) (g : MG) (mt : MT) (me : ME) : MA := fun ρ => M.bind (mi ρ) fun ds => if ds.length ≤ 100000 then lcD g mt me (wipeE ρ vs) ds else lft none
/-- a fresh list, frozen -/
def mFz (m : MA) : ME := fun ρ => M.bind (m ρ) fun ds => M.pure (.lst ds)
theorem dFz {X : Cx} {c : Cf} {e : Expr} {m : MA} (h : DL X c e m) : DE X c e (mFz m) := h.imp fun σ H Q ⟨F, u, ρ, S, h⟩ => by
  refine ⟨F, u, ρ, S, ?_⟩
  have h' : After c.p F H (M.bind (m ρ) (fun ds => M.pure (.lst ds)) u) fun d _ F' H' => ∀ v, Rep c.W c.p F' v d → Q v H' := h
  unfold M.bind at h'
  cases e1 : m ρ u with
  | none => rw [e1] at h'; exact h'
  | some x =>
    obtain ⟨ds, u1⟩ := x
    rw [e1] at h'
    intro F1 H1 s1 g1 q ws hF hn hq r
    have h2 : After c.p F H (some (D.lst ds, u1)) (fun d _ F' H' => ∀ v, Rep c.W c.p F' v d → Q v H') := h'
    have hsm : Same F1 (upd F1 q (.lst ws)) := fun a o e => by rw [upd_ne (fun z => by rw [z, hF] at e; cases e)]; exact e
    have hpq : c.p ≠ q := fun z => S.gd.ne (z ▸ hn)
    refine h2 (upd F1 q (.lst ws)) H1 ⟨s1.ef.trans hsm, s1.eh, fun a o e => ?_⟩ ⟨fun a o e => ?_, g1.pu, fun l e => by rw [upd_ne hpq]; exact g1.off l e⟩ (.ref q) (Rep.mkL upd_same (r.mono hsm))
    · by_cases ha : a = q
      · subst ha; exact .inr hn
      · rw [upd_ne ha] at e; exact s1.nw a o e
    · by_cases ha : a = q
      · subst ha; rw [upd_same] at e; cases e; exact hq
      · rw [upd_ne ha] at e; exact g1.ex a o e
def mYes : MT := fun _ => M.pure true
section
variable {c : Cf} {is vs : List Nat} {mi : MA} {g : MG} {mt : MT} {me : ME}
/-- the reading of a comprehension, from its mirror: the new list is handed over, not frozen -/
theorem rdLc (his : ∀ i ∈ is, i ∈ vs) (σ : L2.St) (H : Hp) (Q : VK) (F : Hp) (u : PuS) (ρ : Env) (S : Sta c u F H σ ρ)
    (h : After c.p F H (mLcO vs mi g mt me ρ u) fun ds _ F' H' => ∀ q ws, F' q = none → H q = none → H' q = some (.lst ws) → Reps c.W c.p F' ws ds → Q (.ref q) H') : tLc (rdI c mi) (rdG c is g) (rdT c mt) (rdE c me) vs σ H Q := by
  refine ⟨F, u, ρ, S, (After.split h).imp fun ds u1 F1 H1 _ s1 g1 h1 J hJ Dl hD => ?_⟩
  have S1 := S.step s1 g1
  by_cases hlen : ds.length ≤ 100000
  case neg => rw [if_neg hlen] at h1; exact False.elim h1
  rw [if_pos hlen] at h1
  obtain ⟨G, Y, w, hG, hY⟩ := hJ
  -- what is wanted at the end
  cases hr : lcD g mt me (wipeE ρ vs) ds u1 with
  | none => rw [hr] at h1; exact False.elim h1
  | some out =>
    obtain ⟨out, uf⟩ := out
    rw [hr] at h1
    refine lc_it w (fun i H' => ∃ F' u' done acc rest, Stp c.p F1 H1 F' H' ∧ Gd c.p u' F' H' ∧ F' Dl = none ∧ H' Dl = some (.lst acc) ∧ Reps c.W c.p F' acc done ∧ done.length ≤ i ∧
      lcD g mt me (wipeE ρ vs) (ds.drop i) u' = some (rest, uf) ∧ done ++ rest = out) ?_ ?_ ?_ ?_
    · exact ⟨F1, u1, [], [], out, Stp.own hD, g1.own hD, g1.fresh hD, upd_same, Reps.nil, Nat.le_refl _, by simpa using hr, rfl⟩
    · rintro i H' _ ⟨F', u', done, acc, rest, s', g', _⟩
      exact hG H' (s'.ef.trans g'.ex)
    · rintro i x H2 H3 hi ⟨F', u', done, acc, rest, s', g', hf, ha, ra, hl, hd, ho⟩ hy
      have hdi : ds[i]? = some ds[i] := List.getElem?_eq_getElem hi
      obtain ⟨F3, s3, g3, r3⟩ := hY i H2 x H3 F' u' _ hdi s'.ef g' hy
      rw [List.drop_eq_getElem_cons hi] at hd
      unfold lcD at hd
      have S3 : Sta c u' F3 H3 (wipe σ vs) (wipeE ρ vs) := ((S1.step s' g').step s3 g3).wipe vs
      refine ⟨F3, u', wipeE ρ vs, ds[i], S3, r3, ?_⟩
      cases eg : g ds[i] (wipeE ρ vs) with
      | none => rw [eg] at hd; cases hd
      | some ρ1 =>
        rw [eg] at hd
        intro σ2 S2 a2
        refine ⟨wipe_agr his a2, F3, u', ρ1, S2, ?_⟩
        have hd2 : M.bind (mt ρ1) (fun b => if b = true then M.bind (me ρ1) fun y => M.bind (lcD g mt me (wipeE ρ vs) (ds.drop (i + 1))) fun ys => M.pure (y :: ys) else lcD g mt me (wipeE ρ vs) (ds.drop (i + 1))) u' = some (rest, uf) := hd
        unfold M.bind at hd2
        have s13 := s'.trans g'.ne s3
        cases et : mt ρ1 u' with
        | none => rw [et] at hd2; cases hd2
        | some bt =>
          obtain ⟨bt, u2⟩ := bt
          rw [et] at hd2
          intro F4 H4 s4 g4
          have s14 := s13.trans g3.ne s4
          have hf4 : F4 Dl = none := s4.off (s3.off hf (by rw [ha]; simp)) (by rw [s3.eh Dl _ (fun z => g1.ne (z ▸ hD)) ha]; simp)
          have ha4 : H4 Dl = some (.lst acc) := s4.eh Dl _ (fun z => g1.ne (z ▸ hD)) (s3.eh Dl _ (fun z => g1.ne (z ▸ hD)) ha)
          have hpd : Dl ≠ c.p := fun z => g1.ne (z ▸ hD)
          cases bt with
          | false =>
            show ∃ F' u' done acc rest, _
            exact ⟨F4, u2, done, acc, rest, s14, g4, hf4, ha4, ra.mono (s3.ef.trans s4.ef), by omega, hd2, ho⟩
          | true =>
            show rdE c me σ2 H4 _
            refine ⟨F4, u2, ρ1, S2.step s4 g4, ?_⟩
            have hd3 : M.bind (me ρ1) (fun y => M.bind (lcD g mt me (wipeE ρ vs) (ds.drop (i + 1))) fun ys => M.pure (y :: ys)) u2 = some (rest, uf) := hd2
            unfold M.bind at hd3
            cases ee : me ρ1 u2 with
            | none => rw [ee] at hd3; cases hd3
            | some y =>
              obtain ⟨y, u3⟩ := y
              rw [ee] at hd3
              intro F5 H5 s5 g5 v rv
              have ha5 := s5.eh Dl _ hpd ha4
              have hf5 : F5 Dl = none := s5.off hf4 (by rw [ha4]; simp)
              refine ⟨acc, ha5, sz5l (by have := ra.1; omega), ?_⟩
              obtain ⟨ys, u4, el, e5⟩ := bind_some (m := lcD g mt me (wipeE ρ vs) (ds.drop (i + 1))) (f := fun ys => M.pure (y :: ys)) (u := u3) (r := (rest, uf)) hd3
              have e5 : some (y :: ys, u4) = some (rest, uf) := e5
              injection e5 with e5
              injection e5 with e6 e7
              subst e6 e7
              have s15 := s14.trans g4.ne s5
              refine ⟨F5, u3, done ++ [y], acc ++ [v], ys, ⟨s15.ef, fun a o hap e => ?_, s15.nw⟩, ⟨fun a o e => ?_, ?_, g5.off⟩, hf5, upd_same, ?_, by simp; omega, el, by simpa using ho⟩
              · rw [upd_ne (ne_of_none e hD)]; exact s15.eh a o hap e
              · rw [upd_ne (fun z => by rw [z, hf5] at e; cases e)]; exact g5.ex a o e
              · rw [upd_ne (Ne.symm hpd)]; exact g5.pu
              · exact (ra.mono ((s3.ef.trans s4.ef).trans s5.ef)).append (Reps.cons rv Reps.nil)
    · rintro H' ⟨F', u', done, acc, rest, s', g', hf, ha, ra, hl, hd, ho⟩
      rw [List.drop_eq_nil_of_le (Nat.le_refl _)] at hd
      have hd' : some (([] : List D), u') = some (rest, uf) := hd
      injection hd' with hd'
      injection hd' with e1 e2
      subst e1 e2
      rw [List.append_nil] at ho
      subst ho
      exact h1 F' H' s' g' Dl acc hf (s1.back g1.ne hD) ha ra
end
section
variable {X : Cx} {c : Cf} {elt tg iter : Expr} {ifs : List Expr} {scope : Scope} {own : List (Str × Nat)} {pos : Pos} {is : List Nat} {mi : MA} {g : MG} {mt : MT} {me : ME}
theorem dYes : PTs X [] (rdT c mYes) := pts_nil.imp fun σ H Q ⟨F, u, ρ, S, h⟩ => After.now S.gd h
theorem dLcO (hc : X.calm = true) (hN : X.N.Nodup) (hi : DI X c tg iter mi) (ok : BlkOk X.N X.env.scope scope own) (hg : ∀ (s : Shared) (H : Hp) (C : Addr) (cl : List (Str × Addr)) (fp : List Addr), DG (X.blk s H scope (compEnvC scope cl C X.env) fp) c tg is g)
    (ht : ∀ (s : Shared) (H : Hp) (C : Addr) (cl : List (Str × Addr)) (fp : List Addr), PTs (X.blk s H scope (compEnvC scope cl C X.env) fp) ifs (rdT c mt)) (he : ∀ (s : Shared) (H : Hp) (C : Addr) (cl : List (Str × Addr)) (fp : List Addr), DE (X.blk s H scope (compEnvC scope cl C X.env) fp) c elt me)
    (his : ∀ i ∈ is, i ∈ own.map (·.2) := by decide) (hs : ∀ x, foldedSetIterable iter X.env x = pure x := by intro _; rfl) : DL X c (.ListComp elt [⟨tg, iter, ifs, 0⟩] scope pos) (mLcO (own.map (·.2)) mi g mt me) :=
  (pe_lc hc hN hi ok hg ht he hs).imp fun σ H Q ⟨F, u, ρ, S, h⟩ => rdLc his σ H Q F u ρ S h
end
end Mi


set_option Elab.async false
set_option linter.all false
set_option maxRecDepth 100000
set_option maxHeartbeats 2000000
/-! Mi4: owned lists, calls, classes, a def's promise. -/
namespace Mi
open PySem PySem.Spec PyProof.Rows L2

/-! ### owned lists -/
def vOw (ρ : Env) (i : Nat) : Option (List D) := match ρ[i]? with
  | some (.ow ds) => some ds
  | _ => none
def mApp (i : Nat) (m : ME) : MS := fun ρ => M.bind (m ρ) fun d => M.bind (lft (vOw ρ i)) fun ds => M.bind (lft (if ds.length < 100000 then some () else none)) fun _ => M.pure (.nx (ρ.set i (.ow (ds ++ [d]))))
def frz (i : Nat) (ρ : Env) : Env := match vOw ρ i with
  | some ds => ρ.set i (.sh (.lst ds))
  | none => ρ
def mFrz (i : Nat) (m : MS) : MS := fun ρ => m (frz i ρ)
section
variable {X : Cx} {c : Cf} {pos : Pos} {e ie : Expr} {m mi : ME} {i : Nat} {x : Str}
theorem vOw_at {ρ : Env} {ds : List D} (h : vOw ρ i = some ds) : ρ[i]? = some (.ow ds) := by
  unfold vOw at h
  split at h
  · rename_i z; cases h; exact z
  · cases h
theorem Sta.ow {u : PuS} {F H : Hp} {σ : L2.St} {ρ : Env} {ds : List D} (S : Sta c u F H σ ρ) (h : vOw ρ i = some ds) :
    ∃ q vs, σ[i]? = some (some (.ref q)) ∧ H q = some (.lst vs) ∧ F q = none ∧ q ≠ c.p ∧ c.H0 q = none ∧ Reps c.W c.p F vs ds := S.env.at_ i _ (vOw_at h)
theorem lft_some' {α β : Type} {o : Option α} {f : α → M β} {u : PuS} {p : Addr} {F H : Hp} {Φ : β → PuS → Hp → Hp → Prop} (h : After p F H (M.bind (lft o) f u) Φ) : ∃ a, o = some a ∧ After p F H (f a u) Φ := by
  cases o with
  | none => exact False.elim h
  | some a => exact ⟨a, rfl, h⟩
theorem dApp (i : Nat) {x : Str} {p0 apos cpos : Pos} (he : DE X c e m) (hN : X.N[i]? = some x := by rfl) (hv : Vis X.env.scope x := by first | exact Or.inl rfl | exact Or.inr (Or.inl rfl) | exact Or.inr (Or.inr rfl)) (hd : (x == ("__debug__" : Str)) = false := by decide)
    (hcd : (x == ("__classdict__" : Str)) = false := by decide) (hbase : attributeBase (.Name x p0) "append" X.env (eval (.Name x p0) X.env) = eval (.Name x p0) X.env := by rfl)
    (hfew : ((backTo cpos (starEach [e] X.env)).all (fun x => !x.1) && (backToKw cpos (keywordEach [] X.env)).all (fun x => x.1.isSome)
      && decide (([e] : List Expr).length + ([] : List Keyword).length + (if ([] : List Keyword).isEmpty then 0 else 1) < 30)) = true := by rfl)
    (hline : (apos.endLine == cpos.line) = true := by rfl) (hst : starEach [e] X.env = (false, eval e X.env) :: starEach [] X.env := by rfl) (hplain : (backTo cpos (starEach [] X.env)).any (·.1) = false := by rfl)
    (hs : swapsWith (.Call (.Attribute (.Name x p0) "append" apos) [e] [] cpos) none pos.line X.env = pure false := by rfl) :
    DS X c (.Expr (.Call (.Attribute (.Name x p0) "append" apos) [e] [] cpos) pos) (mApp i m) :=
  (ps_expr (pe_bm PySem.F.plainAttrs_list PySem.F.slot_list_append PySem.F.type_list_append mt_append (pe_var (i := i) hN hv hd hcd) (pa_cons he pa_nil hst) hbase hfew hline hst hplain) hs).imp fun Dn σ H ⟨F, u, ρ, S, h⟩ => by
    unfold mApp at h
    have key : ∀ ds, vOw ρ i = some ds → tDrop (tBM X.K "list" rAppend (tVar i) (tCons (rdE c m) tNil)) Dn σ H := fun ds hds => by
      obtain ⟨q, vs, e1, hq, _⟩ := S.ow hds
      refine ⟨.ref q, e1, .inl ⟨rfl, vs, SqL.of hq⟩, F, u, ρ, S, (flowO.after S h).imp fun d u1 F1 H1 _ s1 g1 h1 v rv => ?_⟩
      obtain ⟨ds', e2, h2⟩ := flowO.lft h1.1 h1.2
      rw [hds] at e2
      cases e2
      obtain ⟨_, e3, h3⟩ := flowO.lft h1.1 h2
      obtain ⟨q', vs', e1', hq', _, _, _, r'⟩ := h1.1.ow hds
      rw [e1] at e1'
      cases e1'
      split at e3
      · rename_i hl
        refine ⟨q, vs', v, rfl, rfl, hq', sz5l (by rw [r'.1]; omega), h3 σ F1 _ (Same.refl _) ?_⟩
        exact h1.1.put (vOw_at hds) e1 (r'.append (Reps.cons rv Reps.nil))
      · cases e3
    cases ho : vOw ρ i with
    | some ds => exact key ds ho
    | none =>
      exfalso
      cases e1 : m ρ u with
      | none =>
        unfold M.bind at h
        rw [e1] at h
        exact h
      | some y =>
        unfold M.bind at h
        rw [e1, ho] at h
        exact h
theorem Sta.frz {u : PuS} {F H : Hp} {σ : L2.St} {ρ : Env} (S : Sta c u F H σ ρ) (i : Nat) : ∃ F', Same F F' ∧ Sta c u F' H σ (frz i ρ) := by
  unfold Mi.frz
  cases ho : vOw ρ i with
  | none => exact ⟨F, Same.refl F, S⟩
  | some ds =>
    obtain ⟨q, vs, e1, hq, hf, hp, h0, r⟩ := S.ow ho
    have hsm : Same F (upd F q (.lst vs)) := fun a o e => by rw [upd_ne (fun z => by rw [z, hf] at e; cases e)]; exact e
    have qs : ∀ {j : Nat} {t : Sd} {a : Addr}, i ≠ j → ρ[j]? = some t → t.own = true → σ[j]? = some (some (.ref a)) → a ≠ q := fun {j t a} ne e2 o z h => by
      subst h
      exact S.env.ne i j _ t ne (vOw_at ho) e2 rfl o (e1.trans z.symm)
    refine ⟨upd F q (.lst vs), hsm, ⟨S.ent.ef.trans hsm, S.ent.eh, fun a o e => ?_⟩, ⟨fun a o e => ?_, S.gd.pu, fun l e => by rw [upd_ne (Ne.symm hp)]; exact S.gd.off l e⟩, by simpa using S.env.len, fun j t e => ?_, fun j k t t' h ea eb o1 o2 => ?_⟩
    · by_cases ha : a = q
      · subst ha; exact .inr h0
      · rw [upd_ne ha] at e; exact S.ent.nw a o e
    · by_cases ha : a = q
      · subst ha; rw [upd_same] at e; cases e; exact hq
      · rw [upd_ne ha] at e; exact S.gd.ex a o e
    · rcases set_get e with ⟨rfl, rfl, _⟩ | ⟨ne, e⟩
      · exact ⟨.ref q, e1, Rep.mkL upd_same (r.mono hsm)⟩
      · have k := S.env.at_ j t e
        cases t with
        | un => trivial
        | sh d => obtain ⟨v, z, r'⟩ := k; exact ⟨v, z, r'.mono hsm⟩
        | ow es => obtain ⟨a, xs, z, ha, hfa, w1, w2, r'⟩ := k; exact ⟨a, xs, z, ha, by rw [upd_ne (qs ne e rfl z)]; exact hfa, w1, w2, r'.mono hsm⟩
        | oi kk ks es => obtain ⟨dx, xs, z, ha, hfa, w1, w2, w3, r'⟩ := k; exact ⟨dx, xs, z, ha, by rw [upd_ne (qs ne e rfl z)]; exact hfa, w1, w2, w3, r'.mono hsm⟩
    · rcases set_get ea with ⟨rfl, rfl, _⟩ | ⟨n1, ea⟩
      · cases o1
      · rcases set_get eb with ⟨rfl, rfl, _⟩ | ⟨n2, eb⟩
        · cases o2
        · exact S.env.ne j k t t' h ea eb o1 o2
theorem dFrzS (i : Nat) {st : Stmt} {ms : MS} (h : DS X c st ms) : DS X c st (mFrz i ms) := h.imp fun Dn σ H ⟨F, u, ρ, S, h⟩ => by
  obtain ⟨F', sm, S'⟩ := S.frz i
  exact ⟨F', u, _, S', flowO.mono sm h⟩
end

/-! ### a def's promise -/
def startE (n : Nat) (ds : List D) : Env := ds.map Sd.sh ++ List.replicate (n - ds.length) Sd.un
def mFn (n : Nat) (mb : MS) : List D → M D := fun ds u => match mb (startE n ds) u with
  | some (.rt d, u') => some (d, u')
  | some (.nx _, u') => some (.non, u')
  | _ => none
theorem env_start {c : Cf} {F H : Hp} {N : List Str} {vs : List V} {ds : List D} (r : Reps c.W c.p F vs ds) : EnvOk c F H (L2.start N vs) (startE N.length ds) := by
  have hl := r.1
  have nown : ∀ {i : Nat} {s : Sd}, (startE N.length ds)[i]? = some s → s.own = false := fun {i s} e => by
    unfold startE at e
    by_cases hi : i < (ds.map Sd.sh).length
    · rw [List.getElem?_append_left hi, List.getElem?_map] at e
      cases q : ds[i]? with
      | none => rw [q] at e; cases e
      | some d => rw [q] at e; cases e; rfl
    · rw [List.getElem?_append_right (by omega), List.getElem?_replicate] at e
      split at e
      · cases e; rfl
      · cases e
  refine ⟨?_, fun i s e => ?_, fun i j s t _ e1 _ o1 _ => by rw [nown e1] at o1; cases o1⟩
  · unfold L2.start startE
    simp [hl]
  · unfold startE at e
    by_cases hi : i < (ds.map Sd.sh).length
    · rw [List.getElem?_append_left hi, List.getElem?_map] at e
      cases q : ds[i]? with
      | none => rw [q] at e; cases e
      | some d =>
        rw [q] at e
        cases e
        obtain ⟨v, ev, rv⟩ := r.get q
        refine ⟨v, ?_, rv⟩
        unfold L2.start
        rw [List.getElem?_append_left (by simpa [hl] using hi), List.getElem?_map, ev]
        rfl
    · rw [List.getElem?_append_right (by omega), List.getElem?_replicate] at e
      split at e
      · cases e; trivial
      · cases e
section
variable {P : Program} {w : World} {K : PySem.W.Frag} {mg : Str → Option Value} {base : Heap} {x qual : Str} {params : Arguments} {body : List Stmt} {scope : Scope} {dvs : List V} {kws : List (Str × V)} {f : Addr} {fd : FuncData} {W : Wo} {N ps : List Str} {k : Nat} {mb : MS}
/-- a def by its body's mirror -/
theorem fn_mir (F : FunD K x qual params body scope dvs kws f fd) (S : FnScope N ps scope)
    (hb : ∀ (cdv : Value) (A : Around) (outer : List PySem.Env) (s : Shared) (H : Hp) (E : XK) (p : Addr) (F0 : Hp), Room k (A.deeper (envOfC qual scope s.heap.objs.size f cdv)) → DB (cxOf CX0 P w K mg base N qual scope f cdv A outer s H E).nox ⟨W, p, F0, H, 0⟩ body mb) :
    FnOk P w K mg base CX0 (k + 1) f fd ps (spM W ps.length (mFn N.length mb)) := by
  refine F.ok S (fun vs H Q E h => h.1) (fun cdv A outer s H vs Q E hr h => ?_)
  obtain ⟨hl, p, F0, u, ds, g, r, h⟩ := h
  refine ⟨_, PSs.nox (hb cdv A outer s H E p F0 hr), F0, u, startE N.length ds, ⟨Stp.refl, g, env_start r⟩, ?_⟩
  unfold mFn at h
  cases e : mb (startE N.length ds) u with
  | none => rw [e] at h; exact h
  | some y =>
    obtain ⟨fl, u1⟩ := y
    rw [e] at h
    cases fl with
    | rt d =>
      intro v F' H' s' g' rv
      have h2 : After p F0 H (some (d, u1)) (fun d _ F' H' => ∀ v, Rep W p F' v d → Q v H') := h
      exact h2 F' H' s' g' v rv
    | rl ds' => exact False.elim h
    | nx ρ' =>
      intro σ' F' H' _ S'
      have h2 : After p F0 H (some (D.non, u1)) (fun d _ F' H' => ∀ v, Rep W p F' v d → Q v H') := h
      exact h2 F' H' S'.ent S'.gd .non .non
    | bk ρ' => exact False.elim h
    | ct ρ' => exact False.elim h
end

/-! ### calls -/
def mCall (n : Nat) (mf : List D → M D) (ms : MA) : ME := fun ρ => M.bind (ms ρ) fun ds => if ds.length = n then mf ds else lft none
section
variable {X : Cx} {c : Cf} {CX : CXT} {k n : Nat} {f : Addr} {fd : FuncData} {ps : List Str} {x m : Str} {p pos apos : Pos} {e o : Expr} {es : List Expr} {ms : MA} {mo : ME} {mf : List D → M D}
theorem call_ok {p : Addr} {F H : Hp} {u : PuS} {vs : List V} {ds : List D} {W : Wo} {Q : VK} {E : XK} (g : Gd p u F H) (r : Reps W p F vs ds) (h : After p F H ((if ds.length = n then mf ds else lft none) u) fun d _ F' H' => ∀ v, Rep W p F' v d → Q v H') : spM W n mf vs H Q E := by
  by_cases hl : ds.length = n
  · rw [if_pos hl] at h
    exact ⟨r.1.trans hl, p, F, u, ds, g, r, h⟩
  · rw [if_neg hl] at h; exact False.elim h
theorem dCall (G : FnOk X.prog X.w X.K X.mg X.base CX0 k f fd ps (spM c.W n mf)) (hr : Room k X.A) (hg : Gl X x) (hm : X.mg x = some (.ref f)) (hk : PySem.W.keepIn X.K (.ref f) = true) (hb : Binds X.K fd ps [])
    (ha : DA X c (e :: es) ms) (hdb : (x == ("__debug__" : Str)) = false := by decide) (he : starEach (e :: es) X.env = (false, eval e X.env) :: starEach es X.env := by rfl) (hpl : (backTo pos (starEach es X.env)).any (·.1) = false := by rfl) :
    DE X c (.Call (.Name x p) (e :: es) [] pos) (mCall n mf ms) :=
  (pe_call G hr hg hm hk hb .nil pass0 ha hdb he hpl).imp fun σ H Q ⟨F, u, ρ, S, h⟩ => ⟨F, u, ρ, S, (After.split h).imp fun ds u1 F1 H1 _ s1 g1 h1 vs rvs => by
    show spM c.W n mf (vs ++ []) H1 Q E0
    rw [List.append_nil]
    exact call_ok g1 rvs h1⟩
/-! ### fields, properties, methods -/
/-- the field number i of an object of the class k with the fields ks -/
def fldD (k : Str) (ks : List Str) (i : Nat) : D → Option D := fun d => match d with
  | .obj c ks' ds => if c = k ∧ ks' = ks then ds[i]? else none
  | _ => none
theorem zip_lookup {ks : List Str} {vs : List V} {i : Nat} {f : Str} {v : V} (nd : ks.Nodup) (hk : ks[i]? = some f) (hv : vs[i]? = some v) : (ks.zip vs).lookup f = some v := by
  induction ks generalizing vs i with
  | nil => cases hk
  | cons a ks ih =>
    cases vs with
    | nil => cases hv
    | cons b vs =>
      cases i with
      | zero =>
        simp at hk hv
        subst hk hv
        simp [List.lookup]
      | succ i =>
        simp at hk hv
        have hne : (f == a) = false := by
          rw [beq_eq_false_iff_ne]
          rintro rfl
          exact (List.nodup_cons.mp nd).1 (List.mem_of_getElem? hk)
        show (match f == a with | true => some b | false => (ks.zip vs).lookup f) = some v
        rw [hne]
        exact ih (List.nodup_cons.mp nd).2 hk hv
theorem dFld {ck f : Str} {ks : List Str} (i : Nat) (hi : ks[i]? = some f) (nd : ks.Nodup) (hc : Cls X.K (c.W.cl ck)) (hn : NoAttr X.K (c.W.cl ck) f) (he : DE X c e mo) (hb : attributeBase e f X.env (eval e X.env) = eval e X.env := by rfl) : DE X c (.Attribute e f pos) (mUn (fldD ck ks i) mo) :=
  (pe_fld he hb).imp fun σ H Q ⟨F, u, ρ, S, h⟩ => ⟨F, u, ρ, S, (After.split h).imp fun d u1 F1 H1 _ s1 g1 h1 v rv => by
    obtain ⟨y, e1, h2⟩ := lft_some h1
    unfold fldD at e1
    split at e1
    · rename_i c' ks' ds _h
      split at e1
      · rename_i hh
        obtain ⟨rfl, rfl⟩ := hh
        obtain ⟨a, dx, vs, rfl, ha, lk, r⟩ := rv.obj_
        obtain ⟨w, ew, rw⟩ := r.get e1
        exact ⟨a, _, dx, _, w, rfl, g1.ex _ _ ha, hc, hn, zip_lookup nd hi ew, After.now g1 h2 w rw⟩
      · cases e1
    · cases e1⟩
def mSelf (k : Str) (mf : List D → M D) (mo : ME) : ME := fun ρ => M.bind (mo ρ) fun d => match d with
  | .obj c ks ds => if c = k then mf [.obj c ks ds] else lft none
  | _ => lft none
theorem dProp {ck f : Str} {pr g : Addr} (he : DE X c e mo) (hc : Cls X.K (c.W.cl ck)) (hp : PropOf X.K (c.W.cl ck) f pr g) (G : FnOk X.prog X.w X.K X.mg X.base CX0 k g fd ps (spM c.W 1 mf)) (hr : Room (k + 1) X.A) (hb : Binds X.K fd ps [])
    (hab : attributeBase e f X.env (eval e X.env) = eval e X.env := by rfl) : DE X c (.Attribute e f pos) (mSelf ck mf mo) :=
  (pe_prop he hc hp G hr hb .nil pass0 hab).imp fun σ H Q ⟨F, u, ρ, S, h⟩ => ⟨F, u, ρ, S, (After.split h).imp fun d u1 F1 H1 _ s1 g1 h1 v rv => by
    split at h1
    · rename_i c' ks' ds _h
      split at h1
      · rename_i hh
        subst hh
        obtain ⟨a, dx, vs, rfl, ha, lk, r⟩ := id rv.obj_
        exact ⟨a, dx, _, rfl, g1.ex _ _ ha, rfl, c.p, F1, u1, [_], g1, Reps.cons rv Reps.nil, h1⟩
      · exact False.elim h1
    · exact False.elim h1⟩
end
end Mi


set_option Elab.async false
set_option linter.all false
set_option maxRecDepth 100000
set_option maxHeartbeats 2000000
/-! Mi5: mirrors of operators and built-ins. -/
namespace Mi
open PySem PySem.Spec PyProof.Rows L2

section
variable {W : Wo} {p : Addr} {F H : Hp} {u : PuS}
theorem OpM.ret {Q : VK} {d : D} {o : Option D} {v : V} (g : Gd p u F H) (h : After p F H (lft o u) fun d _ F' H' => ∀ v, Rep W p F' v d → Q v H') (e : o = some d) (r : Rep W p F v d) : Q v H := by
  subst e
  exact After.now g h v r
theorem OpM.new {Q : VK} {d : D} {o : Option D} {q : Addr} {ob : HO} (g : Gd p u F H) (h : After p F H (lft o u) fun d _ F' H' => ∀ v, Rep W p F' v d → Q v H') (e : o = some d) (hq : H q = none) (r : Same F (upd F q ob) → Rep W p (upd F q ob) (.ref q) d) : Q (.ref q) (upd H q ob) := by
  subst e
  exact h _ _ (Stp.new g hq) (g.new hq) _ (r (Stp.new g hq).ef)
end

/-! ### ints -/
def int2 (f : Int → Int → Option D) : D → D → Option D
  | .int a, .int b => f a b
  | _, _ => none
theorem int2_some {f : Int → Int → Option D} {a b d : D} (h : int2 f a b = some d) : ∃ i j, a = .int i ∧ b = .int j ∧ f i j = some d := by
  unfold int2 at h
  split at h
  · exact ⟨_, _, rfl, rfl, h⟩
  · cases h
/-- an operator on ints with a condition C, mirrored by the decidable condition c -/
theorem opm_I {W : Wo} {C : Int → Int → Prop} {g : Int → Int → V} {c : Int → Int → Bool} {f : Int → Int → D} (hc : ∀ i j, c i j = true → C i j) (hg : ∀ p F i j, Rep W p F (g i j) (f i j)) : OpM W (rI C g) (int2 fun i j => if c i j = true then some (f i j) else none) := by
  intro p F H u x y a b Q gd rx ry h
  obtain ⟨d, e, _⟩ := lft_some h
  obtain ⟨i, j, rfl, rfl, e2⟩ := int2_some e
  split at e2
  · rename_i hcc
    cases e2
    exact ⟨i, j, rx.int_, ry.int_, hc i j hcc, OpM.ret gd h e (hg p F i j)⟩
  · cases e2
theorem opm_I0 {W : Wo} {g : Int → Int → V} {f : Int → Int → D} (hg : ∀ p F i j, Rep W p F (g i j) (f i j)) : OpM W (rI0 g) (int2 fun i j => some (f i j)) := by
  intro p F H u x y a b Q gd rx ry h
  obtain ⟨d, e, _⟩ := lft_some h
  obtain ⟨i, j, rfl, rfl, e2⟩ := int2_some e
  cases e2
  exact ⟨i, j, rx.int_, ry.int_, OpM.ret gd h e (hg p F i j)⟩
def subD : D → D → Option D := int2 fun i j => some (.int (i - j))
def ltD : D → D → Option D := int2 fun i j => some (.bl (decide (i < j)))
def leD : D → D → Option D := int2 fun i j => some (.bl (decide (i ≤ j)))
def gtD : D → D → Option D := int2 fun i j => some (.bl (decide (j < i)))
def geD : D → D → Option D := int2 fun i j => some (.bl (decide (j ≤ i)))
def fdivC (_ j : Int) : Bool := decide (0 < j ∧ j.natAbs.log2 < 9000)
def fdivD : D → D → Option D := int2 fun i j => if fdivC i j = true then some (.int (i / j)) else none
def modD : D → D → Option D := int2 fun i j => if decide (0 < j) = true then some (.int (i % j)) else none
def powC (i j : Int) : Bool := decide (0 ≤ j ∧ j ≤ 1000000 ∧ i.natAbs < 18446744073709551616)
def powD : D → D → Option D := int2 fun i j => if powC i j = true then some (.int (i ^ j.toNat)) else none
def CMulA (i j : Int) : Prop := CMul i j ∨ CMulW i j
def mulC (i j : Int) : Bool := decide ((-(2 ^ 64) < i ∧ i < 2 ^ 64) ∨ (-(2 ^ 64) < j ∧ j < 2 ^ 64)) || decide (i.natAbs.log2 + j.natAbs.log2 < 1000000)
theorem mulC_ok {i j : Int} (h : mulC i j = true) : CMulA i j := by
  unfold mulC at h
  rcases Bool.or_eq_true_iff.mp h with h | h
  · exact .inl (of_decide_eq_true (p := (-(2 ^ 64) < i ∧ i < 2 ^ 64) ∨ (-(2 ^ 64) < j ∧ j < 2 ^ 64)) h)
  · exact .inr (of_decide_eq_true (p := i.natAbs.log2 + j.natAbs.log2 < 1000000) h)
theorem CMulA.ok {i j : Int} (h : CMulA i j) : IntMulOk i j := h.elim CMul.ok CMulW.ok
theorem op_mulB {X : Cx} : OpR X (binaryOp .Mult) (rI CMulA fun i j => .int (i * j)) := opI fun _ _ _ _ _ _ _ hc q => mul_int q hc.ok
theorem m_sub {W : Wo} : OpM W (rI0 fun i j => .int (i - j)) subD := opm_I0 fun _ _ _ _ => .int _
theorem m_lt {W : Wo} : OpM W (rI0 fun i j => .bl (decide (i < j))) ltD := opm_I0 fun _ _ _ _ => .bl _
theorem m_le {W : Wo} : OpM W (rI0 fun i j => .bl (decide (i ≤ j))) leD := opm_I0 fun _ _ _ _ => .bl _
theorem m_gt {W : Wo} : OpM W (rI0 fun i j => .bl (decide (j < i))) gtD := opm_I0 fun _ _ _ _ => .bl _
theorem m_ge {W : Wo} : OpM W (rI0 fun i j => .bl (decide (j ≤ i))) geD := opm_I0 fun _ _ _ _ => .bl _
theorem m_fdiv {W : Wo} : OpM W (rI CDivW fun i j => .int (i / j)) fdivD := opm_I (fun i j h => of_decide_eq_true (p := 0 < j ∧ j.natAbs.log2 < 9000) h) fun _ _ _ _ => .int _
theorem m_mod {W : Wo} : OpM W (rI (fun _ j => 0 < j) fun i j => .int (i % j)) modD := opm_I (fun i j h => of_decide_eq_true h) fun _ _ _ _ => .int _
theorem m_pow {W : Wo} : OpM W (rI CPow fun i j => .int (i ^ j.toNat)) powD := opm_I (fun i j h => by
  have := of_decide_eq_true h
  exact ⟨this.1, this.2.1, by have e : (2 : Nat) ^ 64 = 18446744073709551616 := by decide
                              rw [e]; exact this.2.2⟩) fun _ _ _ _ => .int _
/-! ### + and * -/
def addD : D → D → Option D
  | .int a, .int b => some (.int (a + b))
  | .str a, .str b => if a.length + b.length ≤ 10000000 then some (.str (a ++ b)) else none
  | .lst a, .lst b => if a.length + b.length ≤ 100000 then some (.lst (a ++ b)) else none
  | .tup a, .tup b => if a.length + b.length ≤ 100000 then some (.tup (a ++ b)) else none
  | _, _ => none
def rAddA (K : PySem.W.Frag) : R2 := fun x y H Q => rI0 (fun i j => .int (i + j)) x y H Q ∨ (∃ i j, x = .str i ∧ y = .str j ∧ i.length + j.length ≤ sizeLine ∧ Q (.str (i ++ j)) H) ∨ rCat x y H Q ∨ rCatA K x y H Q
theorem op_addA {X : Cx} : OpR X (binaryOp .Add) (rAddA X.K) := op_add.or (op_add_str.or (op_cat.or op_catA))
theorem m_add {W : Wo} : OpM W (rAddA W.K) addD := by
  intro p F H u x y a b Q gd rx ry h
  obtain ⟨d, e, _⟩ := lft_some h
  unfold addD at e
  split at e
  · cases e
    exact .inl ⟨_, _, rx.int_, ry.int_, OpM.ret gd h rfl (.int _)⟩
  · rename_i i j
    split at e
    · rename_i hl
      cases e
      exact .inr (.inl ⟨i, j, rx.str_, ry.str_, Nat.le_trans hl (by decide), OpM.ret gd h (if_pos hl) (.str _)⟩)
    · cases e
  · rename_i xs ys
    split at e
    · rename_i hl
      cases e
      obtain ⟨a, vs, rfl, ha, ra⟩ := rx.lst_
      obtain ⟨b, ws, rfl, hb, rb⟩ := ry.lst_
      exact .inr (.inr (.inl ⟨a, b, vs, ws, rfl, rfl, gd.ex _ _ ha, gd.ex _ _ hb, sz5 (by rw [ra.1, rb.1]; exact hl), fun q hq => OpM.new gd h (if_pos hl) hq fun sm => Rep.mkL upd_same ((ra.mono sm).append (rb.mono sm))⟩))
    · cases e
  · rename_i xs ys
    split at e
    · rename_i hl
      cases e
      obtain ⟨a, vs, rfl, ha, ra⟩ := id rx.tup_
      obtain ⟨b, ws, rfl, hb, rb⟩ := id ry.tup_
      refine .inr (.inr (.inr ⟨a, b, vs, ws, rfl, rfl, sq_t gd.ex ha, sq_t gd.ex hb, sz5 (by rw [ra.1, rb.1]; exact hl), fun z => ?_, fun z z2 => ?_, fun z z2 q hq => OpM.new gd h (if_pos hl) hq fun sm => Rep.mkT upd_same ((ra.mono sm).append (rb.mono sm))⟩))
      · have e0 : xs = [] := List.eq_nil_of_length_eq_zero (by rw [← ra.1, z]; rfl)
        exact OpM.ret gd h (if_pos hl) (by rw [e0]; exact ry)
      · have e0 : ys = [] := List.eq_nil_of_length_eq_zero (by rw [← rb.1, z2]; rfl)
        exact OpM.ret gd h (if_pos hl) (by rw [e0, List.append_nil]; exact rx)
    · cases e
  · cases e
theorem Reps.rep {W : Wo} {p : Addr} {F : Hp} {vs : List V} {ds : List D} (r : Reps W p F vs ds) : ∀ n : Nat, Reps W p F (List.replicate n vs).flatten (List.replicate n ds).flatten
  | 0 => Reps.nil
  | n + 1 => by
    rw [List.replicate_succ, List.replicate_succ, List.flatten_cons, List.flatten_cons]
    exact r.append (Reps.rep r n)
def mulD : D → D → Option D
  | .int a, .int b => if mulC a b = true then some (.int (a * b)) else none
  | .lst a, .int k => if k ≤ 100000 ∧ -100000 ≤ k ∧ a.length * k.toNat ≤ 100000 then some (.lst (List.replicate k.toNat a).flatten) else none
  | _, _ => none
def rMulA : R2 := fun x y H Q => rI CMulA (fun i j => .int (i * j)) x y H Q ∨ rRep x y H Q
theorem op_mulA {X : Cx} : OpR X (binaryOp .Mult) rMulA := op_mulB.or op_rep
theorem m_mul {W : Wo} : OpM W rMulA mulD := by
  intro p F H u x y a b Q gd rx ry h
  obtain ⟨d, e, _⟩ := lft_some h
  unfold mulD at e
  split at e
  · split at e
    · rename_i hc
      cases e
      exact .inl ⟨_, _, rx.int_, ry.int_, mulC_ok hc, OpM.ret gd h (if_pos hc) (.int _)⟩
    · cases e
  · rename_i xs k
    split at e
    · rename_i hl
      cases e
      obtain ⟨a, vs, rfl, ha, ra⟩ := rx.lst_
      refine .inr ⟨a, k, vs, rfl, ry.int_, gd.ex _ _ ha, by omega, by omega, sz5 (by rw [ra.1]; exact hl.2.2), fun q hq => OpM.new gd h (if_pos hl) hq fun sm => Rep.mkL upd_same ((ra.mono sm).rep _)⟩
    · cases e
  · cases e

/-! ### == and != of plain data -/
mutual
def toPD : D → Option PyData
  | .non => some .none
  | .bl b => some (.bool b)
  | .int i => some (.int i)
  | .str x => some (.str x)
  | .tup ds => (toPDs ds).map .tuple
  | .lst ds => (toPDs ds).map .list
  | _ => none
def toPDs : List D → Option (List PyData)
  | [] => some []
  | d :: ds => match toPD d, toPDs ds with
    | some a, some as => some (a :: as)
    | _, _ => none
end
mutual
theorem dp_of {W : Wo} {p : Addr} {F H : Hp} (sm : Same F H) : ∀ (d : D) (v : V) (a : PyData), Rep W p F v d → toPD d = some a → Dp W.K H v a
  | .non, v, a, r, e => by cases e; cases r; exact .non
  | .bl b, v, a, r, e => by cases e; cases r; exact .bl b
  | .int i, v, a, r, e => by cases e; cases r; exact .int i
  | .str x, v, a, r, e => by cases e; cases r; exact .str x
  | .tup ds, v, a, r, e => by
    obtain ⟨q, vs, rfl, h, rs⟩ := r.tup_
    unfold toPD at e
    cases e1 : toPDs ds with
    | none => rw [e1] at e; cases e
    | some as => rw [e1] at e; cases e; exact .tup (sq_t sm h) (dps_of sm ds vs as rs e1)
  | .lst ds, v, a, r, e => by
    obtain ⟨q, vs, rfl, h, rs⟩ := r.lst_
    unfold toPD at e
    cases e1 : toPDs ds with
    | none => rw [e1] at e; cases e
    | some as => rw [e1] at e; cases e; exact .lst (SqL.of (sm _ _ h)) (dps_of sm ds vs as rs e1)
  | .obj _ _ _, v, a, r, e => by cases e
  | .pur, v, a, r, e => by cases e
  | .ty _, v, a, r, e => by cases e
  | .cls _, v, a, r, e => by cases e
theorem dps_of {W : Wo} {p : Addr} {F H : Hp} (sm : Same F H) : ∀ (ds : List D) (vs : List V) (as : List PyData), Reps W p F vs ds → toPDs ds = some as → DpAll W.K H vs as
  | [], vs, as, r, e => by cases e; rw [r.none]; exact .nil
  | d :: ds, vs, as, r, e => by
    obtain ⟨v, vr, rfl, r1, r2⟩ := r.uncons
    unfold toPDs at e
    cases e1 : toPD d with
    | none => rw [e1] at e; cases e
    | some a =>
      cases e2 : toPDs ds with
      | none => rw [e1, e2] at e; cases e
      | some as' =>
        rw [e1, e2] at e
        cases e
        exact .cons (dp_of sm d v a r1 e1) (dps_of sm ds vr as' r2 e2)
end
def eqD : D → D → Option Bool := fun x y => match toPD x, toPD y with
  | some a, some b => if SeqAt.shaped a = true ∧ SeqAt.shaped b = true then some (PyData.eqv a b) else none
  | _, _ => none
def eqMD : D → D → Option D := fun x y => (eqD x y).map .bl
def neMD : D → D → Option D := fun x y => (eqD x y).map fun b => .bl (!b)
theorem eqD_some {W : Wo} {p : Addr} {F H : Hp} {x y : V} {a b : D} {r : Bool} (sm : Same F H) (rx : Rep W p F x a) (ry : Rep W p F y b) (e : eqD a b = some r) : ∃ d d', Dp W.K H x d ∧ Dp W.K H y d' ∧ SeqAt.shaped d = true ∧ SeqAt.shaped d' = true ∧ PyData.eqv d d' = r := by
  unfold eqD at e
  split at e
  · rename_i d d' e1 e2
    split at e
    · rename_i hs
      cases e
      exact ⟨d, d', dp_of sm a x d rx e1, dp_of sm b y d' ry e2, hs.1, hs.2, rfl⟩
    · cases e
  · cases e
theorem m_eq {W : Wo} : OpM W (rEqD W.K) eqMD := by
  intro p F H u x y a b Q gd rx ry h
  obtain ⟨d, e, _⟩ := lft_some h
  unfold eqMD at e
  cases e1 : eqD a b with
  | none => rw [e1] at e; cases e
  | some r =>
    obtain ⟨d1, d2, h1, h2, h3, h4, h5⟩ := eqD_some gd.ex rx ry e1
    refine ⟨d1, d2, h1, h2, h3, h4, ?_⟩
    rw [h5]
    exact OpM.ret gd h (by unfold eqMD; rw [e1]; rfl) (.bl r)
theorem m_ne {W : Wo} : OpM W (rNeD W.K) neMD := by
  intro p F H u x y a b Q gd rx ry h
  obtain ⟨d, e, _⟩ := lft_some h
  unfold neMD at e
  cases e1 : eqD a b with
  | none => rw [e1] at e; cases e
  | some r =>
    obtain ⟨d1, d2, h1, h2, h3, h4, h5⟩ := eqD_some gd.ex rx ry e1
    refine ⟨d1, d2, h1, h2, h3, h4, ?_⟩
    rw [h5]
    exact OpM.ret gd h (by unfold neMD; rw [e1]; rfl) (.bl !r)

/-! ### is, items, slices -/
def isNonD : D → Bool
  | .non => true
  | _ => false
def isD : D → D → Option D := fun x y => match y with
  | .non => some (.bl (isNonD x))
  | .bl b => match x with
    | .bl a => some (.bl (decide (a = b)))
    | _ => none
  | _ => none
def isntD : D → D → Option D := fun x y => match y with
  | .non => some (.bl (!isNonD x))
  | .bl b => match x with
    | .bl a => some (.bl (!decide (a = b)))
    | _ => none
  | _ => none
theorem Rep.isNon {W : Wo} {p : Addr} {F : Hp} {v : V} {d : D} (r : Rep W p F v d) : decide (v = .non) = isNonD d := by
  cases r <;> rfl
def rIsA : R2 := fun x y H Q => (y = .non ∧ Q (.bl (decide (x = .non))) H) ∨ rIsB x y H Q
def rIsntA : R2 := fun x y H Q => (y = .non ∧ Q (.bl (!decide (x = .non))) H) ∨ rNotB x y H Q
theorem op_isA {X : Cx} : OpR X (compareOp .Is) rIsA := op_isN.or op_isBl
theorem op_isntA {X : Cx} : OpR X (compareOp .IsNot) rIsntA := op_notN.or op_notBl
theorem m_is {W : Wo} : OpM W rIsA isD := by
  intro p F H u x y a b Q gd rx ry h
  obtain ⟨d, e, _⟩ := lft_some h
  unfold isD at e
  split at e
  · cases e
    exact .inl ⟨ry.non_, by rw [rx.isNon]; exact OpM.ret gd h rfl (.bl _)⟩
  · split at e
    · rename_i k l
      cases e
      exact .inr ⟨_, _, rx.bl_, ry.bl_, OpM.ret gd h rfl (.bl _)⟩
    · cases e
  · cases e
theorem m_isnt {W : Wo} : OpM W rIsntA isntD := by
  intro p F H u x y a b Q gd rx ry h
  obtain ⟨d, e, _⟩ := lft_some h
  unfold isntD at e
  split at e
  · cases e
    exact .inl ⟨ry.non_, by rw [rx.isNon]; exact OpM.ret gd h rfl (.bl _)⟩
  · split at e
    · rename_i k l
      cases e
      exact .inr ⟨_, _, rx.bl_, ry.bl_, OpM.ret gd h rfl (.bl _)⟩
    · cases e
  · cases e
def ixD : D → D → Option D
  | .lst ds, .int i => atI ds i
  | .tup ds, .int i => atI ds i
  | .scr ns, .int i => (atI ns i).map .int
  | .str x, .int i => if x.length ≤ 10000000 then (atI x.cps.toList i).map fun c => .str ⟨#[c]⟩ else none
  | _, _ => none
theorem atI_map {α β : Type} (f : α → β) (l : List α) (i : Int) : L2.atI (l.map f) i = (L2.atI l i).map f := by
  unfold L2.atI
  rw [List.length_map]
  cases ixN l.length i with
  | none => rfl
  | some n => show (l.map f)[n]? = (l[n]?).map f; rw [List.getElem?_map]
theorem Reps.atI {W : Wo} {p : Addr} {F : Hp} {vs : List V} {ds : List D} {i : Int} {d : D} (r : Reps W p F vs ds) (h : atI ds i = some d) : ∃ v, L2.atI vs i = some v ∧ Rep W p F v d := by
  unfold L2.atI at h ⊢
  rw [r.1]
  cases hj : ixN ds.length i with
  | none => rw [hj] at h; cases h
  | some n =>
    rw [hj] at h
    obtain ⟨v, ev, rv⟩ := r.get h
    exact ⟨v, ev, rv⟩
theorem m_ix {W : Wo} : OpM W (rIx W.K) ixD := by
  intro p F H u x y a b Q gd rx ry h
  obtain ⟨d, e, _⟩ := lft_some h
  unfold ixD at e
  split at e
  · obtain ⟨q, vs, rfl, hq, r⟩ := rx.lst_
    obtain ⟨v, ev, rv⟩ := r.atI e
    exact .inl ⟨q, vs, _, v, rfl, ry.int_, SqL.of (gd.ex _ _ hq), ev, OpM.ret gd h e rv⟩
  · obtain ⟨q, vs, rfl, hq, r⟩ := rx.tup_
    obtain ⟨v, ev, rv⟩ := r.atI e
    exact .inr (.inl ⟨q, vs, _, v, rfl, ry.int_, sq_t gd.ex hq, ev, OpM.ret gd h e rv⟩)
  · rename_i ns i
    obtain ⟨q, rfl, hq⟩ := rx.scr_
    cases e1 : L2.atI ns i with
    | none => rw [e1] at e; cases e
    | some n =>
      rw [e1] at e
      cases e
      exact .inl ⟨q, _, _, .int n, rfl, ry.int_, sq_l gd.ex hq, by rw [atI_map, e1]; rfl, OpM.ret gd h (show (L2.atI ns i).map D.int = some (.int n) by rw [e1]; rfl) (.int n)⟩
  · rename_i z i
    split at e
    · rename_i hl
      cases e1 : L2.atI z.cps.toList i with
      | none => rw [e1] at e; cases e
      | some k =>
        rw [e1] at e
        cases e
        exact .inr (.inr ⟨z, i, k, rx.str_, ry.int_, Nat.le_trans hl (by decide), e1, OpM.ret gd h (show (if z.length ≤ 10000000 then (L2.atI z.cps.toList i).map fun c => D.str ⟨#[c]⟩ else none) = some (.str ⟨#[k]⟩) by rw [if_pos hl, e1]; rfl) (.str _)⟩)
    · cases e
  · cases e
end Mi


set_option Elab.async false
set_option linter.all false
set_option maxRecDepth 100000
set_option maxHeartbeats 2000000
/-! Mi6: mirrors of built-ins, slices, in, isinstance. -/
namespace Mi
open PySem PySem.Spec PyProof.Rows L2

/-! ### flat data -/
def flatD : D → Option V
  | .non => some .non
  | .bl b => some (.bl b)
  | .int i => some (.int i)
  | .str x => some (.str x)
  | _ => none
theorem flatD_rep {W : Wo} {p : Addr} {F : Hp} {v w : V} {d : D} (r : Rep W p F v d) (h : flatD d = some w) : v = w ∧ flatV w = true := by
  cases r <;> first | (cases h; exact ⟨rfl, rfl⟩) | cases h
def flatDs : List D → Option (List V)
  | [] => some []
  | d :: ds => match flatD d, flatDs ds with
    | some a, some as => some (a :: as)
    | _, _ => none
theorem flatDs_rep {W : Wo} {p : Addr} {F : Hp} : ∀ {vs ws : List V} {ds : List D}, Reps W p F vs ds → flatDs ds = some ws → vs = ws ∧ ws.all flatV = true
  | vs, ws, [], r, h => by cases h; rw [r.none]; exact ⟨rfl, rfl⟩
  | vs, ws, d :: ds, r, h => by
    obtain ⟨v, vr, rfl, r1, r2⟩ := r.uncons
    unfold flatDs at h
    split at h
    · rename_i a as e1 e2
      cases h
      obtain ⟨h1, h2⟩ := flatD_rep r1 e1
      obtain ⟨h3, h4⟩ := flatDs_rep r2 e2
      subst h1 h3
      exact ⟨rfl, by rw [List.all_cons, h2, h4]; rfl⟩
    · cases h
def inS (x y : D) : Option Bool := match x, y with
  | .str a, .str z => match a.cps.toList with
    | [c] => some (decide (c ∈ z.cps.toList))
    | _ => none
  | _, _ => none
def inB (x y : D) : Option Bool := match flatD x with
  | some a => match y with
    | .lst ds => (flatDs ds).map fun ws => inV a ws
    | .tup ds => (flatDs ds).map fun ws => inV a ws
    | _ => none
  | none => none
def inA (x y : D) : Option Bool := match y with
  | .str _ => inS x y
  | _ => inB x y
def inD : D → D → Option D := fun x y => (inA x y).map .bl
theorem inB_some {W : Wo} {p : Addr} {F H : Hp} {x y : V} {a b : D} {r : Bool} (sm : Same F H) (rx : Rep W p F x a) (ry : Rep W p F y b) (e : inB a b = some r) :
    ∃ q xs, y = .ref q ∧ (SqL W.K H q xs ∨ SqT W.K H q xs) ∧ flatV x = true ∧ xs.all flatV = true ∧ inV x xs = r := by
  unfold inB at e
  split at e
  · rename_i v hv
    obtain ⟨h1, h2⟩ := flatD_rep rx hv
    subst h1
    split at e
    · rename_i ds
      obtain ⟨q, vs, rfl, hq, rs⟩ := ry.lst_
      cases e1 : flatDs ds with
      | none => rw [e1] at e; cases e
      | some ws =>
        rw [e1] at e
        cases e
        obtain ⟨h3, h4⟩ := flatDs_rep rs e1
        subst h3
        exact ⟨q, vs, rfl, .inl (SqL.of (sm _ _ hq)), h2, h4, rfl⟩
    · rename_i ds
      obtain ⟨q, vs, rfl, hq, rs⟩ := ry.tup_
      cases e1 : flatDs ds with
      | none => rw [e1] at e; cases e
      | some ws =>
        rw [e1] at e
        cases e
        obtain ⟨h3, h4⟩ := flatDs_rep rs e1
        subst h3
        exact ⟨q, vs, rfl, .inr (sq_t sm hq), h2, h4, rfl⟩
    · cases e
  · cases e
theorem inS_some {W : Wo} {p : Addr} {F : Hp} {x y : V} {a b : D} {r : Bool} (rx : Rep W p F x a) (ry : Rep W p F y b) (e : inS a b = some r) :
    ∃ (c : Nat) (z : Str), x = .str ⟨#[c]⟩ ∧ y = .str z ∧ decide (c ∈ z.cps.toList) = r := by
  unfold inS at e
  split at e
  · rename_i i z
    split at e
    · rename_i c hc
      cases e
      refine ⟨c, z, ?_, ry.str_, rfl⟩
      rw [rx.str_]
      congr 1
      cases i with
      | mk cps =>
        have : cps = #[c] := by
          apply Array.toList_inj.mp
          simpa using hc
        rw [this]
    · cases e
  · cases e
def rInA (K : PySem.W.Frag) : R2 := fun x y H Q => rIn K false x y H Q ∨ ∃ (c : Nat) (z : Str), x = .str ⟨#[c]⟩ ∧ y = .str z ∧ Q (.bl (decide (c ∈ z.cps.toList))) H
theorem op_inA {X : Cx} : OpR X (compareOp .In) (rInA X.K) := op_in_seq.or op_in_sign
theorem inA_some {x y : D} {b : Bool} (h : inA x y = some b) : inS x y = some b ∨ inB x y = some b := by
  unfold inA at h
  split at h
  · exact .inl h
  · exact .inr h
theorem m_in {W : Wo} : OpM W (rInA W.K) inD := by
  intro p F H u x y a b Q gd rx ry h
  obtain ⟨d, e, _⟩ := lft_some h
  have e0 := e
  unfold inD at e
  cases e1 : inA a b with
  | none => rw [e1] at e; cases e
  | some r =>
    rw [e1] at e
    cases e
    rcases inA_some e1 with e1 | e1
    · obtain ⟨c, z, rfl, rfl, hr⟩ := inS_some rx ry e1
      exact .inr ⟨c, z, rfl, rfl, by rw [hr]; exact OpM.ret gd h e0 (.bl r)⟩
    · obtain ⟨q, xs, rfl, hq, h1, h2, h3⟩ := inB_some gd.ex rx ry e1
      exact .inl ⟨q, xs, rfl, hq, h1, h2, by rw [h3]; exact OpM.ret gd h e0 (.bl r)⟩
/-! ### slices -/
abbrev MO := Env → M (Option Int)
def rdO (c : Cf) (m : MO) : TO := fun σ H Q => ∃ F u ρ, Sta c u F H σ ρ ∧ After c.p F H (m ρ u) fun o _ _ H' => Q o H'
def mOn : MO := fun _ => M.pure none
def mOs (m : ME) : MO := fun ρ => M.bind (m ρ) fun d => match d with
  | .int i => M.pure (some i)
  | _ => lft none
def cutD (xs : List D) (lo hi : Option Int) : List D := (xs.drop (HT.sIx xs.length 0 lo)).take (HT.sIx xs.length xs.length hi - HT.sIx xs.length 0 lo)
def slD (d : D) (lo hi : Option Int) : Option D := match d with
  | .lst ds => some (.lst (cutD ds lo hi))
  | .tup ds => some (.tup (cutD ds lo hi))
  | .scr ns => some (.lst (cutD (ns.map .int) lo hi))
  | .str x => if x.length ≤ 10000000 then some (.str (cutS x lo hi)) else none
  | _ => none
def mSl (m : ME) (ml mh : MO) : ME := fun ρ => M.bind (m ρ) fun d => M.bind (ml ρ) fun lo => M.bind (mh ρ) fun hi => lft (slD d lo hi)
theorem Reps.drop {W : Wo} {p : Addr} {F : Hp} {vs : List V} {ds : List D} (r : Reps W p F vs ds) (n : Nat) : Reps W p F (vs.drop n) (ds.drop n) :=
  ⟨by simp [r.1], fun i v d h1 h2 => r.2 (n + i) v d (by rw [List.getElem?_drop] at h1; exact h1) (by rw [List.getElem?_drop] at h2; exact h2)⟩
theorem Reps.take {W : Wo} {p : Addr} {F : Hp} {vs : List V} {ds : List D} (r : Reps W p F vs ds) (n : Nat) : Reps W p F (vs.take n) (ds.take n) := by
  refine ⟨by simp [r.1], fun i v d h1 h2 => ?_⟩
  by_cases hi : i < n
  · rw [List.getElem?_take_of_lt hi] at h1 h2
    exact r.2 i v d h1 h2
  · rw [List.getElem?_eq_none (by simp; omega)] at h1
    cases h1
theorem Reps.cut {W : Wo} {p : Addr} {F : Hp} {vs : List V} {ds : List D} (r : Reps W p F vs ds) (lo hi : Option Int) : Reps W p F (cutV vs lo hi) (cutD ds lo hi) := by
  unfold cutV cutD
  rw [r.1]
  exact (r.drop _).take _
theorem Reps.reverse {W : Wo} {p : Addr} {F : Hp} {vs : List V} {ds : List D} (r : Reps W p F vs ds) : Reps W p F vs.reverse ds.reverse := by
  refine ⟨by simp [r.1], fun i v d h1 h2 => ?_⟩
  have hi : i < vs.length := by
    have := (List.getElem?_eq_some_iff.mp h1).1
    simpa using this
  rw [List.getElem?_reverse hi] at h1
  rw [List.getElem?_reverse (by rw [← r.1]; exact hi), ← r.1] at h2
  exact r.2 _ v d h1 h2
theorem reps_ints {W : Wo} {p : Addr} {F : Hp} (ns : List Int) : Reps W p F (ns.map V.int) (ns.map D.int) := by
  induction ns with
  | nil => exact Reps.nil
  | cons n ns ih => exact Reps.cons (.int n) ih
def rSlAll (K : PySem.W.Frag) : V → Option Int → Option Int → Hp → VK → Prop := fun x lo hi H Q => rSlL K x lo hi H Q ∨ rSlA K x lo hi H Q ∨ rSlS x lo hi H Q
theorem cutD_whole {xs : List D} {lo hi : Option Int} (h : HT.sIx xs.length 0 lo = 0 ∧ HT.sIx xs.length xs.length hi = xs.length) : cutD xs lo hi = xs := by
  unfold cutD
  rw [h.1, h.2]
  simp
section
variable {X : Cx} {c : Cf} {e : Expr} {lo hi : Option Expr} {m : ME} {ml mh : MO} {pos p2 : Pos}
theorem dOn : PO X none (rdO c mOn) := by
  have h := po_none (X := X)
  exact ⟨fun pins s σ H Q I ⟨F, u, ρ, S, q⟩ => h.run pins s σ H Q I (After.now S.gd q)⟩
theorem dOs (he : DE X c e m) : PO X (some e) (rdO c (mOs m)) := by
  have h := po_some he
  refine ⟨fun pins s σ H Q I ⟨F, u, ρ, S, q⟩ => h.run pins s σ H Q I ⟨F, u, ρ, S, (After.split q).imp fun d u1 F1 H1 _ s1 g1 h1 v rv => ?_⟩⟩
  cases d with
  | int i =>
    have h2 : After c.p F1 H1 (some (some i, u1)) (fun o _ _ H' => Q o H') := h1
    exact ⟨i, rv.int_, After.now g1 h2⟩
  | _ => exact False.elim h1
theorem sl_all : SlR X (rSlAll X.K) := sl_list.or (sl_tupA.or sl_str)
theorem dSl (he : DE X c e m) (hl : PO X lo (rdO c ml)) (hh : PO X hi (rdO c mh)) (hK : X.K = c.W.K := by rfl) : DE X c (.Subscript e (.Slice lo hi none p2) pos) (mSl m ml mh) :=
  (pe_slice sl_all he hl hh).imp fun σ H Q ⟨F, u, ρ, S, h⟩ => ⟨F, u, ρ, S, (After.split h).imp fun d u1 F1 H1 _ s1 g1 h1 v rv => ⟨F1, u1, ρ, S.step s1 g1, (After.split h1).imp fun l u2 F2 H2 _ s2 g2 h2 => ⟨F2, u2, ρ, (S.step s1 g1).step s2 g2, (After.split h2).imp fun r u3 F3 H3 _ s3 g3 h3 => by
    have rv := rv.mono (s2.ef.trans s3.ef)
    obtain ⟨z, e1, _⟩ := lft_some h3
    rw [hK]
    unfold slD at e1
    split at e1
    · cases e1
      obtain ⟨a, vs, rfl, ha, ra⟩ := rv.lst_
      exact .inl ⟨a, vs, rfl, SqL.of (g3.ex _ _ ha), fun q hq => OpM.new g3 h3 rfl hq fun sm => Rep.mkL upd_same ((ra.mono sm).cut l r)⟩
    · cases e1
      obtain ⟨a, vs, rfl, ha, ra⟩ := id rv.tup_
      refine .inr (.inl ⟨a, vs, rfl, sq_t g3.ex ha, fun hw => ?_, fun _ q hq => OpM.new g3 h3 rfl hq fun sm => Rep.mkT upd_same ((ra.mono sm).cut l r)⟩)
      rw [ra.1] at hw
      exact OpM.ret g3 h3 rfl (by rw [cutD_whole hw]; exact rv)
    · rename_i ns _h _h2
      cases e1
      obtain ⟨a, rfl, ha⟩ := rv.scr_
      exact .inl ⟨a, _, rfl, sq_l g3.ex ha, fun q hq => OpM.new g3 h3 rfl hq fun sm => Rep.mkL upd_same ((reps_ints ns).cut l r)⟩
    · rename_i x _h _h2
      split at e1
      · rename_i hl
        cases e1
        exact .inr (.inr ⟨x, rv.str_, Nat.le_trans hl (by decide), OpM.ret g3 h3 (if_pos hl) (.str _)⟩)
      · cases e1
    · cases e1⟩⟩⟩
end

/-! ### built-ins -/
def lenD : List D → Option D := fun ds => match ds with
  | [.lst xs] => some (.int xs.length)
  | [.tup xs] => some (.int xs.length)
  | [.scr ns] => some (.int ns.length)
  | [.str x] => if x.length ≤ 10000000 then some (.int x.length) else none
  | _ => none
def rLenA (K : PySem.W.Frag) : List V → Hp → VK → Prop := fun xs H Q => (∃ p ys, xs = [.ref p] ∧ (SqL K H p ys ∨ SqT K H p ys) ∧ Q (.int ys.length) H) ∨ ∃ z, xs = [.str z] ∧ z.length ≤ sizeLine ∧ Q (.int z.length) H
theorem call_lenA {X : Cx} : CallR X (.builtin "len") (rLenA X.K) := call_len_seq.or call_len_str
theorem Reps.one {W : Wo} {p : Addr} {F : Hp} {vs : List V} {d : D} (r : Reps W p F vs [d]) : ∃ v, vs = [v] ∧ Rep W p F v d := by
  obtain ⟨v, vr, rfl, h, r2⟩ := r.uncons
  rw [r2.none]
  exact ⟨v, rfl, h⟩
theorem Reps.two {W : Wo} {p : Addr} {F : Hp} {vs : List V} {a b : D} (r : Reps W p F vs [a, b]) : ∃ v w, vs = [v, w] ∧ Rep W p F v a ∧ Rep W p F w b := by
  obtain ⟨v, vr, rfl, h, r2⟩ := r.uncons
  obtain ⟨w, rfl, h2⟩ := r2.one
  exact ⟨v, w, rfl, h, h2⟩
theorem m_len {W : Wo} : CallM W (rLenA W.K) lenD := by
  intro p F H u xs as Q gd r h
  obtain ⟨d, e, _⟩ := lft_some h
  unfold lenD at e
  split at e
  · cases e
    obtain ⟨v, rfl, rv⟩ := r.one
    obtain ⟨q, vs, rfl, hq, rs⟩ := rv.lst_
    exact .inl ⟨q, vs, rfl, .inl (SqL.of (gd.ex _ _ hq)), OpM.ret gd h rfl (by rw [rs.1]; exact .int _)⟩
  · cases e
    obtain ⟨v, rfl, rv⟩ := r.one
    obtain ⟨q, vs, rfl, hq, rs⟩ := rv.tup_
    exact .inl ⟨q, vs, rfl, .inr (sq_t gd.ex hq), OpM.ret gd h rfl (by rw [rs.1]; exact .int _)⟩
  · rename_i ns
    cases e
    obtain ⟨v, rfl, rv⟩ := r.one
    obtain ⟨q, rfl, hq⟩ := rv.scr_
    exact .inl ⟨q, _, rfl, .inl (sq_l gd.ex hq), OpM.ret gd h rfl (by rw [List.length_map]; exact .int _)⟩
  · rename_i x
    split at e
    · rename_i hl
      cases e
      obtain ⟨v, rfl, rv⟩ := r.one
      exact .inr ⟨x, by rw [rv.str_], Nat.le_trans hl (by decide), OpM.ret gd h (if_pos hl) (.int _)⟩
    · cases e
  · cases e
/-- ints out of data -/
def intsD : List D → Option (List Int)
  | [] => some []
  | .int i :: ds => (intsD ds).map (i :: ·)
  | _ => none
theorem intsD_rep {W : Wo} {p : Addr} {F : Hp} : ∀ {vs : List V} {ds : List D} {ns : List Int}, Reps W p F vs ds → intsD ds = some ns → vs = ns.map V.int
  | vs, [], ns, r, h => by cases h; exact r.none
  | vs, d :: ds, ns, r, h => by
    obtain ⟨v, vr, rfl, r1, r2⟩ := r.uncons
    cases d with
    | int i =>
      have h' : (intsD ds).map (i :: ·) = some ns := h
      cases e : intsD ds with
      | none => rw [e] at h'; cases h'
      | some ms =>
        rw [e] at h'
        cases h'
        rw [r1.int_, intsD_rep r2 e]
        rfl
    | _ => cases h
theorem intsD_map (ns : List Int) : intsD (ns.map D.int) = some ns := by
  induction ns with
  | nil => rfl
  | cons n ns ih => show (intsD (ns.map D.int)).map (n :: ·) = _; rw [ih]; rfl
/-- the greatest, the least of a list -/
def maxL : List Int → Int
  | [] => 0
  | [a] => a
  | a :: b :: r => max a (maxL (b :: r))
def minL : List Int → Int
  | [] => 0
  | [a] => a
  | a :: b :: r => min a (minL (b :: r))
theorem maxL_mem : ∀ {ns : List Int}, ns ≠ [] → maxL ns ∈ ns ∧ ∀ y ∈ ns, y ≤ maxL ns
  | [], h => absurd rfl h
  | [a], _ => by simp [maxL]
  | a :: b :: r, _ => by
    obtain ⟨h1, h2⟩ := maxL_mem (ns := b :: r) (by simp)
    refine ⟨?_, fun y hy => ?_⟩
    · show max a (maxL (b :: r)) ∈ a :: b :: r
      by_cases hm : a ≤ maxL (b :: r)
      · rw [Int.max_eq_right hm]; exact List.mem_cons_of_mem _ h1
      · rw [Int.max_eq_left (by omega)]; exact List.mem_cons_self ..
    · show y ≤ max a (maxL (b :: r))
      rcases List.mem_cons.mp hy with rfl | hy
      · exact Int.le_max_left ..
      · exact Int.le_trans (h2 y hy) (Int.le_max_right ..)
theorem minL_mem : ∀ {ns : List Int}, ns ≠ [] → minL ns ∈ ns ∧ ∀ y ∈ ns, minL ns ≤ y
  | [], h => absurd rfl h
  | [a], _ => by simp [minL]
  | a :: b :: r, _ => by
    obtain ⟨h1, h2⟩ := minL_mem (ns := b :: r) (by simp)
    refine ⟨?_, fun y hy => ?_⟩
    · show min a (minL (b :: r)) ∈ a :: b :: r
      by_cases hm : minL (b :: r) ≤ a
      · rw [Int.min_eq_right hm]; exact List.mem_cons_of_mem _ h1
      · rw [Int.min_eq_left (by omega)]; exact List.mem_cons_self ..
    · show min a (minL (b :: r)) ≤ y
      rcases List.mem_cons.mp hy with rfl | hy
      · exact Int.min_le_left ..
      · exact Int.le_trans (Int.min_le_right ..) (h2 y hy)
theorem maxL_is {ns : List Int} {m : Int} (h1 : m ∈ ns) (h2 : ∀ y ∈ ns, y ≤ m) : maxL ns = m := by
  have hne : ns ≠ [] := fun e => by rw [e] at h1; cases h1
  obtain ⟨h3, h4⟩ := maxL_mem hne
  have := h2 _ h3
  have := h4 _ h1
  omega
theorem minL_is {ns : List Int} {m : Int} (h1 : m ∈ ns) (h2 : ∀ y ∈ ns, m ≤ y) : minL ns = m := by
  have hne : ns ≠ [] := fun e => by rw [e] at h1; cases h1
  obtain ⟨h3, h4⟩ := minL_mem hne
  have := h2 _ h3
  have := h4 _ h1
  omega
def maxD : List D → Option D := fun ds => match ds with
  | [.lst xs] => match intsD xs with
    | some (n :: ns) => some (.int (maxL (n :: ns)))
    | _ => none
  | [.int a, .int b] => some (.int (if b > a then b else a))
  | _ => none
def minD : List D → Option D := fun ds => match ds with
  | [.lst xs] => match intsD xs with
    | some (n :: ns) => some (.int (minL (n :: ns)))
    | _ => none
  | [.int a, .int b] => some (.int (if b < a then b else a))
  | _ => none
def rMaxA (K : PySem.W.Frag) : List V → Hp → VK → Prop := fun vs H Q => rMax K vs H Q ∨ ∃ i j, vs = [.int i, .int j] ∧ Q (.int (if j > i then j else i)) H
def rMinA (K : PySem.W.Frag) : List V → Hp → VK → Prop := fun vs H Q => rMin K vs H Q ∨ ∃ i j, vs = [.int i, .int j] ∧ Q (.int (if j < i then j else i)) H
theorem cr_maxA {X : Cx} (hc : X.calm = true) : CallR X (.builtin "max") (rMaxA X.K) := (cr_max hc).or (call_max2 hc)
theorem cr_minA {X : Cx} (hc : X.calm = true) : CallR X (.builtin "min") (rMinA X.K) := (cr_min hc).or (call_min2 hc)
theorem m_max {W : Wo} : CallM W (rMaxA W.K) maxD := by
  intro p F H u xs as Q gd r h
  obtain ⟨d, e, _⟩ := lft_some h
  have e0 := e
  unfold maxD at e
  split at e
  · rename_i ds
    split at e
    · rename_i n ns e1
      cases e
      obtain ⟨v, rfl, rv⟩ := r.one
      obtain ⟨q, vs, rfl, hq, rs⟩ := rv.lst_
      refine .inl ⟨q, n :: ns, rfl, SqL.of (by rw [← intsD_rep rs e1]; exact gd.ex _ _ hq), by simp, fun m hm hle => ?_⟩
      rw [← maxL_is hm hle]
      exact OpM.ret gd h e0 (.int _)
    · cases e
  · rename_i i j
    cases e
    obtain ⟨v, w, rfl, rv, rw⟩ := r.two
    exact .inr ⟨i, j, by rw [rv.int_, rw.int_], OpM.ret gd h e0 (.int _)⟩
  · cases e
theorem m_min {W : Wo} : CallM W (rMinA W.K) minD := by
  intro p F H u xs as Q gd r h
  obtain ⟨d, e, _⟩ := lft_some h
  have e0 := e
  unfold minD at e
  split at e
  · rename_i ds
    split at e
    · rename_i n ns e1
      cases e
      obtain ⟨v, rfl, rv⟩ := r.one
      obtain ⟨q, vs, rfl, hq, rs⟩ := rv.lst_
      refine .inl ⟨q, n :: ns, rfl, SqL.of (by rw [← intsD_rep rs e1]; exact gd.ex _ _ hq), by simp, fun m hm hle => ?_⟩
      rw [← minL_is hm hle]
      exact OpM.ret gd h e0 (.int _)
    · cases e
  · rename_i i j
    cases e
    obtain ⟨v, w, rfl, rv, rw⟩ := r.two
    exact .inr ⟨i, j, by rw [rv.int_, rw.int_], OpM.ret gd h e0 (.int _)⟩
  · cases e
def blsD : List D → Option (List Bool)
  | [] => some []
  | .bl i :: ds => (blsD ds).map (i :: ·)
  | _ => none
theorem blsD_rep {W : Wo} {p : Addr} {F : Hp} : ∀ {vs : List V} {ds : List D} {ns : List Bool}, Reps W p F vs ds → blsD ds = some ns → vs = ns.map V.bl
  | vs, [], ns, r, h => by cases h; exact r.none
  | vs, d :: ds, ns, r, h => by
    obtain ⟨v, vr, rfl, r1, r2⟩ := r.uncons
    cases d with
    | bl i =>
      have h' : (blsD ds).map (i :: ·) = some ns := h
      cases e : blsD ds with
      | none => rw [e] at h'; cases h'
      | some ms =>
        rw [e] at h'
        cases h'
        rw [r1.bl_, blsD_rep r2 e]
        rfl
    | _ => cases h
theorem blsD_map (ns : List Bool) : blsD (ns.map D.bl) = some ns := by
  induction ns with
  | nil => rfl
  | cons n ns ih => show (blsD (ns.map D.bl)).map (n :: ·) = _; rw [ih]; rfl
def allD : List D → Option D := fun ds => match ds with
  | [.lst xs] => (blsD xs).map fun bs => .bl (bs.all id)
  | _ => none
theorem m_all {W : Wo} : CallM W (rAll W.K) allD := by
  intro p F H u xs as Q gd r h
  obtain ⟨d, e, _⟩ := lft_some h
  have e0 := e
  unfold allD at e
  split at e
  · rename_i ds
    cases e1 : blsD ds with
    | none => rw [e1] at e; cases e
    | some bs =>
      rw [e1] at e
      cases e
      obtain ⟨v, rfl, rv⟩ := r.one
      obtain ⟨q, vs, rfl, hq, rs⟩ := rv.lst_
      exact ⟨q, bs, rfl, SqL.of (by rw [← blsD_rep rs e1]; exact gd.ex _ _ hq), OpM.ret gd h e0 (.bl _)⟩
  · cases e
def absD : List D → Option D := fun ds => match ds with
  | [.int i] => some (.int (if i < 0 then -i else i))
  | _ => none
theorem m_abs {W : Wo} : CallM W (fun xs H Q => ∃ i, xs = [.int i] ∧ Q (.int (if i < 0 then -i else i)) H) absD := by
  intro p F H u xs as Q gd r h
  obtain ⟨d, e, _⟩ := lft_some h
  have e0 := e
  unfold absD at e
  split at e
  · rename_i i
    cases e
    obtain ⟨v, rfl, rv⟩ := r.one
    exact ⟨i, by rw [rv.int_], OpM.ret gd h e0 (.int _)⟩
  · cases e
/-- int(n) of an int -/
def int1D : List D → Option D := fun ds => match ds with
  | [.int i] => some (.int i)
  | _ => none
theorem m_int1 {W : Wo} : CallM W (fun xs H Q => (∃ i, xs = [.int i] ∧ Q (.int i) H) ∨ ∃ k, xs = [.bl k] ∧ Q (.int (if k then 1 else 0)) H) int1D := by
  intro p F H u xs as Q gd r h
  obtain ⟨d, e, _⟩ := lft_some h
  have e0 := e
  unfold int1D at e
  split at e
  · rename_i i
    cases e
    obtain ⟨v, rfl, rv⟩ := r.one
    exact .inl ⟨i, by rw [rv.int_], OpM.ret gd h e0 (.int _)⟩
  · cases e
def strID : List D → Option D := fun ds => match ds with
  | [.int i] => if i.natAbs.log2 < 1920 then some (.str (toString i)) else none
  | _ => none
theorem m_strI {W : Wo} : CallM W (fun xs H Q => ∃ i, xs = [.int i] ∧ i.natAbs.log2 < 1920 ∧ Q (.str (toString i)) H) strID := by
  intro p F H u xs as Q gd r h
  obtain ⟨d, e, _⟩ := lft_some h
  have e0 := e
  unfold strID at e
  split at e
  · rename_i i
    split at e
    · rename_i hl
      cases e
      obtain ⟨v, rfl, rv⟩ := r.one
      exact ⟨i, by rw [rv.int_], hl, OpM.ret gd h e0 (.str _)⟩
    · cases e
  · cases e
def tupD : List D → Option D := fun ds => match ds with
  | [.lst xs] => some (.tup xs)
  | [.tup xs] => some (.tup xs)
  | _ => none
theorem m_tup {W : Wo} : CallM W (fun xs H Q => ∃ p ys, xs = [.ref p] ∧ ((SqL W.K H p ys ∧ ∀ l, H l = none → Q (.ref l) (upd H l (.tup ys))) ∨ (SqT W.K H p ys ∧ Q (.ref p) H))) tupD := by
  intro p F H u xs as Q gd r h
  obtain ⟨d, e, _⟩ := lft_some h
  have e0 := e
  unfold tupD at e
  split at e
  · cases e
    obtain ⟨v, rfl, rv⟩ := r.one
    obtain ⟨q, vs, rfl, hq, rs⟩ := rv.lst_
    exact ⟨q, vs, rfl, .inl ⟨SqL.of (gd.ex _ _ hq), fun l hl => OpM.new gd h e0 hl fun sm => Rep.mkT upd_same (rs.mono sm)⟩⟩
  · cases e
    obtain ⟨v, rfl, rv⟩ := r.one
    obtain ⟨q, vs, rfl, hq, rs⟩ := id rv.tup_
    exact ⟨q, vs, rfl, .inr ⟨sq_t gd.ex hq, OpM.ret gd h e0 rv⟩⟩
  · cases e
def dmC (i j : Int) : Bool := decide (0 < j) && !Builtin.divisionGoesByPylong i j
def dmD : List D → Option D := fun ds => match ds with
  | [.int i, .int j] => if dmC i j = true then some (.tup [.int (i / j), .int (i % j)]) else none
  | _ => none
theorem m_dm {W : Wo} : CallM W (fun xs H Q => ∃ i j, xs = [.int i, .int j] ∧ CDivP i j ∧ ∀ p, H p = none → Q (.ref p) (upd H p (.tup [.int (i / j), .int (i % j)]))) dmD := by
  intro p F H u xs as Q gd r h
  obtain ⟨d, e, _⟩ := lft_some h
  have e0 := e
  unfold dmD at e
  split at e
  · rename_i i j
    split at e
    · rename_i hc
      cases e
      obtain ⟨v, w, rfl, rv, rw⟩ := r.two
      have hcc := Bool.and_eq_true_iff.mp (show (decide (0 < j) && !Builtin.divisionGoesByPylong i j) = true from hc)
      exact ⟨i, j, by rw [rv.int_, rw.int_], ⟨of_decide_eq_true hcc.1, by have := hcc.2; simpa using this⟩, fun l hl => OpM.new gd h e0 hl fun sm => Rep.mkT upd_same (Reps.cons (.int _) (Reps.cons (.int _) Reps.nil))⟩
    · cases e
  · cases e

/-! ### isinstance -/
def tyN : D → Option String
  | .non => some "NoneType"
  | .bl _ => some "bool"
  | .int _ => some "int"
  | .str _ => some "str"
  | .tup _ => some "tuple"
  | .lst _ => some "list"
  | _ => none
/-- the package's classes: which is under which -/
def subC (c k : Str) : Bool := decide (c = k) || (decide (k = "Rule") && (decide (c = "Drain") || decide (c = "Units") || decide (c = "Spare")))
/-- what isinstance asks of the classes -/
structure IsiOk (W : Wo) : Prop where
  ty : ∀ c ∈ W.cs, ∀ (H : Hp) (a dx : Addr) (fs : List (Str × V)), H a = some (.ins (W.cl c) dx fs) → TyOf W.K H (.ref a) (.ref (W.cl c))
  own : ∀ c ∈ W.cs, ∀ k ∈ W.cs, PySem.W.kitOne W.K (.ref (W.cl c)) (.ref (W.cl k)) = some (subC c k)
  bi : ∀ a ∈ ["NoneType", "bool", "int", "str", "tuple", "list"], ∀ k ∈ W.cs, PySem.W.kitOne W.K (.type a) (.ref (W.cl k)) = some false
  ob : ∀ c ∈ W.cs, ∀ n ∈ ["int", "bool", "str", "tuple", "list"], PySem.W.kitOne W.K (.ref (W.cl c)) (.type n) = some false
def isiB (x y : D) : Option Bool := match y with
  | .ty n => match tyN x with
    | some a => if decide (n ∈ ["int", "bool", "str", "tuple", "list"]) = true then kitB a n else none
    | none => match x with
      | .obj _ _ _ => if n ∈ ["int", "bool", "str", "tuple", "list"] then some false else none
      | _ => none
  | .cls k => match tyN x with
    | some _ => some false
    | none => match x with
      | .obj c _ _ => some (subC c k)
      | _ => none
  | _ => none
def isiD : List D → Option D := fun ds => match ds with
  | [x, y] => (isiB x y).map .bl
  | _ => none
theorem tyN_mem {x : D} {a : String} (h : tyN x = some a) : a ∈ ["NoneType", "bool", "int", "str", "tuple", "list"] := by
  cases x <;> first | (cases h; decide) | cases h
theorem tyN_ty {W : Wo} {p : Addr} {F H : Hp} {v : V} {x : D} {a : String} (sm : Same F H) (r : Rep W p F v x) (h : tyN x = some a) : TyX W.K H v (.type a) := by
  cases r with
  | non => cases h; exact .base .non
  | bl b => cases h; exact .base (.bl b)
  | int i => cases h; exact .base (.int i)
  | str i => cases h; exact .base (.str i)
  | tup ht _ _ =>
    cases h
    rcases ht with (ht | ⟨o, ht⟩) | ⟨o, its, n, hk, hc, _⟩
    · exact .base (.tup (sm _ _ ht))
    · exact .fTuple (sm _ _ ht)
    · exact .kTuple hk hc
  | lst ht _ _ => cases h; exact .base (.lst (sm _ _ ht))
  | _ => cases h
theorem m_isi {W : Wo} (I : IsiOk W) : CallM W (rIsi W.K) isiD := by
  intro p F H u xs as Q gd r h
  obtain ⟨d, e, _⟩ := lft_some h
  have e0 := e
  unfold isiD at e
  split at e
  case h_2 => cases e
  rename_i x y
  obtain ⟨v, w, rfl, rv, rw⟩ := r.two
  cases e1 : isiB x y with
  | none => rw [e1] at e; cases e
  | some b =>
    rw [e1] at e
    cases e
    have fin : Q (.bl b) H := OpM.ret gd h e0 (.bl b)
    unfold isiB at e1
    split at e1
    · rename_i n
      have hw := rw.ty_
      subst hw
      split at e1
      · rename_i a ha
        split at e1
        · exact ⟨v, .ty n, .type a, .type n, b, rfl, .ty n, tyN_ty gd.ex rv ha, kit_ty e1, fin⟩
        · cases e1
      · split at e1
        · rename_i c ks ds _
          split at e1
          · rename_i hh
            cases e1
            have hcc := rv.objc
            obtain ⟨a, dx, vs, rfl, ha, _⟩ := rv.obj_
            exact ⟨_, .ty n, _, .type n, false, rfl, .ty n, .base (I.ty c hcc H a dx _ (gd.ex _ _ ha)), I.ob c hcc n hh, fin⟩
          · cases e1
        · cases e1
    · rename_i k
      obtain ⟨hw, hk⟩ := rw.cls_
      subst hw
      split at e1
      · rename_i a ha
        cases e1
        exact ⟨v, .ref (W.cl k), .type a, .ref (W.cl k), false, rfl, .own _, tyN_ty gd.ex rv ha, I.bi a (tyN_mem ha) k hk, fin⟩
      · split at e1
        · rename_i c ks ds _
          cases e1
          have hcc := rv.objc
          obtain ⟨a, dx, vs, rfl, ha, _⟩ := rv.obj_
          exact ⟨_, .ref (W.cl k), _, .ref (W.cl k), _, rfl, .own _, .base (I.ty c hcc H a dx _ (gd.ex _ _ ha)), I.own c hcc k hk, fin⟩
        · cases e1
    · cases e1
end Mi



set_option Elab.async false
set_option linter.all false
set_option maxRecDepth 100000
set_option maxHeartbeats 4000000
/-! Mi8: objects made, == and != by an own __eq__, len by an own __len__, static methods. -/
namespace Mi
open PySem PySem.Spec PyProof.Rows L2

/-! ### a def called from within a built-in -/
section
variable {X : Cx} {k : Nat} {f : Addr} {fd : FuncData} {ps : List Str} {sp : Sp}
theorem call_at {A : Around} {pins : List (Addr × Obj)} {σ : L2.St} {H : Hp} {s : Shared} {us : List Value} {vs : List V} {Q : VK} {E' : Value → Shared → Prop} (G : FnOk X.prog X.w X.K X.mg X.base CX0 k f fd ps sp) (hr : Room k A) (hfr : A.frames = X.A.frames) (hb : Binds X.K fd ps [])
    (I : Inv X pins σ H s) (r : Vals vs us) (h : sp vs H Q E0) : wpAny (model X.prog X.w) A (call (.ref f) us) (EP X pins σ Q) E' s := by
  have hl := G.len _ _ _ _ h
  have e0 : Env0 X.prog X.w X.K X.mg X.base A X.stack s H := by
    have e := I.env0
    exact ⟨by rw [hfr]; exact e.frames, e.mod, e.bs, e.bsz, e.funs, e.frf, e.hok, e.bare⟩
  refine wpAny_call (codeAny_mono (G.run A X.stack s H ⟨us, []⟩ us vs Q E0 hr e0 (by
    have := hb s us I.kIn (by simpa [← r.length] using hl)
    simpa using this) r h) fun r s' hq => ?_)
  cases r with
  | error e => exact False.elim hq
  | ok fl =>
    cases fl with
    | ret u => exact I.after hq
    | next => exact False.elim hq
    | brk => exact False.elim hq
    | cont => exact False.elim hq
end

/-! ### == and != of two objects of one class -/
/-- what is asked of the class for == -/
structure EqC (K : PySem.W.Frag) (C f : Addr) : Prop where
  eq : PySem.W.findIn K (.ref C) "__eq__" = some (some (.ref f))
  fn : PySem.W.isFn K (.ref f) = true
  ne : PySem.W.findIn K (.ref C) "__ne__" = some (some (.builtin "object.__ne__"))
  mro : PySem.W.mroIn K C (.type "object") = some true
def mEqO (k : Str) (mf : List D → M D) (ma mb : ME) : ME := fun ρ => M.bind (ma ρ) fun x => M.bind (mb ρ) fun y => match x, y with
  | .obj c ks ds, .obj c' ks' ds' => if c = k ∧ c' = k then M.bind (mf [.obj c ks ds, .obj c' ks' ds']) fun r => match r with
    | .bl b => M.pure (.bl b)
    | _ => lft none
    else lft none
  | _, _ => lft none
/-- both operands are instances of the class at C, then its own == -/
def rOwn (C : Addr) (g : Bool → Bool) (sp : Sp) : R2 := fun x y H Q => ∃ a b dx dy fs gs, x = .ref a ∧ y = .ref b ∧ H a = some (.ins C dx fs) ∧ H b = some (.ins C dy gs) ∧ sp [.ref a, .ref b] H (fun v H' => ∃ c, v = .bl c ∧ Q (.bl (g c)) H') E0
section
variable {X : Cx} {k : Nat} {f C : Addr} {fd : FuncData} {ps : List Str} {sp : Sp}
theorem op_eqOwn (G : FnOk X.prog X.w X.K X.mg X.base CX0 k f fd ps sp) (hr : Room k X.A) (hb : Binds X.K fd ps []) (hc : EqC X.K C f) : OpR X (compareOp .Eq) (rOwn C id sp) := by
  intro pins s σ H x y v u Q I rx ry h
  obtain ⟨a, b, dx, dy, fs, gs, rfl, rfl, ha, hb', q⟩ := h
  cases rx
  cases ry
  obtain ⟨mA, J, _⟩ := ins_get I.hok ha
  obtain ⟨mB, J', _⟩ := ins_get I.hok hb'
  obtain ⟨od, J, _⟩ := J.look
  obtain ⟨od', J', _⟩ := J'.look
  obtain ⟨m, hF⟩ := I.fr
  show wpAny (model X.prog X.w) X.A (richCompare .Eq (.ref a) (.ref b)) (EP X pins σ Q) X.xe s
  refine PySem.W.cmp_K (op := .Eq) (tb := .ref C) hr.units0 hF I.ok.mod.kin J J'.type (by simp [PySem.W.notFirst]) hc.eq hc.fn ?_
  refine wpAny_mono (call_at (vs := [.ref a, .ref b]) G hr rfl hb I (.cons rfl (.cons rfl .nil)) q) (fun v s' z => ?_) fun _ _ z => z
  obtain ⟨w, H', I', rw, c, ew, qq⟩ := z
  subst ew
  cases rw
  exact ⟨.bl c, H', I', rfl, qq⟩
end
section
variable {X : Cx} {c : Cf} {k : Nat} {f : Addr} {fd : FuncData} {ps : List Str} {mf : List D → M D} {ck : Str} {a b : Expr} {ma mb : ME} {pos : Pos}
/-! ### len of an object -/
end

/-! ### static methods called off the class -/
section
variable {X : Cx} {c : Cf} {k n : Nat} {C q g : Addr} {mc : Value} {sp : Sp} {fd : FuncData} {ps ks : List Str} {o e : Expr} {es : List Expr} {kws : List Keyword} {m : Str} {pos apos : Pos} {ta : TE} {t tk : TA} {pl : Sem Bool}
end

/-! ### objects made -/
def spI (W : Wo) (ck : Str) (n : Nat) (mf : List D → M (List Str × List D)) : Sp := fun vs H Q _ => vs.length = n + 1 ∧ ∃ p F u H1 x dx ws ds, vs = .ref x :: ws ∧ H1 x = none ∧ H1 dx = none ∧ dx ≠ x ∧
  H = upd (upd H1 dx (.own x)) x (.ins (W.cl ck) dx []) ∧ Gd p u F H1 ∧ Reps W p F ws ds ∧ After p F H1 (mf ds u) fun r _ F' H' => ∀ dx' vs', F' x = none → H' x = some (.ins (W.cl ck) dx' (r.1.zip vs')) → r.1.length = vs'.length → Reps W p F' vs' r.2 → Q .non H'
def startI (n : Nat) (ck : Str) (ds : List D) : Env := .oi ck [] [] :: startE (n - 1) ds
def mInit (n : Nat) (ck : Str) (mb : MS) : List D → M (List Str × List D) := fun ds u => match mb (startI n ck ds) u with
  | some (.nx ρ', u') => match (ρ'[0]? : Option Sd) with
    | some (Sd.oi k ks es) => if k = ck then some ((ks, es), u') else none
    | _ => none
  | _ => none
section
variable {P : Program} {w : World} {K : PySem.W.Frag} {mg : Str → Option Value} {base : Heap} {x qual : Str} {params : Arguments} {body : List Stmt} {scope : Scope} {dvs : List V} {kws : List (Str × V)} {f : Addr} {fd : FuncData} {W : Wo} {N ps : List Str} {k n : Nat} {mb : MS} {ck nm : Str}
theorem fn_init (F : FunD K x qual params body scope dvs kws f fd) (S : FnScope (nm :: N) ps scope) (hl : ps.length = n + 1)
    (hb : ∀ (cdv : Value) (A : Around) (outer : List PySem.Env) (s : Shared) (H : Hp) (E : XK) (p : Addr) (F0 H0 : Hp) (sf : Addr), Room k (A.deeper (envOfC qual scope s.heap.objs.size f cdv)) → DB (cxOf CX0 P w K mg base (nm :: N) qual scope f cdv A outer s H E).nox ⟨W, p, F0, H0, sf⟩ body mb) :
    FnOk P w K mg base CX0 (k + 1) f fd ps (spI W ck n (mInit (N.length + 1) ck mb)) := by
  refine F.ok S (fun vs H Q E h => h.1.trans hl.symm) (fun cdv A outer s H vs Q E hr h => ?_)
  obtain ⟨hlen, p, F0, u, H1, x, dx, ws, ds, rfl, hx, hdx, hne, rfl, g, r, h⟩ := h
  have hpx : p ≠ x := fun z => g.ne (z ▸ hx)
  have hpd : p ≠ dx := fun z => g.ne (z ▸ hdx)
  have s1 : Stp p F0 H1 F0 (upd (upd H1 dx (.own x)) x (.ins (W.cl ck) dx [])) := ⟨fun _ _ e => e, fun a o _ e => by rw [upd_ne (ne_of_none e hx), upd_ne (ne_of_none e hdx)]; exact e, fun _ _ e => .inl e⟩
  have g1 : Gd p u F0 (upd (upd H1 dx (.own x)) x (.ins (W.cl ck) dx [])) := ⟨fun a o e => by rw [upd_ne (ne_of_none (g.ex a o e) hx), upd_ne (ne_of_none (g.ex a o e) hdx)]; exact g.ex a o e, by rw [upd_ne hpx, upd_ne hpd]; exact g.pu, g.off⟩
  have hFx : F0 x = none := g.fresh hx
  refine ⟨_, PSs.nox (hb cdv A outer s _ E p F0 H1 x hr), F0, u, startI (N.length + 1) ck ds, ⟨s1, g1, ?_⟩, ?_⟩
  · have e0 := env_start (c := ⟨W, p, F0, H1, x⟩) (H := upd (upd H1 dx (.own x)) x (.ins (W.cl ck) dx [])) (N := N) r
    have es : L2.start (nm :: N) (.ref x :: ws) = some (.ref x) :: L2.start N ws := by
      unfold L2.start
      rw [List.length_cons, List.length_cons, Nat.add_sub_add_right]
      rfl
    have er : startI (N.length + 1) ck ds = .oi ck [] [] :: startE N.length ds := rfl
    rw [es, er]
    have nown : ∀ {i : Nat} {s : Sd}, (startE N.length ds)[i]? = some s → s.own = false := fun {i s} e => by
      unfold startE at e
      by_cases hi : i < (ds.map Sd.sh).length
      · rw [List.getElem?_append_left hi, List.getElem?_map] at e
        cases q : ds[i]? with
        | none => rw [q] at e; cases e
        | some d => rw [q] at e; cases e; rfl
      · rw [List.getElem?_append_right (by omega), List.getElem?_replicate] at e
        split at e
        · cases e; rfl
        · cases e
    refine ⟨by simp [e0.len], fun i t e => ?_, fun i j t t' hij e1 e2 o1 o2 => ?_⟩
    · cases i with
      | zero =>
        simp at e
        subst e
        exact ⟨dx, [], rfl, upd_same, hFx, Ne.symm hpx, hx, rfl, Reps.nil⟩
      | succ i => exact e0.at_ i t (by simpa using e)
    · cases i with
      | zero =>
        cases j with
        | zero => exact absurd rfl hij
        | succ j => rw [nown (by simpa using e2)] at o2; cases o2
      | succ i => rw [nown (by simpa using e1)] at o1; cases o1
  · unfold mInit at h
    cases e : mb (startI (N.length + 1) ck ds) u with
    | none => rw [e] at h; exact h
    | some y =>
      obtain ⟨fl, u1⟩ := y
      rw [e] at h
      cases fl with
      | nx ρ' =>
        intro σ' F' H' _ S'
        have h' : After p F0 H1 (match (ρ'[0]? : Option Sd) with
          | some (Sd.oi k ks es) => if k = ck then some ((ks, es), u1) else none
          | _ => none) fun r _ F' H' => ∀ dx' vs', F' x = none → H' x = some (.ins (W.cl ck) dx' (r.1.zip vs')) → r.1.length = vs'.length → Reps W p F' vs' r.2 → Q .non H' := h
        split at h'
        · rename_i k' ks es e0
          split at h'
          · rename_i hk
            subst hk
            obtain ⟨dx', vs', _, h2, h3, _, _, h5, h6⟩ := S'.env.at_ 0 _ e0
            exact h' F' H' S'.ent S'.gd dx' vs' h3 h2 h5 h6
          · exact False.elim h'
        · exact False.elim h'
      | _ => exact False.elim h
end
/-- self.f = e -/
def mSelfSet (i : Nat) (ck fn : Str) (m : ME) : MS := fun ρ => M.bind (m ρ) fun d => M.bind (lft (match (ρ[i]? : Option Sd) with
  | some (Sd.oi k ks es) => if k = ck ∧ fn ∉ ks ∧ ks.length < 900 then some (ks, es) else none
  | _ => none)) fun q => M.pure (.nx (ρ.set i (.oi ck (q.1 ++ [fn]) (q.2 ++ [d]))))
theorem putF_zip {fn : Str} {y : V} : ∀ {ks : List Str} {vs : List V}, fn ∉ ks → ks.length = vs.length → putF fn y (ks.zip vs) = (ks ++ [fn]).zip (vs ++ [y])
  | [], vs, _, hl => by
    have : vs = [] := List.eq_nil_of_length_eq_zero (by simpa using hl.symm)
    subst this
    rfl
  | a :: ks, [], _, hl => by simp at hl
  | a :: ks, b :: vs, h, hl => by
    show (if a = fn then _ else (a, b) :: putF fn y (ks.zip vs)) = _
    rw [if_neg (fun z => h (by simp [z])), putF_zip (fun z => h (List.mem_cons_of_mem _ z)) (by simpa using hl)]
    rfl
section
variable {X : Cx} {c : Cf} {pos p0 tp : Pos} {e : Expr} {m : ME} {ck fn x : Str}
theorem dSelfSet (i : Nat) (hc : Cls X.K (c.W.cl ck)) (hn : NoAttr X.K (c.W.cl ck) fn) (he : DE X c e m) (hN : X.N[i]? = some x := by rfl) (hv : Vis X.env.scope x := by first | exact Or.inl rfl | exact Or.inr (Or.inl rfl) | exact Or.inr (Or.inr rfl)) (hd : (x == ("__debug__" : Str)) = false := by decide)
    (hcd : (x == ("__classdict__" : Str)) = false := by decide) (hs : swapsWith e (some (.Attribute (.Name x p0) fn tp)) pos.line X.env = pure false := by rfl) : DS X c (.Assign [.Attribute (.Name x p0) fn tp] e pos) (mSelfSet i ck fn m) :=
  (ps_fld (pe_var (i := i) hN hv hd hcd) he hs).imp fun Dn σ H ⟨F, u, ρ, S, h⟩ => ⟨F, u, ρ, S, (flowO.after S h).imp fun d u1 F1 H1 _ s1 g1 h1 v rv => by
    obtain ⟨⟨ks, es⟩, e1, h2⟩ := flowO.lft h1.1 h1.2
    split at e1
    · rename_i k' ks' es' e0
      split at e1
      · rename_i hh
        obtain ⟨rfl, hf, hl⟩ := hh
        cases e1
        have S1 := h1.1
        obtain ⟨dx, vs, q1, q2, q3, q4, q5, q6, q7⟩ := id (S1.env.at_ i _ e0)
        refine ⟨.ref c.sf, q1, c.sf, _, dx, _, rfl, q2, hc, hn, by rw [List.length_zip]; omega, h2 σ F1 _ (Same.refl _) ?_⟩
        rw [putF_zip hf q6]
        have qs : ∀ {j : Nat} {t : Sd} {a : Addr}, i ≠ j → ρ[j]? = some t → t.own = true → σ[j]? = some (some (.ref a)) → a ≠ c.sf := fun {j t a} ne e2 o z h => by
          subst h
          exact S1.env.ne i j _ t ne e0 e2 rfl o (q1.trans z.symm)
        refine ⟨⟨S1.ent.ef, fun a o ha e => ?_, S1.ent.nw⟩, ⟨fun a o e => ?_, by rw [upd_ne (Ne.symm q4)]; exact S1.gd.pu, S1.gd.off⟩, by simpa using S1.env.len, fun j t e2 => ?_, fun j k t t' h e1 e2 o1 o2 => ?_⟩
        · rw [upd_ne (fun z => by rw [z, q5] at e; cases e)]; exact S1.ent.eh a o ha e
        · rw [upd_ne (fun z => by rw [z, q3] at e; cases e)]; exact S1.gd.ex a o e
        · rcases set_get e2 with ⟨rfl, rfl, _⟩ | ⟨ne, e2⟩
          · exact ⟨dx, vs ++ [v], q1, upd_same, q3, q4, q5, by simp [q6], q7.append (Reps.cons rv Reps.nil)⟩
          · have k := S1.env.at_ j t e2
            cases t with
            | un => trivial
            | sh d => exact k
            | ow ds' => obtain ⟨a, xs, z, ha, rest⟩ := k; exact ⟨a, xs, z, by rw [upd_ne (qs ne e2 rfl z)]; exact ha, rest⟩
            | oi kk ks' ds' => obtain ⟨dx', xs, z, ha, rest⟩ := k; exact absurd rfl (qs ne e2 rfl z)
        · have back : ∀ {m : Nat} {y : Sd}, (ρ.set i (Sd.oi k' (ks ++ [fn]) (es ++ [d])))[m]? = some y → y.own = true → ∃ y', ρ[m]? = some y' ∧ y'.own = true := fun {m y} z o => by
            rcases set_get z with ⟨rfl, rfl, _⟩ | ⟨_, z⟩
            · exact ⟨_, e0, rfl⟩
            · exact ⟨y, z, o⟩
          obtain ⟨y1, z1, p1⟩ := back e1 o1
          obtain ⟨y2, z2, p2⟩ := back e2 o2
          exact S1.env.ne j k y1 y2 h z1 z2 p1 p2
      · cases e1
    · cases e1⟩
end
/-- C(e, ..) -/
def mMake (ck : Str) (n : Nat) (mf : List D → M (List Str × List D)) (ms : MA) : ME := fun ρ => M.bind (ms ρ) fun ds => if ds.length = n then M.bind (mf ds) fun r => M.pure (.obj ck r.1 r.2) else lft none
section
variable {X : Cx} {c : Cf} {k n : Nat} {f : Addr} {fd : FuncData} {ps : List Str} {x ck : Str} {p pos : Pos} {e : Expr} {es : List Expr} {ms : MA} {mf : List D → M (List Str × List D)}
theorem make_ok {p : Addr} {F1 H1 : Hp} {u1 : PuS} {vs : List V} {ds : List D} {W : Wo} {Q : VK} (hc : ck ∈ W.cs) (g1 : Gd p u1 F1 H1) (rvs : Reps W p F1 vs ds) (h1 : After p F1 H1 ((if ds.length = n then M.bind (mf ds) fun r => M.pure (D.obj ck r.1 r.2) else lft none) u1) fun d _ F' H' => ∀ v, Rep W p F' v d → Q v H')
    (a dx : Addr) (ha : H1 a = none) (hdx : H1 dx = none) (hne : dx ≠ a) : spI W ck n mf (.ref a :: vs) (upd (upd H1 dx (.own a)) a (.ins (W.cl ck) dx [])) (fun v H2 => v = .non ∧ Q (.ref a) H2) E0 := by
  split at h1
  · rename_i hl
    refine ⟨by simp [rvs.1, hl], p, F1, u1, H1, a, dx, vs, ds, rfl, ha, hdx, hne, rfl, g1, rvs, ?_⟩
    unfold M.bind at h1
    cases e1 : mf ds u1 with
    | none => rw [e1] at h1; exact h1
    | some y =>
      obtain ⟨r, u2⟩ := y
      rw [e1] at h1
      have h2 : After p F1 H1 (some (D.obj ck r.1 r.2, u2)) fun d _ F' H' => ∀ v, Rep W p F' v d → Q v H' := h1
      intro F' H' s' g' dx' vs' hF hH hlk hr
      have hsm : Same F' (upd F' a (.ins (W.cl ck) dx' (r.1.zip vs'))) := fun b o e => by rw [upd_ne (fun z => by rw [z, hF] at e; cases e)]; exact e
      have hpa : p ≠ a := fun z => g1.ne (z ▸ ha)
      refine ⟨rfl, h2 (upd F' a (.ins (W.cl ck) dx' (r.1.zip vs'))) H' ⟨s'.ef.trans hsm, s'.eh, fun b o e => ?_⟩ ⟨fun b o e => ?_, g'.pu, fun l e => by rw [upd_ne hpa]; exact g'.off l e⟩ (.ref a) (.obj hc upd_same hlk hr.1 fun i v d x y => (hr.2 i v d x y).mono hsm)⟩
      · by_cases hb : b = a
        · subst hb; exact .inr ha
        · rw [upd_ne hb] at e; exact s'.nw b o e
      · by_cases hb : b = a
        · subst hb; rw [upd_same] at e; cases e; exact hH
        · rw [upd_ne hb] at e; exact g'.ex b o e
  · exact False.elim h1
theorem dMake (hc : ck ∈ c.W.cs) (Mk' : Mk X.K (c.W.cl ck) f) (G : FnOk X.prog X.w X.K X.mg X.base CX0 k f fd ps (spI c.W ck n mf)) (hr : Room (k + 1) X.A) (hg : Gl X x) (hm : X.mg x = some (.ref (c.W.cl ck))) (hb : Binds X.K fd ps [])
    (ha : DA X c (e :: es) ms) (hdb : (x == ("__debug__" : Str)) = false := by decide) (he : starEach (e :: es) X.env = (false, eval e X.env) :: starEach es X.env := by rfl) (hpl : (backTo pos (starEach es X.env)).any (·.1) = false := by rfl) :
    DE X c (.Call (.Name x p) (e :: es) [] pos) (mMake ck n mf ms) :=
  (pe_make Mk' G hr hg hm hb .nil pass0 ha hdb he hpl).imp fun σ H Q ⟨F, u, ρ, S, h⟩ => ⟨F, u, ρ, S, (After.split h).imp fun ds u1 F1 H1 _ s1 g1 h1 vs rvs => by
    intro a dx ha hdx hne
    show spI c.W ck n mf (.ref a :: (vs ++ [])) _ _ _
    rw [List.append_nil]
    exact make_ok hc g1 rvs h1 a dx ha hdx hne⟩
end
end Mi


set_option Elab.async false
set_option linter.all false
set_option maxRecDepth 100000
set_option maxHeartbeats 4000000
/-! Mi9: enumerate and zip of tuples. -/
namespace PySem
theorem mi_meets_enum1 {v : Value} {o : Obj} {H : Heap → Prop} (B : Begins v o H) :
    Meets (Builtin.«enumerate.__new__» ⟨[.type "enumerate", v], []⟩) (fun _ R s => H s.heap ∧
      R (.ok (.ret (.ref (s.heap.push o).objs.size))) { s with heap := (s.heap.push o).push { cls := .type "enumerate", data := .fields #[.none, .bool false, .ref s.heap.objs.size, rawInt 0, .none, .none] } }) :=
  .of_wp fun prog w A R s h => by
    obtain ⟨hp, g, d, tk, os⟩ := s; obtain ⟨h1, h⟩ := h
    have hsub := sub_enumerate
    have q1 : ∀ {A' : Around} {E : Value → Shared → Prop} {Q : Value → Shared → Prop}, Q (.ref hp.objs.size) ⟨hp.push o, g, d, tk, os⟩ → wpAny (model prog w) A' (pyIter v) Q E ⟨hp, g, d, tk, os⟩ :=
      fun q => B.iter prog w _ _ ⟨hp, g, d, tk, os⟩ _ h1 q
    wp_walk using q1
    refine wpAny_stack_any fun st => wpAny_pure ?_
    split
    · rename_i c _ _ _ _ _
      cases (c == Value.type "enumerate")
      · wp_walk using q1
        exact ⟨_, rfl, h⟩
      · wp_walk using q1
        exact ⟨_, rfl, h⟩
    · wp_walk using q1
      exact ⟨_, rfl, h⟩
theorem mi_enum_begins1 {prog : Program} {w : World} {A : Around} {E : Value → Shared → Prop} {s : Shared} {v : Value} {o : Obj} {H : Heap → Prop} {Q : Value → Shared → Prop} (B : Begins v o H) (h1 : H s.heap)
    (h : ∀ h', IsEnum h' (s.heap.objs.size + 1) s.heap.objs.size 0 .none → h'.get? s.heap.objs.size = some o → h'.objs.size = s.heap.objs.size + 2 →
      (∀ b o, s.heap.get? b = some o → h'.get? b = some o) → Q (.ref (s.heap.objs.size + 1)) { s with heap := h' }) :
    wpAny (model prog w) A (call (.type "enumerate") [v]) Q E s := by
  refine callType_new F.called_enumerate (by decide) (F.typeCall_enumerate_1 _) (F.newCall_enumerate_1 _) (fun obj => F.args_object_init_2 obj _) F.entry_enumerate_new
    (mi_meets_enum1 B) ⟨h1, ?_⟩
  have hz : (s.heap.push o).objs.size = s.heap.objs.size + 1 := Heap.size_push ..
  show _ ∧ _
  rw [hz]
  have he : IsEnum ((s.heap.push o).push { cls := .type "enumerate", data := .fields #[.none, .bool false, .ref s.heap.objs.size, rawInt 0, .none, .none] }) (s.heap.objs.size + 1) s.heap.objs.size 0 .none := by
    have := Heap.get?_push_size (s.heap.push o) (o := { cls := .type "enumerate", data := .fields #[.none, .bool false, .ref s.heap.objs.size, rawInt 0, .none, .none] }) rfl
    rw [hz] at this; exact this
  refine ⟨⟨_, he, rfl⟩, h _ he (Heap.get?_push_of_some _ (Heap.get?_push_size _ B.free)) (by rw [Heap.size_push, hz]) fun b o x => Heap.get?_push_of_some _ (Heap.get?_push_of_some _ x)⟩
end PySem

namespace Mi
open PySem PySem.Spec PyProof.Rows L2
/-- the tuple at a, each item in a new pair -/
def IteT (K : PySem.W.Frag) (a : Addr) : It :=
  ⟨fun i H => ∃ (xs : List V) (x : V), SqT K H a xs ∧ xs[i]? = some x, fun i H v H' => ∃ T x, v = .ref T ∧ H T = none ∧ H' = upd H T (.tup [.int (i : Nat), x]) ∧ ∀ xs, SqT K H a xs → xs[i]? = some x, fun i H => ∃ xs : List V, SqT K H a xs ∧ xs.length ≤ i⟩
theorem turn_enumT {P : Program} {w : World} {K : PySem.W.Frag} {elts : List Expr} {kk : Nat} {tpos : Pos} (a e it : Addr) (hai : a ≠ it) (hae : a ≠ e) :
    Turn P w K (.Tuple elts kk tpos) (IteT K a) [e, it] e (fun i h => (∃ old, IsEnum h e it ((i : Nat) : Int) old) ∧ h.IsTupleIter it a i ∧ e ≠ it) where
  mem := by simp
  obj := fun i h st b hb => by
    obtain ⟨⟨old, he⟩, ⟨o, ho, hc, hd⟩, _⟩ := st
    have e' : b = e ∨ b = it := by simpa using hb
    rcases e' with z | z
    · rw [z]; exact ⟨_, he, fun v q => nomatch q⟩
    · rw [z]; exact ⟨o, ho, fun v q => by rw [hd] at q; cases q⟩
  keep := fun i h h' st k => let ⟨⟨old, he⟩, hi, hne⟩ := st; ⟨⟨old, k e (by simp) _ he⟩, hi.at fun o q => k it (by simp) o q, hne⟩
  item := by
    intro X hP hw hK hc i pins s σ H E I hf st hg
    subst hP hw hK
    obtain ⟨⟨old, he⟩, hit, hne⟩ := st
    obtain ⟨xs, x, hq, hx⟩ := hg
    obtain ⟨its, rv, p, hz⟩ := I.tuple hq
    obtain ⟨u, hu, ru⟩ := rv.get hx
    have hel : e < s.heap.objs.size := Heap.lt_size he
    have hil : it < s.heap.objs.size := by obtain ⟨_, q, _⟩ := hit; exact Heap.lt_size q
    have hlt : i < its.toArray.size := by
      have := (List.getElem?_eq_some_iff.mp hu).1
      simpa using this
    have hnf : e ∉ [it, a] := by simp [hne, Ne.symm hae]
    refine wpAny_pyNext_enum_itemD (Draws.tuple (A := X.A.in1) (I.ok.hd hc) it a hai its.toArray) he ⟨hit, p⟩ hlt hne hnf fun x' h' tk hP ho hst' hT hsz hk => ?_
    have ex : x' = u := by
      have e1 : its[i]? = some x' := by simpa using hP
      rw [hu] at e1
      exact (Option.some.inj e1).symm
    subst ex
    refine ⟨_, rfl, wpAny_letOwnedTupleGo_enum (s := { s with heap := h', toks := tk + 1 }) ho fun h'' he' sb => ?_⟩
    have hT2 : h''.get? s.heap.objs.size = some { cls := .type "tuple", data := .seq #[.int i tk, x'] } := (sb.2 _ (Nat.ne_of_gt hel)).trans hT
    have new : ObjOk X.prog X.w (upd H s.heap.objs.size (.tup [.int (i : Nat), x])) h'' s.heap.objs.size (.tup [.int (i : Nat), x]) :=
      ⟨by show 2 ≤ sizeLine; decide, [.int i tk, x'], .cons ⟨_, rfl⟩ (.cons ru .nil), ⟨_, hT2, rfl, _, rfl⟩⟩
    have I1 : Inv X pins σ (upd H s.heap.objs.size (.tup [.int (i : Nat), x])) { s with heap := h'', toks := tk + 1 } :=
      I.turnedNew (ch := [e, it]) (fun b ob hb q => (sb.2 b (fun z => hb (by simp [z]))).trans (hk b ob (fun z => hb (by simp [z])) (fun z => hb (by simp [z])) q)) hf (Nat.le_refl _) new
    refine ⟨.ref s.heap.objs.size, _, I1, rfl, ⟨_, x, rfl, I.hok.fresh (Nat.le_refl _), rfl, fun ys hy => by rw [I.tuple_inj hy hq]; exact hx⟩, ⟨⟨x', ?_⟩, hst'.1.at fun o q => (sb.2 it (Ne.symm hne)).trans q, hne⟩, fun b hb => ?_⟩
    · have e1 : ((i + 1 : Nat) : Int) = (i : Int) + 1 := by omega
      rw [e1]; exact he'
    · have hb' : b < s.heap.objs.size := by
        have e' : b = e ∨ b = it := by simpa using hb
        rcases e' with z | z
        · rw [z]; exact hel
        · rw [z]; exact hil
      rw [upd_ne (Nat.ne_of_lt hb')]
      exact (hf b hb).1
  done := by
    intro X hP hw hK hc i pins s σ H E I hf st hg
    subst hP hw hK
    obtain ⟨⟨old, he⟩, hit, hne⟩ := st
    obtain ⟨xs, hq, hx⟩ := hg
    obtain ⟨its, rv, p, hz⟩ := I.tuple hq
    obtain ⟨f0, f1, f2, f3, f4, f5⟩ := hf it (by simp)
    have hl := rv.length
    have hT : s.TypeIs (.ref e) "enumerate" := ⟨_, he, rfl⟩
    unfold pyNext
    refine wpAny_bind (wpAny_attempt (wpAny_callSpecial?_slot (name := Str.ofString "__next__") hT F.slot_enumerate_next
      (wpAny_call_entry F.slot_enumerate_next hT F.entry_enumerate_next ?_ (F.args_enumerate_next_1 _))))
    show wpAny _ _ (field (.ref e) 2 >>= _) _ _ _
    refine wpAny_bind (wpAny_field he rfl (x := .ref it) rfl ?_)
    refine wpAny_bind (wpAny_nextOf_tuple_end (I.ok.hd hc) hit p (by simp; omega) fun h' x' he' hx' => ?_)
    obtain ⟨o, ho, hcc⟩ := hx'
    refine wpAny_bind (wpAny_isInstance (T := "StopIteration") (b := true) ⟨o, ho, hcc⟩ isSubtype_stop ?_)
    exact wpAny_pure ⟨rfl, I.turned (t' := s.toks) (fun b o hb q => he' b o hb q) f0 f1 f3 f4 f5⟩
  self := fun A i s Q E st h => let ⟨⟨_, he⟩, _⟩ := st; wpAny_pyIter_enum he h
def iEnumT (K : PySem.W.Frag) (ta : TA) : TI := fun σ H R => ta σ H fun vs H1 => ∃ a xs, vs = [.ref a] ∧ SqT K H1 a xs ∧ R (IteT K a) H1
theorem pi_enumT {X : Cx} {e : Expr} {ta : TA} {p pos tpos : Pos} {elts : List Expr} {kk : Nat} (hg : Gl X "enumerate") (hm : X.mg "enumerate" = none) (ha : PA X [e] ta) (hs : starEach [e] X.env = [(false, eval e X.env)] := by rfl) :
    PI X (.Tuple elts kk tpos) (.Call (.Name "enumerate" p) [e] [] pos) (iEnumT X.K ta) := by
  refine ⟨fun pins s σ H R I h => ?_⟩
  refine Call_ (ld_blt I hg hm boot_enumerate (PyProof.Rows.callWith_type1 (thn (ha.run pos pins s σ H _ I h) fun us s1 ⟨vs, H1, I1, r1, q1⟩ => ?_) hs rfl))
  obtain ⟨a, xs, ex, hq, q⟩ := q1
  subst ex
  cases r1 with
  | cons r rr =>
    cases rr
    cases r
    obtain ⟨its, rv, p', hz⟩ := I1.tuple hq
    have la : a < s1.heap.objs.size := p'.lt
    refine mi_enum_begins1 (begins_tuple a its.toArray) p' fun h' he hit hsz hk => wpAny_pyIter_enum he ?_
    have I2 : Inv X pins σ H1 { s1 with heap := h' } := I1.kept (t' := s1.toks) hk
    refine ⟨s1.heap.objs.size + 1, [s1.heap.objs.size + 1, s1.heap.objs.size], _, _, H1, rfl, I2, turn_enumT a (s1.heap.objs.size + 1) s1.heap.objs.size (Nat.ne_of_lt la) (Nat.ne_of_lt (Nat.lt_succ_of_lt la)), ⟨⟨.none, he⟩, ⟨_, hit, rfl, rfl⟩, Nat.succ_ne_self _⟩, fun b hb => ?_, q⟩
    have e' : b = s1.heap.objs.size + 1 ∨ b = s1.heap.objs.size := by simpa using hb
    have hle : s1.heap.objs.size ≤ b := by
      rcases e' with z | z
      · rw [z]; exact Nat.le_add_right _ _
      · rw [z]; exact Nat.le_refl _
    exact I1.fpOk hle (I1.hok.fresh hle)
theorem walk_enumT {K : PySem.W.Frag} {a : Addr} {xs : List V} : Walk (IteT K a) xs.length (fun H => SqT K H a xs) (YPair (fun i => some (.int (i : Nat))) (fun i => xs[i]?)) := by
  refine ⟨fun i _ hi q => ⟨xs, xs[i], q, by simp [hi]⟩, fun _ q => ⟨xs, q, Nat.le_refl _⟩, fun i H v H' _ q y => ?_⟩
  obtain ⟨T, x, h1, h2, h3, h4⟩ := y
  exact ⟨T, .int (i : Nat), x, h1, h2, h3, rfl, h4 xs q⟩
def enumT1 : List D → Option (List D) := fun ds => match ds with
  | [.tup xs] => some (enumD xs)
  | _ => none
section
variable {X : Cx} {c : Cf} {a b : Expr} {ms : MA} {pos q tpos : Pos} {elts : List Expr} {kk : Nat}
theorem dIenumT (hg : Gl X "enumerate") (hm : X.mg "enumerate" = none) (ha : DA X c [a] ms) (hs : starEach [a] X.env = [(false, eval a X.env)] := by rfl) (hK : X.K = c.W.K := by rfl) :
    DI X c (.Tuple elts kk tpos) (.Call (.Name "enumerate" q) [a] [] pos) (mIof enumT1 ms) :=
  (pi_enumT hg hm ha hs).imp fun σ H R ⟨F, u, ρ, S, h⟩ => ⟨F, u, ρ, S, (After.split h).imp fun ds u1 F1 H1 _ s1 g1 h1 vs rv => by
    obtain ⟨es, e1, h2⟩ := lft_some h1
    unfold enumT1 at e1
    split at e1
    · rename_i xs _h
      cases e1
      obtain ⟨v, vr, rfl, r1, r2⟩ := rv.uncons
      rw [r2.none]
      obtain ⟨p1, v1, rfl, f1, q1⟩ := r1.tup_
      refine ⟨p1, v1, rfl, by rw [hK]; exact sq_t g1.ex f1, After.now g1 h2 _ ?_⟩
      rw [hK]
      refine walkD_pair (n := v1.length) (by rw [enumD_len, q1.1]) walk_enumT (fun H e => sq_t e f1) fun i x y d hx hy hd => ?_
      obtain ⟨y', e2, rfl⟩ := enumD_at hd
      cases hx
      exact ⟨_, y', rfl, .int _, q1.2 i y y' hy e2⟩
    · cases e1⟩
end
end Mi


set_option Elab.async false
set_option linter.all false
set_option maxRecDepth 100000
set_option maxHeartbeats 4000000
/-! MiA: parallel assignment with fresh lists, keyword calls, fresh slices. -/
namespace Mi
open PySem PySem.Spec PyProof.Rows L2

/-! ### lists of values, some of them fresh lists -/
abbrev MM := Env → M (List Sd)
structure Mats (W : Wo) (p : Addr) (F H H00 : Hp) (vs : List V) (sds : List Sd) : Prop where
  len : vs.length = sds.length
  at_ : ∀ (i : Nat) (v : V) (sd : Sd), vs[i]? = some v → sds[i]? = some sd → match sd with
    | .sh d => Rep W p F v d
    | .ow ds => ∃ q ws, v = .ref q ∧ H q = some (.lst ws) ∧ F q = none ∧ H00 q = none ∧ Reps W p F ws ds
    | _ => False
  ne : ∀ (i j : Nat) (s t : Sd), i ≠ j → sds[i]? = some s → sds[j]? = some t → s.own = true → t.own = true → vs[i]? ≠ vs[j]?
def rdM (c : Cf) (m : MM) : TA := fun σ H Q => ∃ F u ρ, Sta c u F H σ ρ ∧ After c.p F H (m ρ u) fun sds _ F' H' => ∀ vs, Mats c.W c.p F' H' H vs sds → Q vs H'
abbrev DM (X : Cx) (c : Cf) (es : List Expr) (m : MM) : Prop := PA X es (rdM c m)
def mMnil : MM := fun _ => M.pure []
def mMsh (m : ME) (ms : MM) : MM := fun ρ => M.bind (m ρ) fun d => M.bind (ms ρ) fun ds => M.pure (.sh d :: ds)
def mMow (m : MA) (ms : MM) : MM := fun ρ => M.bind (m ρ) fun d => M.bind (ms ρ) fun ds => M.pure (.ow d :: ds)
section
variable {X : Cx} {c : Cf} {pos : Pos} {e a b : Expr} {es : List Expr} {m : ME} {ml : MA} {ms : MM}
theorem dMnil : DM X c [] mMnil := pa_nil.imp fun σ H Q ⟨F, u, ρ, S, h⟩ => After.now S.gd h [] ⟨rfl, fun i v sd a _ => by simp at a, fun i j s t _ a _ => by simp at a⟩
theorem dMsh (ha : DE X c e m) (hr : DM X c es ms) (hs : starEach (e :: es) X.env = (false, eval e X.env) :: starEach es X.env := by rfl) : DM X c (e :: es) (mMsh m ms) :=
  (pa_cons ha hr hs).imp fun σ H Q ⟨F, u, ρ, S, h⟩ => ⟨F, u, ρ, S, (After.split h).imp fun d u1 F1 H1 _ s1 g1 h1 v rv => ⟨F1, u1, ρ, S.step s1 g1, (After.split h1).imp fun ds u2 F2 H2 _ s2 g2 h2 vs R => by
    refine After.now (p := c.p) (F := F2) (H := H2) (u := u2) g2 h2 (v :: vs) ⟨by simp [R.len], fun i w sd ea eb => ?_, fun i j s t hij ea eb o1 o2 => ?_⟩
    · cases i with
      | zero => simp at ea eb; subst ea; subst eb; exact rv.mono s2.ef
      | succ i =>
        simp at ea eb
        have := R.at_ i w sd ea eb
        cases sd with
        | sh d => exact this
        | ow ds => obtain ⟨q, ws, h1, h2, h3, h4, h5⟩ := this; exact ⟨q, ws, h1, h2, h3, s1.back g1.ne h4, h5⟩
        | _ => exact this
    · cases i with
      | zero => simp at ea; subst ea; cases o1
      | succ i =>
        cases j with
        | zero => simp at eb; subst eb; cases o2
        | succ j => simp at ea eb ⊢; exact R.ne i j s t (fun z => hij (by rw [z])) ea eb o1 o2⟩⟩
theorem dMow (ha : DL X c e ml) (hr : DM X c es ms) (hs : starEach (e :: es) X.env = (false, eval e X.env) :: starEach es X.env := by rfl) : DM X c (e :: es) (mMow ml ms) :=
  (pa_cons ha hr hs).imp fun σ H Q ⟨F, u, ρ, S, h⟩ => ⟨F, u, ρ, S, (After.split h).imp fun d u1 F1 H1 _ s1 g1 h1 q ws hF hn hq rw => ⟨F1, u1, ρ, S.step s1 g1, (After.split h1).imp fun ds u2 F2 H2 _ s2 g2 h2 vs R => by
    have hqp : q ≠ c.p := fun z => S.gd.ne (z ▸ hn)
    have hfar : ∀ (j : Nat) (t : Sd), ds[j]? = some t → t.own = true → vs[j]? ≠ some (.ref q) := fun j t ej o z => by
      have := R.at_ j _ t z ej
      cases t with
      | ow es' =>
        obtain ⟨q', ws', e1, _, _, e4, _⟩ := this
        cases e1
        rw [hq] at e4
        cases e4
      | oi _ _ _ => exact this
      | _ => cases o
    refine After.now (p := c.p) (F := F2) (H := H2) (u := u2) g2 h2 (.ref q :: vs) ⟨by simp [R.len], fun i w sd ea eb => ?_, fun i j s t hij ea eb o1 o2 => ?_⟩
    · cases i with
      | zero => simp at ea eb; subst ea; subst eb; exact ⟨q, ws, rfl, s2.eh q _ hqp hq, s2.off hF (by rw [hq]; simp), hn, rw.mono s2.ef⟩
      | succ i =>
        simp at ea eb
        have := R.at_ i w sd ea eb
        cases sd with
        | sh d => exact this
        | ow ds => obtain ⟨q, ws, h1, h2, h3, h4, h5⟩ := this; exact ⟨q, ws, h1, h2, h3, s1.back g1.ne h4, h5⟩
        | _ => exact this
    · cases i with
      | zero =>
        cases j with
        | zero => exact absurd rfl hij
        | succ j => simp at eb ⊢; exact fun z => hfar j t eb o2 z.symm
      | succ i =>
        cases j with
        | zero => simp at ea ⊢; exact fun z => hfar i s ea o1 z
        | succ j => simp at ea eb ⊢; exact R.ne i j s t (fun z => hij (by rw [z])) ea eb o1 o2⟩⟩
end
section
variable {c : Cf} {u : PuS} {F H : Hp} {σ : L2.St} {ρ : Env}
theorem Sta.setS {i : Nat} {v : V} {sd : Sd} (S : Sta c u F H σ ρ) (ok : SdOk c F H (some (some v)) sd) (far : sd.own = true → ∀ (j : Nat) (t : Sd), j ≠ i → ρ[j]? = some t → t.own = true → σ[j]? ≠ some (some v)) : Sta c u F H (σ.set i (some v)) (ρ.set i sd) := by
  refine ⟨S.ent, S.gd, by simpa using S.env.len, fun j t e => ?_, fun j k s t hjk e1 e2 o1 o2 => ?_⟩
  · rcases set_get e with ⟨rfl, rfl, hl⟩ | ⟨ne, e⟩
    · rw [List.getElem?_set_self (by rw [S.env.len]; exact hl)]; exact ok
    · rw [List.getElem?_set_ne ne]; exact S.env.at_ j t e
  · rcases set_get e1 with ⟨rfl, rfl, hl⟩ | ⟨n1, e1b⟩
    · rcases set_get e2 with ⟨h, _, _⟩ | ⟨n2, e2⟩
      · exact absurd h hjk
      · rw [List.getElem?_set_self (by rw [S.env.len]; exact hl), List.getElem?_set_ne n2]
        exact fun z => far o1 k t (Ne.symm n2) e2 o2 z.symm
    · rcases set_get e2 with ⟨rfl, rfl, hl⟩ | ⟨n2, e2⟩
      · rw [List.getElem?_set_ne n1, List.getElem?_set_self (by rw [S.env.len]; exact hl)]
        exact far o2 j s (Ne.symm n1) e1b o1
      · rw [List.getElem?_set_ne n1, List.getElem?_set_ne n2]; exact S.env.ne j k s t hjk e1b e2 o1 o2
end
/-- set slots in their order -/
def setAll : List Nat → List Sd → Env → Env
  | i :: is, s :: ss, ρ => setAll is ss (ρ.set i s)
  | _, _, ρ => ρ
def setV : List Nat → List V → L2.St → L2.St
  | i :: is, v :: vs, σ => setV is vs (σ.set i (some v))
  | _, _, σ => σ
theorem Mats.tail {W : Wo} {p : Addr} {F H H00 : Hp} {v : V} {vs : List V} {s : Sd} {ss : List Sd} (R : Mats W p F H H00 (v :: vs) (s :: ss)) : Mats W p F H H00 vs ss :=
  ⟨by have := R.len; simpa using this, fun i w sd ea eb => R.at_ (i + 1) w sd (by simpa using ea) (by simpa using eb), fun i j s t hij ea eb o1 o2 => by
    have := R.ne (i + 1) (j + 1) s t (by omega) (by simpa using ea) (by simpa using eb) o1 o2
    simpa using this⟩
/-- all owned slots known: their objects were there, or are among these -/
theorem Sta.setAll {c : Cf} {u0 u : PuS} {F0 H0 F H : Hp} {σ0 : L2.St} {ρ0 : Env} (S0 : Sta c u0 F0 H0 σ0 ρ0) : ∀ {is : List Nat} {vs : List V} {sds : List Sd} {σ : L2.St} {ρ : Env}, Sta c u F H σ ρ → Mats c.W c.p F H H0 vs sds → is.length = vs.length →
    (∀ (j : Nat) (t : Sd) (k : Nat) (s : Sd), ρ[j]? = some t → t.own = true → sds[k]? = some s → s.own = true → σ[j]? ≠ (vs[k]?).map some) →
    Sta c u F H (setV is vs σ) (Mi.setAll is sds ρ)
  | [], vs, sds, σ, ρ, S, R, hl, far => by
    unfold setV Mi.setAll
    exact S
  | i :: is, [], sds, σ, ρ, S, R, hl, far => by simp at hl
  | i :: is, v :: vs, [], σ, ρ, S, R, hl, far => by have := R.len; simp at this
  | i :: is, v :: vs, s :: ss, σ, ρ, S, R, hl, far => by
    show Sta c u F H (setV is vs (σ.set i (some v))) (Mi.setAll is ss (ρ.set i s))
    have hv := R.at_ 0 v s rfl rfl
    refine Sta.setAll S0 (S.setS (i := i) (v := v) (sd := s) ?_ fun o j t _ e o2 => far j t 0 s e o2 rfl o) R.tail (by simpa using hl) fun j t k s' e o ek ok => ?_
    · cases s with
      | sh d => exact ⟨v, rfl, hv⟩
      | ow ds =>
        obtain ⟨q, ws, rfl, h1, h2, h3, h4⟩ := hv
        exact ⟨q, ws, rfl, h1, h2, fun z => S0.gd.ne (z ▸ h3), S0.ent.back S0.gd.ne h3, h4⟩
      | un => trivial
      | oi _ _ _ => exact False.elim hv
    · rcases set_get e with ⟨rfl, rfl, hl'⟩ | ⟨ne, e⟩
      · rw [List.getElem?_set_self (by rw [S.env.len]; exact hl')]
        have := R.ne 0 (k + 1) t s' (by omega) rfl (by simpa using ek) o ok
        intro z
        apply this
        simp at this ⊢
        cases q : vs[k]? with
        | none => rw [q] at z; cases z
        | some w => rw [q] at z; cases z; rfl
      · rw [List.getElem?_set_ne ne]
        have := far j t (k + 1) s' e o (by simpa using ek) ok
        simpa using this
theorem Mats.fresh {c : Cf} {u0 : PuS} {F0 H0 F H : Hp} {σ0 : L2.St} {ρ0 : Env} {vs : List V} {sds : List Sd} (S0 : Sta c u0 F0 H0 σ0 ρ0) (R : Mats c.W c.p F H H0 vs sds) (j : Nat) (t : Sd) (k : Nat) (s : Sd) (e : ρ0[j]? = some t) (o : t.own = true) (ek : sds[k]? = some s) (ok : s.own = true) : σ0[j]? ≠ (vs[k]?).map some := by
  intro z
  obtain ⟨q, hq, hne, _⟩ := (S0.env.at_ j t e).ref o
  rw [hq] at z
  cases ev : vs[k]? with
  | none => rw [ev] at z; cases z
  | some w =>
    rw [ev] at z
    have := R.at_ k w s ev ek
    cases z
    cases s with
    | ow ds =>
      obtain ⟨q', ws, e1, _, _, e4, _⟩ := this
      cases e1
      exact hne e4
    | oi _ _ _ => exact this
    | _ => cases ok
def mPar (is : List Nat) (ms : MM) : MS := fun ρ => M.bind (ms ρ) fun sds => if sds.length = is.length then M.pure (.nx (setAll is sds ρ)) else lft none
section
variable {X : Cx} {c : Cf} {pos : Pos} {a b d : Expr} {ms : MM}
theorem rdPar {is : List Nat} {Dn : Ends} {σ : L2.St} {H : Hp} (h : rdS c (mPar is ms) Dn σ H) : rdM c ms σ H fun vs H1 => vs.length = is.length ∧ Dn.nx (setV is vs σ) H1 := by
  obtain ⟨F, u, ρ, S, h⟩ := h
  refine ⟨F, u, ρ, S, (flowO.after S h).imp fun sds u1 F1 H1 _ s1 g1 h1 vs R => ?_⟩
  have h2 := h1.2
  split at h2
  · rename_i hl
    exact ⟨R.len.trans hl, h2 _ F1 H1 (Same.refl _) (Sta.setAll S h1.1 R (hl.symm.trans R.len.symm) (Mats.fresh S R))⟩
  · exact False.elim h2
theorem dPar {i j : Nat} {x y : Str} {px py pt : Pos} {kt k2 pt2} (hc : X.calm = true) (hN : X.N.Nodup) (hi : X.N[i]? = some x) (hj : X.N[j]? = some y) (hij : i ≠ j)
    (hx : X.env.scope.names.lookup x = some .local) (hy : X.env.scope.names.lookup y = some .local) (ha : DM X c [a, b] ms)
    (hw : swappedStores [.Tuple [.Name x px, .Name y py] kt pt] (.Tuple [a, b] k2 pt2) X.env = pure (some [x, y]) := by rfl)
    (hs : swapsWithSole [.Tuple [.Name x px, .Name y py] kt pt] (.Tuple [a, b] k2 pt2) pos.line X.env = pure false := by rfl) :
    DS X c (.Assign [.Tuple [.Name x px, .Name y py] kt pt] (.Tuple [a, b] k2 pt2) pos) (mPar [i, j] ms) :=
  (ps_par hc hN hi hj hij hx hy ha hw hs).imp fun Dn σ H h => by
    obtain ⟨F, u, ρ, S, h⟩ := rdPar h
    exact ⟨F, u, ρ, S, h.imp fun sds u1 F1 H1 _ s1 g1 h1 vs R => by
      obtain ⟨hl, hq⟩ := h1 vs R
      match vs, hl, hq with
      | [v, w], _, hq => exact ⟨v, w, rfl, hq⟩⟩
theorem dPar3 {i j l : Nat} {x y z : Str} {px py pz pt : Pos} {kt k2 pt2} (hc : X.calm = true) (hN : X.N.Nodup) (hi : X.N[i]? = some x) (hj : X.N[j]? = some y) (hl : X.N[l]? = some z) (hij : i ≠ j) (hil : i ≠ l) (hjl : j ≠ l)
    (hx : X.env.scope.names.lookup x = some .local) (hy : X.env.scope.names.lookup y = some .local) (hz : X.env.scope.names.lookup z = some .local) (ha : DM X c [a, b, d] ms)
    (hw : swappedStores [.Tuple [.Name x px, .Name y py, .Name z pz] kt pt] (.Tuple [a, b, d] k2 pt2) X.env = pure (some [x, y, z]) := by rfl)
    (hs : swapsWithSole [.Tuple [.Name x px, .Name y py, .Name z pz] kt pt] (.Tuple [a, b, d] k2 pt2) pos.line X.env = pure false := by rfl) :
    DS X c (.Assign [.Tuple [.Name x px, .Name y py, .Name z pz] kt pt] (.Tuple [a, b, d] k2 pt2) pos) (mPar [i, j, l] ms) :=
  (ps_par3 hc hN hi hj hl hij hil hjl hx hy hz ha hw hs).imp fun Dn σ H h => by
    obtain ⟨F, u, ρ, S, h⟩ := rdPar h
    exact ⟨F, u, ρ, S, h.imp fun sds u1 F1 H1 _ s1 g1 h1 vs R => by
      obtain ⟨hl, hq⟩ := h1 vs R
      match vs, hl, hq with
      | [v, w, y], _, hq => exact ⟨v, w, y, rfl, hq⟩⟩
end

/-! ### calls with keywords -/
abbrev DK (X : Cx) (c : Cf) (kws : List Keyword) (m : MA) : Prop := PK X kws (rdA c m)
/-- the arguments put in the parameters' order -/
def gI {α : Type} (perm : List Nat) (us ws : List α) : List α := perm.filterMap ((us ++ ws)[·]?)
theorem vals_get {vs : List V} {us : List Value} (r : Vals vs us) (i : Nat) : (∃ v u, vs[i]? = some v ∧ us[i]? = some u ∧ RelV v u) ∨ (vs[i]? = none ∧ us[i]? = none) := by
  induction r generalizing i with
  | nil => right; simp
  | cons h r ih =>
    cases i with
    | zero => left; exact ⟨_, _, rfl, rfl, h⟩
    | succ i => simpa using ih i
theorem gI_rel {perm : List Nat} {vs zs : List V} {us ws : List Value} (r : Vals vs us) (rz : Vals zs ws) : Vals (gI perm vs zs) (gI perm us ws) := by
  have ra : Vals (vs ++ zs) (us ++ ws) := by
    induction r with
    | nil => exact rz
    | cons h r ih => exact .cons h ih
  unfold gI
  induction perm with
  | nil => exact .nil
  | cons i perm ih =>
    rcases vals_get ra i with ⟨v, u, e1, e2, r'⟩ | ⟨e1, e2⟩
    · rw [List.filterMap_cons, List.filterMap_cons, e1, e2]
      exact .cons r' ih
    · rw [List.filterMap_cons, List.filterMap_cons, e1, e2]
      exact ih
theorem gI_reps {W : Wo} {p : Addr} {F : Hp} {perm : List Nat} {vs zs : List V} {ds es : List D} (r : Reps W p F vs ds) (rz : Reps W p F zs es) : Reps W p F (gI perm vs zs) (gI perm ds es) := by
  have ra := r.append rz
  unfold gI
  induction perm with
  | nil => exact Reps.nil
  | cons i perm ih =>
    rw [List.filterMap_cons, List.filterMap_cons]
    cases e : (ds ++ es)[i]? with
    | none =>
      have : (vs ++ zs)[i]? = none := by
        rw [List.getElem?_eq_none_iff] at e ⊢
        rw [ra.1]; exact e
      rw [this]; exact ih
    | some d =>
      obtain ⟨v, ev, rv⟩ := ra.get e
      rw [ev]; exact Reps.cons rv ih
theorem _root_.L2.FunD.kb0 {K : PySem.W.Frag} {x qual : Str} {params : Arguments} {body : List Stmt} {scope : Scope} {kws : List (Str × V)} {f : Addr} {fd : FuncData} {ps : List Str} (F : FunD K x qual params body scope [] kws f fd) (n : Nat) (ks : List Str) (perm : List Nat)
    (h : ∀ (kV doc pm : Value) (an : Option Addr) (cdv ct : Value) (us ws : List Value), us.length = n → ws.length = ks.length → bindArgs (PySem.W.fnOf x qual params body scope .none kV doc pm an cdv ct) ⟨us, ks.zip ws⟩ = pure (ps.zip (gI perm us ws))) : KBn K fd ps n ks (gI perm) (gI perm) := by
  obtain ⟨oc, od, dV, kV, doc, pm, an, cdv, ct, osl, rfl, lk, hcd, hD, hK⟩ := F.ex
  rcases hD with ⟨_, rfl⟩ | ⟨e, _⟩
  · exact ⟨fun s us ws _ l1 l2 => .of_eq (h kV doc pm an cdv ct us ws l1 l2), gI_rel⟩
  · exact absurd rfl e
section
variable {X : Cx} {c : Cf} {k n np : Nat} {f : Addr} {fd : FuncData} {ps ks : List Str} {x : Str} {p pos apos : Pos} {e o : Expr} {es : List Expr} {kws : List Keyword} {ms mk : MA} {mf : List D → M D} {perm : List Nat} {mc : Value} {q g : Addr} {m : Str} {pl : Sem Bool} {nm : Option Str} {kpos : Pos} {me : ME}
theorem dKnil : DK X c [] mNil := ⟨fun pos pins s σ H Q I ⟨F, u, ρ, S, h⟩ => pk_nil.run pos pins s σ H Q I (After.now S.gd h [] Reps.nil)⟩
theorem dKcons {nm} (ha : DE X c e me) (hr : DK X c kws mk) : DK X c (⟨nm, e, kpos⟩ :: kws) (mCons me mk) :=
  ⟨fun pos pins s σ H Q I ⟨F, u, ρ, S, h⟩ => (pk_cons (nm := nm) (kpos := kpos) ha hr).run pos pins s σ H Q I ⟨F, u, ρ, S, (After.split h).imp fun d u1 F1 H1 _ s1 g1 h1 v rv => ⟨F1, u1, ρ, S.step s1 g1, (After.split h1).imp fun ds u2 F2 H2 _ s2 g2 h2 vs rvs => After.now (p := c.p) (F := F2) (H := H2) (u := u2) g2 h2 (v :: vs) (Reps.cons (rv.mono s2.ef) rvs)⟩⟩⟩
end

/-! ### fresh lists out of slices and list(..) -/
section
variable {X : Cx} {c : Cf} {e : Expr} {lo hi : Option Expr} {m : ME} {ml mh : MO} {pos p2 : Pos}
end
end Mi


set_option Elab.async false
set_option linter.all false
set_option maxRecDepth 100000
set_option maxHeartbeats 4000000
/-! MiB: the head's facts by names: a Hook of this framework's own. -/
namespace Mi
open PySem PySem.Spec PyProof.Rows L2 He

/-! ### the written part: what the module's names reach -/
def refsM (o : Obj) : List Addr := match o.cls with
  | .type "code" => []
  | _ => refsD o
def frontM (g : Addr → Option Obj) (as : List Addr) : List Addr := as.flatMap fun a => match g a with
  | some o => refsM o
  | none => []
def bfsM (g : Addr → Option Obj) : Nat → List Addr → List Addr
  | 0, as => as
  | n + 1, as => as ++ bfsM g n (frontM g as).eraseDups
def asM (g : Addr → Option Obj) (n : Nat) : List Addr := (bfsM g n [mainGlobals, cStatics]).eraseDups
def recFn (K : PySem.W.Frag) (p : Addr) (T : String) : Addr := match PySem.W.recIn K p T with
  | some (.ref g :: _) => g
  | _ => 0
def WW (cs : List Str) (K : PySem.W.Frag) : Wo := ⟨K, ga K, cs⟩
/-! ### places of defs -/
inductive Pl where
  | glob (x : Str) | meth (c m : Str) | prop (c m : Str) | stat (c m : Str) | clsm (c m : Str)
def Pl.ad (K : PySem.W.Frag) : Pl → Addr
  | .glob x => ga K x
  | .meth c m => ma K (ga K c) m
  | .prop c m => recFn K (ma K (ga K c) m) "property"
  | .stat c m => recFn K (ma K (ga K c) m) "staticmethod"
  | .clsm c m => recFn K (ma K (ga K c) m) "classmethod"
def fd0 : FuncData := PySem.W.fnOf "" "" ⟨[], [], none, [], [], none, []⟩ [] ⟨.function, [], false, false, []⟩ .none .none .none .none none .none .none
def fdOf (K : PySem.W.Frag) (a : Addr) : FuncData := match K.lookup a with
  | some ⟨_, _, .func fd, _⟩ => fd
  | _ => fd0
/-- one def: its place, name, qualified name, parameters, body, scope -/
structure DefP where
  at_ : Pl
  name : Str
  qual : Str
  params : Arguments
  body : List Stmt
  scope : Scope
def fnP (K : PySem.W.Frag) (a : Addr) : FnW := match K.lookup a with
  | some ⟨_, _, .func fd, _⟩ => some (fd.name, fd.qualname, fd.params, fd.body, fd.scope, fd.globals, fd.closure, fd.builtins)
  | _ => none
def DefP.val (d : DefP) : FnW := some (d.name, d.qual, d.params, .stmts d.body, d.scope, mainGlobals, [], builtinsNs)
def DefP.ok (K : PySem.W.Frag) (d : DefP) : Bool := PySem.W.keepIn K (.ref (d.at_.ad K)) && (match K.lookup (d.at_.ad K) with
  | some ⟨_, _, .func fd, _⟩ => PySem.W.codeIn K fd.code d.qual && dflB K fd.defaults []
  | _ => false)
abbrev FunP (K : PySem.W.Frag) (d : DefP) : Prop := FunD K d.name d.qual d.params d.body d.scope [] [] (d.at_.ad K) (fdOf K (d.at_.ad K))
theorem DefP.funD {K : PySem.W.Frag} {d : DefP} (e : fnP K (d.at_.ad K) = d.val) (c : d.ok K = true) : FunP K d := by
  obtain ⟨kp, c2⟩ := ba c
  unfold fnP at e
  unfold FunP fdOf
  cases q : K.lookup (d.at_.ad K) with
  | none =>
    rw [q] at c2
    cases c2
  | some o =>
    obtain ⟨oc, od, dt, osl⟩ := o
    rw [q] at c2 e
    cases dt with
    | func fd =>
      obtain ⟨n1, n2, n3, n4, n5, n6, n7, n8, n9, n10, n11, n12, n13, n14, n15⟩ := fd
      have e2 : (some (n1, n2, n3, n4, n5, n6, n7, n15) : FnW) = some (d.name, d.qual, d.params, .stmts d.body, d.scope, mainGlobals, [], builtinsNs) := e
      simp only [Option.some.injEq, Prod.mk.injEq] at e2
      obtain ⟨h1, h2, h3, h4, h5, h6, h7, h8⟩ := e2
      subst h1 h2 h3 h4 h5 h6 h7 h8
      have c3 : (PySem.W.codeIn K n13 d.qual && dflB K n8 []) = true := c2
      obtain ⟨k1, k2⟩ := ba c3
      exact ⟨⟨oc, od, n8, n9, n10, n11, n12, n13, n14, osl, rfl, q, k1, dflB_ok k2, .inl rfl⟩, kp⟩
    | _ => cases c2
/-! ### facts -/
inductive Ft where
  | b (f : Fa) | prop (c f : Str) | stat (c m : Str) | clsm (c m : Str) | eqc (c : Str) | isi (cs : List Str) | len (c : Str) | raw (f : PySem.W.Frag → Bool)
def insB (K : PySem.W.Frag) (C : Addr) : Bool := (PySem.W.plainGet K C Str.empty && (PySem.W.hasDictIn K C && (PySem.W.plainOver K C && eqO (PySem.W.findIn K (.ref C) "__setattr__") (some (some (.builtin "object.__setattr__"))))))
  && (eqO (PySem.W.findIn K (.ref C) "__class__") (some (some (.builtin "object.__class__"))) && (eqO (PySem.W.specialIn K (.builtin "object.__class__") "__get__") (some (some (.builtin "getset_descriptor.__get__")))
  && (decide (PySem.W.takesIn K (.builtin "object.__class__") = some true) && decide (PySem.W.mroIn K C (.type "object") = some true))))
def Ft.ok (K : PySem.W.Frag) : Ft → Bool
  | .b f => f.ok K
  | .prop c f => eqO (PySem.W.findIn K (.ref (ga K c)) f) (some (some (.ref (ma K (ga K c) f)))) && (eqO (PySem.W.specialIn K (.ref (ma K (ga K c) f)) "__get__") (some (some (.builtin "property.__get__"))) && (decide (PySem.W.takesIn K (.ref (ma K (ga K c) f)) = some true) &&
    (match PySem.W.recIn K (ma K (ga K c) f) "property" with
      | some (.ref _ :: _) => true
      | _ => false)))
  | .stat c m => PySem.W.readsIn K (ga K c) (.type "type") && (eqO (PySem.W.specialIn K (.ref (ga K c)) "__getattribute__") (some (some (.builtin "type.__getattribute__"))) && ((match PySem.W.findCls K (.ref (ga K c)) (.type "type") m with
      | some (.get (.builtin "staticmethod.__get__") (.ref q) .none (.ref C)) => decide (q = ma K (ga K c) m) && decide (C = ga K c)
      | _ => false) && ((match PySem.W.recIn K (ma K (ga K c) m) "staticmethod" with
      | some (.ref _ :: _) => true
      | _ => false) && PySem.W.keepIn K (.ref (recFn K (ma K (ga K c) m) "staticmethod")))))
  | .clsm c m => PySem.W.readsIn K (ga K c) (.type "type") && (eqO (PySem.W.specialIn K (.ref (ga K c)) "__getattribute__") (some (some (.builtin "type.__getattribute__"))) && ((match PySem.W.findCls K (.ref (ga K c)) (.type "type") m with
      | some (.get (.builtin "classmethod.__get__") (.ref q) .none (.ref C)) => decide (q = ma K (ga K c) m) && decide (C = ga K c)
      | _ => false) && ((match PySem.W.recIn K (ma K (ga K c) m) "classmethod" with
      | some (.ref _ :: _) => true
      | _ => false) && PySem.W.fnIn K (recFn K (ma K (ga K c) m) "classmethod"))))
  | .eqc c => eqO (PySem.W.findIn K (.ref (ga K c)) "__eq__") (some (some (.ref (ma K (ga K c) "__eq__")))) && (PySem.W.isFn K (.ref (ma K (ga K c) "__eq__")) && (eqO (PySem.W.findIn K (.ref (ga K c)) "__ne__") (some (some (.builtin "object.__ne__"))) && decide (PySem.W.mroIn K (ga K c) (.type "object") = some true)))
  | .isi cs => (cs.all fun c => insB K (ga K c)) && ((cs.all fun c => cs.all fun k => decide (PySem.W.kitOne K (.ref (ga K c)) (.ref (ga K k)) = some (subC c k))) &&
    ((["NoneType", "bool", "int", "str", "tuple", "list"].all fun a => cs.all fun k => decide (PySem.W.kitOne K (.type a) (.ref (ga K k)) = some false)) &&
    (cs.all fun c => ["int", "bool", "str", "tuple", "list"].all fun n => decide (PySem.W.kitOne K (.ref (ga K c)) (.type n) = some false))))
  | .len c => eqO (PySem.W.findIn K (.ref (ga K c)) "__len__") (some (some (.ref (ma K (ga K c) "__len__")))) && PySem.W.isFn K (.ref (ma K (ga K c) "__len__"))
  | .raw f => f K
section
variable {K : PySem.W.Frag}
theorem prop_ok {c f : Str} (h : (Ft.prop c f).ok K = true) : PropOf K (ga K c) f (ma K (ga K c) f) ((Pl.prop c f).ad K) := by
  obtain ⟨h1, h⟩ := ba h
  obtain ⟨h2, h⟩ := ba h
  obtain ⟨h3, h4⟩ := ba h
  refine ⟨eqO_ok h1, eqO_ok h2, of_decide_eq_true h3, ?_⟩
  unfold Pl.ad recFn
  split at h4
  · rename_i g rest e
    simp only [e]
    exact ⟨rest, rfl⟩
  · cases h4
theorem clsm_ok {c m : Str} (h : (Ft.clsm c m).ok K = true) : ClX.CRead K (ga K c) (.type "type") ∧ ClX.CMet K (ga K c) (.type "type") m (ma K (ga K c) m) ((Pl.clsm c m).ad K) := by
  obtain ⟨h1, h⟩ := ba h
  obtain ⟨h2, h⟩ := ba h
  obtain ⟨h3, h⟩ := ba h
  obtain ⟨h4, h5⟩ := ba h
  refine ⟨⟨h1, eqO_ok h2⟩, ?_, ?_, h5⟩
  · split at h3
    · rename_i q C e
      obtain ⟨e1, e2⟩ := ba h3
      rw [e, of_decide_eq_true e1, of_decide_eq_true e2]
    · cases h3
  · unfold Pl.ad recFn
    split at h4
    · rename_i g rest e
      simp only [e]
      exact ⟨rest, rfl⟩
    · cases h4
theorem eqc_ok {c : Str} (h : (Ft.eqc c).ok K = true) : EqC K (ga K c) ((Pl.meth c "__eq__").ad K) := by
  obtain ⟨h1, h⟩ := ba h
  obtain ⟨h2, h⟩ := ba h
  obtain ⟨h3, h4⟩ := ba h
  exact ⟨eqO_ok h1, h2, eqO_ok h3, of_decide_eq_true h4⟩
theorem isi_ok {cs : List Str} (h : (Ft.isi cs).ok K = true) : IsiOk (WW cs K) := by
  obtain ⟨h1, h⟩ := ba h
  obtain ⟨h2, h⟩ := ba h
  obtain ⟨h3, h4⟩ := ba h
  refine ⟨fun c hc H a dx fs e => ?_, fun c hc k hk => ?_, fun a ha k hk => ?_, fun c hc n hn => ?_⟩
  · obtain ⟨k1, k⟩ := ba (List.all_eq_true.mp h1 c hc)
    obtain ⟨k2, k⟩ := ba k
    obtain ⟨k3, k⟩ := ba k
    obtain ⟨k4, k5⟩ := ba k
    obtain ⟨c1, c⟩ := ba k1
    obtain ⟨c2, c⟩ := ba c
    obtain ⟨c3, c4⟩ := ba c
    exact .ins e ⟨c1, c2, c3, eqO_ok c4⟩ (eqO_ok k2) (eqO_ok k3) (of_decide_eq_true k4) (of_decide_eq_true k5)
  · exact of_decide_eq_true (List.all_eq_true.mp (List.all_eq_true.mp h2 c hc) k hk)
  · exact of_decide_eq_true (List.all_eq_true.mp (List.all_eq_true.mp h3 a ha) k hk)
  · exact of_decide_eq_true (List.all_eq_true.mp (List.all_eq_true.mp h4 c hc) n hn)
end
/-! ### the Hook -/
abbrev AlP : Type := Bool × List FnW
def obsP (fa : List Ft) (fn : List DefP) (K : PySem.W.Frag) : AlP := ((fa.all fun f => f.ok K) && fn.all fun d => d.ok K, fn.map fun d => fnP K (d.at_.ad K))
def valP (fn : List DefP) : AlP := (true, fn.map DefP.val)
def SaysP (fa : List Ft) (fn : List DefP) (K : PySem.W.Frag) : Prop := obsP fa fn K = valP fn
def obsPG (n : Nat) (fa : List Ft) (fn : List DefP) (g : Addr → Option Obj) : AlP := obsP fa fn (frG g (asM g n))
def hookP (n : Nat) (fa : List Ft) (fn : List DefP) : PySem.W.Hook where
  α := AlP
  obs := fun s => obsPG n fa fn s.heap.get?
  val := fun _ => valP fn
  says := fun _ h => ∃ K : PySem.W.Frag, K.In h ∧ SaysP fa fn K
  of := fun _ _ e => ⟨_, frG_in, e⟩
  keeps := fun _ _ _ ⟨K, hK, c⟩ k => ⟨K, PySem.W.Frag.In.keeps hK k, c⟩
theorem obsPG_eq {n : Nat} {fa : List Ft} {fn : List DefP} {g : Addr → Option Obj} {s : Shared} (h : ∀ a, g a = s.heap.get? a) : obsPG n fa fn g = (hookP n fa fn).obs s := by
  have e : g = s.heap.get? := funext h
  rw [e] <;> rfl
/-- all that the walk leans on -/
structure HF (fa : List Ft) (fn : List DefP) (K : PySem.W.Frag) (mg : Str → Option Value) : Prop where
  says : SaysP fa fn K
  ns : ∃ h : Heap, K.In h ∧ h.Ns mainGlobals mg
section
variable {fa : List Ft} {fn : List DefP} {K : PySem.W.Frag} {mg : Str → Option Value}
theorem HF.fact (c : HF fa fn K mg) (i : Nat) {f : Ft} (h : fa[i]? = some f) : f.ok K = true := by
  have c1 := (ba (show ((fa.all fun f => f.ok K) && fn.all fun d => d.ok K) = true from congrArg (fun z : AlP => z.1) c.says)).1
  exact List.all_eq_true.mp c1 f (List.mem_of_getElem? h)
theorem HF.fun_ (c : HF fa fn K mg) (i : Nat) {d : DefP} (h : fn[i]? = some d) : FunP K d := by
  have c2 := (ba (show ((fa.all fun f => f.ok K) && fn.all fun d => d.ok K) = true from congrArg (fun z : AlP => z.1) c.says)).2
  have e : fn.map (fun d => fnP K (d.at_.ad K)) = fn.map DefP.val := congrArg (fun z : AlP => z.2) c.says
  have e2 : (fn.map fun d => fnP K (d.at_.ad K))[i]? = (fn.map DefP.val)[i]? := by rw [e]
  rw [List.getElem?_map, List.getElem?_map, h] at e2
  exact DefP.funD (Option.some.inj e2) (List.all_eq_true.mp c2 d (List.mem_of_getElem? h))
theorem HF.glo (c : HF fa fn K mg) (i : Nat) {x : Str} (h : fa[i]? = some (.b (.glo x))) : mg x = some (.ref (ga K x)) := by
  obtain ⟨_, X, G⟩ := c.ns
  exact glo_ok X G (c.fact i h)
theorem HF.free (c : HF fa fn K mg) (i : Nat) {x : Str} (h : fa[i]? = some (.b (.free x))) : mg x = none := by
  obtain ⟨_, X, G⟩ := c.ns
  exact free_ok X G (c.fact i h)
theorem HF.int (c : HF fa fn K mg) (i : Nat) {x : Str} {n : Int} (h : fa[i]? = some (.b (.int x n))) : ∃ t, mg x = some (.int n t) := by
  obtain ⟨_, X, G⟩ := c.ns
  exact int_ok X G (c.fact i h)
theorem HF.str (c : HF fa fn K mg) (i : Nat) {x z : Str} (h : fa[i]? = some (.b (.str x z))) : ∃ t, mg x = some (.str z t) := by
  obtain ⟨_, X, G⟩ := c.ns
  exact str_ok X G (c.fact i h)
theorem HF.cls (c : HF fa fn K mg) (i : Nat) {x : Str} (h : fa[i]? = some (.b (.cls x))) : Cls K (ga K x) := cls_ok (c.fact i h)
theorem HF.noat (c : HF fa fn K mg) (i : Nat) {x f : Str} (h : fa[i]? = some (.b (.noat x f))) : NoAttr K (ga K x) f := noat_ok (c.fact i h)
theorem HF.meth (c : HF fa fn K mg) (i : Nat) {x m : Str} (h : fa[i]? = some (.b (.meth x m))) : Meth K (ga K x) m ((Pl.meth x m).ad K) := meth_ok (c.fact i h)
theorem HF.mkr (c : HF fa fn K mg) (i : Nat) {x : Str} (h : fa[i]? = some (.b (.mkr x))) : Mk K (ga K x) ((Pl.meth x "__init__").ad K) := mkr_ok (c.fact i h)
end
/-- a def's promise at its place -/
abbrev FO (cs : List Str) (P : Program) (w : World) (K : PySem.W.Frag) (mg : Str → Option Value) (base : Heap) (k : Nat) (pl : Pl) (ps : List Str) (n : Nat) (mf : List D → M D) : Prop := FnOk P w K mg base CX0 k (pl.ad K) (fdOf K (pl.ad K)) ps (spM (WW cs K) n mf)
end Mi


set_option Elab.async false
set_option linter.all false
set_option maxRecDepth 100000
set_option maxHeartbeats 4000000
/-! MiC: walks over lists or tuples; owned lists borrowed by an expression; names of built-ins. -/
namespace Mi
open PySem PySem.Spec PyProof.Rows L2

/-! ### built-ins by name -/
theorem bb_len : bootBuiltins "len" = some (.builtin "len") := by decide +kernel
theorem bb_max : bootBuiltins "max" = some (.builtin "max") := by decide +kernel
theorem bb_min : bootBuiltins "min" = some (.builtin "min") := by decide +kernel
theorem bb_all : bootBuiltins "all" = some (.builtin "all") := by decide +kernel
theorem bb_abs : bootBuiltins "abs" = some (.builtin "abs") := by decide +kernel
theorem bb_divmod : bootBuiltins "divmod" = some (.builtin "divmod") := by decide +kernel
theorem bb_isinstance : bootBuiltins "isinstance" = some (.builtin "isinstance") := by decide +kernel
theorem bb_int : bootBuiltins "int" = some (.type "int") := by decide +kernel
theorem bb_bool : bootBuiltins "bool" = some (.type "bool") := by decide +kernel
theorem bb_str : bootBuiltins "str" = some (.type "str") := by decide +kernel
theorem bb_tuple : bootBuiltins "tuple" = some (.type "tuple") := by decide +kernel

/-! ### walks over lists or tuples -/
theorem _root_.L2.PI.or {X : Cx} {tg e : Expr} {t t' : TI} (h : PI X tg e t) (h' : PI X tg e t') : PI X tg e (fun σ H R => t σ H R ∨ t' σ H R) := ⟨fun pins s σ H R I q => q.elim (h.run pins s σ H R I) (h'.run pins s σ H R I)⟩
/-- what is walked over -/
def itD : D → Option (List D)
  | .lst ds => some ds
  | .tup ds => some ds
  | .str z => some (z.cps.toList.map fun c => .str ⟨#[c]⟩)
  | _ => none
def mIany (m : ME) : MA := fun ρ => M.bind (m ρ) fun d => lft (itD d)
theorem walkD_str {W : Wo} {p : Addr} {F : Hp} {z : Str} : WalkD W p (Its z) F (z.cps.toList.map fun c => .str ⟨#[c]⟩) := by
  refine ⟨_, _, by simpa using walk_str (z := z), fun _ _ => trivial, fun i H x H' F2 u d hd e g hy => ?_⟩
  obtain ⟨rfl, c, hc, rfl⟩ := hy
  refine ⟨F2, Stp.refl, g, ?_⟩
  rw [List.getElem?_map] at hd
  have hc' : z.cps.toList[i]? = some c := by simpa using hc
  rw [hc'] at hd
  cases hd
  exact .str _
def enumA : List D → Option (List D) := fun ds => match ds with
  | [.lst xs] => some (enumD xs)
  | [.tup xs] => some (enumD xs)
  | _ => none
section
variable {X : Cx} {c : Cf} {tg e a b : Expr} {m : ME} {ms : MA} {pos q : Pos}
theorem dIany (h : DE X c e m) (hK : X.K = c.W.K := by rfl) : DI X c tg e (mIany m) :=
  ((dIlist h hK).or ((dItup h hK).or (pi_str h))).imp fun σ H R ⟨F, u, ρ, S, h⟩ => by
    unfold mIany M.bind at h
    cases e1 : m ρ u with
    | none => rw [e1] at h; exact False.elim h
    | some y =>
      obtain ⟨d, u1⟩ := y
      rw [e1] at h
      cases d with
      | lst ds => exact .inl ⟨F, u, ρ, S, by unfold mIseq M.bind; rw [e1]; exact h⟩
      | tup ds => exact .inr (.inl ⟨F, u, ρ, S, by unfold mItup M.bind; rw [e1]; exact h⟩)
      | str z =>
        refine .inr (.inr ⟨F, u, ρ, S, ?_⟩)
        rw [e1]
        exact fun F' H' s' g' v rv => ⟨z, rv.str_, h F' H' s' g' _ walkD_str⟩
      | _ => exact False.elim h
theorem dIenumA {elts : List Expr} {kk : Nat} {tpos : Pos} (hg : Gl X "enumerate") (hm : X.mg "enumerate" = none) (ha : DA X c [a] ms) (hs : starEach [a] X.env = [(false, eval a X.env)] := by rfl) (hK : X.K = c.W.K := by rfl) :
    DI X c (.Tuple elts kk tpos) (.Call (.Name "enumerate" q) [a] [] pos) (mIof enumA ms) :=
  ((dIenum hg hm ha hs hK).or (dIenumT hg hm ha hs hK)).imp fun σ H R ⟨F, u, ρ, S, h⟩ => by
    unfold mIof M.bind at h
    cases e1 : ms ρ u with
    | none => rw [e1] at h; exact False.elim h
    | some y =>
      obtain ⟨ds, u1⟩ := y
      rw [e1] at h
      have key : ∀ f, enumA ds = f ds → rdI c (mIof f ms) σ H R := fun f hf => ⟨F, u, ρ, S, by
        unfold mIof M.bind
        rw [e1]
        show After c.p F H (lft (f ds) u1) _
        rw [← hf]
        exact h⟩
      match ds, h, key with
      | [.lst xs], h, key => exact .inl (key _ rfl)
      | [.tup xs], h, key => exact .inr (key _ rfl)
      | [], h, _ => exact False.elim h
      | [.non], h, _ => exact False.elim h
      | [.bl _], h, _ => exact False.elim h
      | [.int _], h, _ => exact False.elim h
      | [.str _], h, _ => exact False.elim h
      | [.obj _ _ _], h, _ => exact False.elim h
      | [.pur], h, _ => exact False.elim h
      | [.ty _], h, _ => exact False.elim h
      | [.cls _], h, _ => exact False.elim h
      | [.scr _], h, _ => exact False.elim h
      | x :: y :: r, h, _ => exact (by cases x <;> exact False.elim h)
end

/-! ### borrowing -/
mutual
def noLst : D → Bool
  | .lst _ => false
  | .scr _ => false
  | .tup ds => noLsts ds
  | .obj _ _ ds => noLsts ds
  | _ => true
def noLsts : List D → Bool
  | [] => true
  | d :: ds => noLst d && noLsts ds
end
theorem noLsts_at : ∀ {ds : List D} {i : Nat} {d : D}, noLsts ds = true → ds[i]? = some d → noLst d = true
  | [], i, d, _, e => by simp at e
  | a :: ds, 0, d, h, e => by
    simp at e
    subst e
    unfold noLsts at h
    exact (Bool.and_eq_true_iff.mp h).1
  | a :: ds, i + 1, d, h, e => by
    unfold noLsts at h
    exact noLsts_at (Bool.and_eq_true_iff.mp h).2 (by simpa using e)
theorem Rep.without {W : Wo} {p q : Addr} {F F' : Hp} {ws : List V} (hq : F q = some (.lst ws)) (sub : ∀ a o, a ≠ q → F a = some o → F' a = some o) {v : V} {d : D} (h : Rep W p F v d) : noLst d = true → Rep W p F' v d := by
  induction h with
  | non => exact fun _ => .non
  | bl b => exact fun _ => .bl b
  | int i => exact fun _ => .int i
  | str x => exact fun _ => .str x
  | ty n => exact fun _ => .ty n
  | cls c hc => exact fun _ => .cls c hc
  | pur => exact fun _ => .pur
  | scr h => intro n; unfold noLst at n; cases n
  | tup h l r ih =>
    intro n
    unfold noLst at n
    refine .tup ?_ l fun i v d e1 e2 => ih i v d e1 e2 (noLsts_at n e2)
    rcases h with (h | ⟨o, h⟩) | h
    · exact .inl (.inl (sub _ _ (fun z => by rw [z, hq] at h; cases h) h))
    · exact .inl (.inr ⟨o, sub _ _ (fun z => by rw [z, hq] at h; cases h) h⟩)
    · exact .inr h
  | lst h l r ih => intro n; unfold noLst at n; cases n
  | obj hc h lk l r ih =>
    intro n
    unfold noLst at n
    exact .obj hc (sub _ _ (fun z => by rw [z, hq] at h; cases h) h) lk l fun i v d e1 e2 => ih i v d e1 e2 (noLsts_at n e2)
def del (F : Hp) (q : Addr) : Hp := fun a => if a = q then none else F a
theorem del_ne {F : Hp} {q a : Addr} (h : a ≠ q) : del F q a = F a := if_neg h
theorem del_of {F : Hp} {q a : Addr} {o : HO} (h : del F q a = some o) : a ≠ q ∧ F a = some o := by
  unfold del at h
  split at h
  · cases h
  · exact ⟨by assumption, h⟩
/-- an owned list lent out: frozen within, taken back behind -/
theorem Sta.lend {c : Cf} {u : PuS} {F H : Hp} {σ : L2.St} {ρ : Env} (S : Sta c u F H σ ρ) (i : Nat) : Mi.frz i ρ = ρ ∨ ∃ q ws F1, Sta c u F1 H σ (Mi.frz i ρ) ∧ F1 q = some (.lst ws) ∧
    ∀ u' F' H', Stp c.p F1 H F' H' → Gd c.p u' F' H' → Stp c.p F H (del F' q) H' ∧ Gd c.p u' (del F' q) H' ∧ F' q = some (.lst ws) := by
  unfold Mi.frz
  cases ho : vOw ρ i with
  | none => exact .inl rfl
  | some ds =>
    right
    obtain ⟨q, vs, e1, hq, hf, hp, h0, r⟩ := S.ow ho
    have hsm : Same F (upd F q (.lst vs)) := fun a o e => by rw [upd_ne (fun z => by rw [z, hf] at e; cases e)]; exact e
    have qs : ∀ {j : Nat} {t : Sd} {a : Addr}, i ≠ j → ρ[j]? = some t → t.own = true → σ[j]? = some (some (.ref a)) → a ≠ q := fun {j t a} ne e2 o z h => by
      subst h
      exact S.env.ne i j _ t ne (vOw_at ho) e2 rfl o (e1.trans z.symm)
    refine ⟨q, vs, upd F q (.lst vs), ⟨⟨S.ent.ef.trans hsm, S.ent.eh, fun a o e => ?_⟩, ⟨fun a o e => ?_, S.gd.pu, fun l e => by rw [upd_ne (Ne.symm hp)]; exact S.gd.off l e⟩, by simpa using S.env.len, fun j t e => ?_, fun j k t t' h ea eb o1 o2 => ?_⟩, upd_same, fun u' F' H' s g => ⟨⟨fun a o e => ?_, s.eh, fun a o e => ?_⟩, ⟨fun a o e => ?_, g.pu, fun l e => ?_⟩, s.ef q _ upd_same⟩⟩
    · by_cases ha : a = q
      · subst ha; exact .inr h0
      · rw [upd_ne ha] at e; exact S.ent.nw a o e
    · by_cases ha : a = q
      · subst ha; rw [upd_same] at e; cases e; exact hq
      · rw [upd_ne ha] at e; exact S.gd.ex a o e
    · rcases set_get e with ⟨rfl, rfl, _⟩ | ⟨ne, e⟩
      · exact ⟨.ref q, e1, Rep.mkL upd_same (r.mono hsm)⟩
      · have k := S.env.at_ j t e
        cases t with
        | un => trivial
        | sh d => obtain ⟨v, z, r'⟩ := k; exact ⟨v, z, r'.mono hsm⟩
        | ow es => obtain ⟨a, xs, z, ha, hfa, w1, w2, r'⟩ := k; exact ⟨a, xs, z, ha, by rw [upd_ne (qs ne e rfl z)]; exact hfa, w1, w2, r'.mono hsm⟩
        | oi kk ks es => obtain ⟨dx, xs, z, ha, hfa, w1, w2, w3, r'⟩ := k; exact ⟨dx, xs, z, ha, by rw [upd_ne (qs ne e rfl z)]; exact hfa, w1, w2, w3, r'.mono hsm⟩
    · rcases set_get ea with ⟨rfl, rfl, _⟩ | ⟨n1, ea⟩
      · cases o1
      · rcases set_get eb with ⟨rfl, rfl, _⟩ | ⟨n2, eb⟩
        · cases o2
        · exact S.env.ne j k t t' h ea eb o1 o2
    · have ha : a ≠ q := fun z => by rw [z, hf] at e; cases e
      rw [del_ne ha]
      exact s.ef a o (by rw [upd_ne ha]; exact e)
    · obtain ⟨ha, e⟩ := del_of e
      rcases s.nw a o e with h | h
      · rw [upd_ne ha] at h; exact .inl h
      · exact .inr h
    · obtain ⟨ha, e⟩ := del_of e
      exact g.ex a o e
    · rw [del_ne (Ne.symm hp)]
      exact g.off l e
def mBorL (i : Nat) (m : MA) : MA := fun ρ => M.bind (m (frz i ρ)) fun d => lft (if noLsts d = true then some d else none)
section
variable {X : Cx} {c : Cf} {e : Expr} {m : ME} {mt : MT} {ml : MA} {i : Nat}
end
end Mi


set_option Elab.async false
set_option linter.all false
set_option maxRecDepth 100000
set_option maxHeartbeats 4000000
/-! MiD: == and != of objects as conditions; chained comparisons. -/
namespace Mi
open PySem PySem.Spec PyProof.Rows L2
section
variable {X : Cx} {c : Cf} {k : Nat} {f : Addr} {fd : FuncData} {ps : List Str} {mf : List D → M D} {ck : Str} {a b : Expr} {ma mb : ME} {pos : Pos}
theorem rdEqO : ∀ σ H Q, rdE c (mEqO ck mf ma mb) σ H Q → tOp (rOwn (c.W.cl ck) id (spM c.W 2 mf)) (rdE c ma) (rdE c mb) σ H Q :=
  fun σ H Q ⟨F, u, ρ, S, h⟩ =>
    ⟨F, u, ρ, S, (After.split h).imp fun x u1 F1 H1 _ s1 g1 h1 v rv => ⟨F1, u1, ρ, S.step s1 g1, (After.split h1).imp fun y u2 F2 H2 _ s2 g2 h2 w rw => by
      have rv := rv.mono s2.ef
      split at h2
      · split at h2
        · rename_i hh
          obtain ⟨rfl, e2⟩ := hh
          subst e2
          obtain ⟨p1, dx, vs, rfl, h3, _⟩ := id rv.obj_
          obtain ⟨p2, dy, ws, rfl, h4, _⟩ := id rw.obj_
          refine ⟨p1, p2, dx, dy, _, _, rfl, rfl, g2.ex _ _ h3, g2.ex _ _ h4, rfl, c.p, F2, u2, [_, _], g2, Reps.cons rv (Reps.cons rw Reps.nil), (After.split h2).imp fun d u3 F3 H3 _ s3 g3 h5 z rz => ?_⟩
          split at h5
          · rename_i bb _h
            have h6 : After c.p F3 H3 (some (D.bl bb, u3)) (fun d _ F' H' => ∀ v, Rep c.W c.p F' v d → Q v H') := h5
            exact ⟨bb, rz.bl_, After.now g3 h6 _ (.bl bb)⟩
          · exact False.elim h5
        · exact False.elim h2
      · exact False.elim h2⟩⟩
theorem dTeqO (G : FnOk X.prog X.w X.K X.mg X.base CX0 k f fd ps (spM c.W 2 mf)) (hr : Room k X.A) (hb : Binds X.K fd ps []) (hc : EqC X.K (c.W.cl ck) f) (ha : DE X c a ma) (hb' : DE X c b mb) : DT X c (.Compare a [.Eq] [b] pos) (mB (mEqO ck mf ma mb)) :=
  (pt_cmpR (op_eqOwn G hr hb hc) ha hb' (nomark _)).imp fun σ H Q h => rdEqO σ H _ (rdB σ H Q h)
end
end Mi


set_option Elab.async false
set_option linter.all false
set_option maxRecDepth 100000
set_option maxHeartbeats 4000000
/-! MiE: the purse read and written; defs that return fresh lists; a call with a purse of its own. -/
namespace Mi
open PySem PySem.Spec PyProof.Rows L2

/-! ### the purse -/
def getP (d k : D) : M D := fun u => match d, k, u with
  | .pur, .int j, .real l => (atI l j).map fun n => (.int n, u)
  | _, _, _ => none
def putP (d k v : D) : M Unit := fun u => match d, k, v, u with
  | .pur, .int j, .int a, .real l => (ixN l.length j).map fun n => ((), .real (l.set n a))
  | _, _, _, _ => none
def mIxP (i : Nat) (mi : ME) : ME := fun ρ => M.bind (mi ρ) fun k => M.bind (lft (vSh ρ i)) fun d => getP d k
def mPutP (i : Nat) (m mi : ME) : MS := fun ρ => M.bind (m ρ) fun v => M.bind (mi ρ) fun k => M.bind (lft (vSh ρ i)) fun d => M.bind (putP d k v) fun _ => M.pure (.nx ρ)
def mDmP (i : Nat) (mi : ME) (j : Nat) (m : ME) : MS := fun ρ => M.bind (m ρ) fun v => match v with
  | .tup [.int a, .int b] => M.bind (mi ρ) fun k => M.bind (lft (vSh ρ i)) fun d => M.bind (putP d k (.int a)) fun _ => M.pure (.nx (ρ.set j (.sh (.int b))))
  | _ => lft none
theorem Sta.purse {c : Cf} {l l' : List Int} {F H : Hp} {σ : L2.St} {ρ : Env} (S : Sta c (.real l) F H σ ρ) : Sta c (.real l') F (upd H c.p (.lst (l'.map V.int))) σ ρ := by
  have hp := S.gd.off l rfl
  refine ⟨⟨S.ent.ef, fun a o h e => by rw [upd_ne h]; exact S.ent.eh a o h e, S.ent.nw⟩, ⟨fun a o e => ?_, upd_same, fun _ _ => hp⟩, S.env.len, fun i s e => ?_, S.env.ne⟩
  · rw [upd_ne (fun z => by rw [z, hp] at e; cases e)]; exact S.gd.ex a o e
  · have k := S.env.at_ i s e
    cases s with
    | un => trivial
    | sh d => exact k
    | ow es => obtain ⟨a, xs, z, ha, hf, w1, w⟩ := k; exact ⟨a, xs, z, by rw [upd_ne w1]; exact ha, hf, w1, w⟩
    | oi kk ks es => obtain ⟨dx, xs, z, ha, hf, w1, w⟩ := k; exact ⟨dx, xs, z, by rw [upd_ne w1]; exact ha, hf, w1, w⟩
theorem Gd.purse {p : Addr} {l : List Int} {F H : Hp} (g : Gd p (.real l) F H) : H p = some (.lst (l.map V.int)) := g.pu
section
variable {X : Cx} {c : Cf} {pos : Pos} {e ie : Expr} {m mi : ME} {i : Nat} {x : Str}
theorem Rep.pur_ {W : Wo} {p : Addr} {F : Hp} {v : V} (h : Rep W p F v .pur) : v = .ref p := by cases h; rfl
theorem dIxP (i : Nat) {x : Str} {p0 : Pos} (hk : DE X c ie mi) (hN : X.N[i]? = some x := by rfl) (hv : Vis X.env.scope x := by first | exact Or.inl rfl | exact Or.inr (Or.inl rfl) | exact Or.inr (Or.inr rfl)) (hd : (x == ("__debug__" : Str)) = false := by decide)
    (hcd : (x == ("__classdict__" : Str)) = false := by decide) (hs : PlainIx ie := by exact fun _ _ => rfl) : DE X c (.Subscript (.Name x p0) ie pos) (mIxP i mi) :=
  (pe_ix ix_list (pe_var (i := i) hN hv hd hcd) hk hs).imp fun σ H Q ⟨F, u, ρ, S, h⟩ => by
    unfold mIxP at h
    cases ho : vSh ρ i with
    | none =>
      exfalso
      unfold M.bind at h
      cases e1 : mi ρ u with
      | none => rw [e1] at h; exact h
      | some y => rw [e1, ho] at h; exact h
    | some d =>
      obtain ⟨v, ev, rv⟩ := S.var ho
      refine ⟨v, ev, F, u, ρ, S, (After.split h).imp fun k u2 F2 H2 _ s2 g2 h2 w rw => ?_⟩
      obtain ⟨d', e2, h3⟩ := lft_some' h2
      rw [ho] at e2
      cases e2
      cases d with
      | pur =>
        cases k with
        | int j =>
          cases u2 with
          | real l =>
            have h4 : After c.p F2 H2 ((atI l j).map fun n => (D.int n, PuS.real l)) fun d _ F' H' => ∀ v, Rep c.W c.p F' v d → Q v H' := h3
            cases e4 : atI l j with
            | none => rw [e4] at h4; exact False.elim h4
            | some n =>
              rw [e4] at h4
              have h5 : After c.p F2 H2 (some (D.int n, PuS.real l)) fun d _ F' H' => ∀ v, Rep c.W c.p F' v d → Q v H' := h4
              refine ⟨c.p, _, j, .int n, rv.pur_, rw.int_, SqL.of g2.purse, by rw [atI_map, e4]; rfl, After.now g2 h5 _ (.int n)⟩
          | idle o => exact False.elim h3
        | _ => exact False.elim h3
      | _ => cases k <;> exact False.elim h3
theorem put_ok {F H : Hp} {u : PuS} {σ : L2.St} {ρ ρ' : Env} {d k v : D} {vd vk vv : V} {Dn : Ends} {σ' : L2.St} (S : Sta c u F H σ ρ) (rd : Rep c.W c.p F vd d) (rk : Rep c.W c.p F vk k) (rv : Rep c.W c.p F vv v)
    (h : flowO c F Dn (M.bind (putP d k v) (fun _ => M.pure (.nx ρ')) u)) (hs : ∀ {u' F' H'}, Sta c u' F' H' σ ρ → Sta c u' F' H' σ' ρ') : rSetL vd vk vv H fun H4 => Dn.nx σ' H4 := by
  unfold M.bind at h
  cases d with
  | pur =>
    cases k with
    | int j =>
      cases v with
      | int a =>
        cases u with
        | real l =>
          have e0 : putP D.pur (D.int j) (D.int a) (PuS.real l) = (ixN l.length j).map fun n => ((), PuS.real (l.set n a)) := rfl
          rw [e0] at h
          have h2 := h
          cases e1 : ixN l.length j with
          | none => rw [e1] at h2; exact False.elim h2
          | some n =>
            rw [e1] at h2
            refine ⟨c.p, _, j, n, rd.pur_, rk.int_, S.gd.purse, by rw [List.length_map]; exact e1, ?_⟩
            rw [rv.int_, ← List.map_set]
            exact h2 σ' F _ (Same.refl _) (hs (S.purse (l' := l.set n a)))
        | idle o => exact False.elim h
      | _ => exact False.elim h
    | _ => cases v <;> exact False.elim h
  | _ => cases k <;> cases v <;> exact False.elim h
theorem dPutP (i : Nat) {x : Str} {p0 tp : Pos} (he : DE X c e m) (hk : DE X c ie mi) (hN : X.N[i]? = some x := by rfl) (hv : Vis X.env.scope x := by first | exact Or.inl rfl | exact Or.inr (Or.inl rfl) | exact Or.inr (Or.inr rfl)) (hd : (x == ("__debug__" : Str)) = false := by decide)
    (hcd : (x == ("__classdict__" : Str)) = false := by decide)
    (ha : ∀ v, assign (.Subscript (.Name x p0) ie tp) X.env v = (do
      let ov ← holding [v] (eval (.Name x p0) X.env)
      let iv ← holding [v, ov] (eval ie X.env)
      standAt tp
      holding [v, ov, iv] (setItem ov iv v)
      release [v, ov, iv] []) := by intro _; rfl)
    (hs : swapsWithSole [.Subscript (.Name x p0) ie tp] e pos.line X.env = pure false := by rfl) (hw : swappedStores [.Subscript (.Name x p0) ie tp] e X.env = pure none := by rfl)
    (h1 : (assignEach [.Subscript (.Name x p0) ie tp] X.env).map (·.2) = [assign (.Subscript (.Name x p0) ie tp) X.env] := by rfl) : DS X c (.Assign [.Subscript (.Name x p0) ie tp] e pos) (mPutP i m mi) :=
  (ps_asg he (pg_sub (pe_var (i := i) hN hv hd hcd) hk set_list ha) hs hw h1).imp fun Dn σ H ⟨F, u, ρ, S, h⟩ => ⟨F, u, ρ, S, (flowO.after S h).imp fun d u1 F1 H1 _ s1 g1 h1 v rv => by
    cases ho : vSh ρ i with
    | none =>
      exfalso
      have h2 := h1.2
      unfold M.bind at h2
      cases e1 : mi ρ u1 with
      | none => rw [e1] at h2; exact h2
      | some y => rw [e1, ho] at h2; exact h2
    | some dd =>
      obtain ⟨vd, ev, rvd⟩ := h1.1.var ho
      refine ⟨vd, ev, F1, u1, ρ, h1.1, (flowO.after h1.1 h1.2).imp fun k u2 F2 H2 _ s2 g2 h2 w rw => ?_⟩
      obtain ⟨d', e2, h3⟩ := flowO.lft h2.1 h2.2
      rw [ho] at e2
      cases e2
      exact put_ok h2.1 (rvd.mono s2.ef) rw (rv.mono s2.ef) h3 id⟩
/-- x[k], y = e -/
theorem dDmP (i j : Nat) {x y : Str} {p0 p1 tp tq : Pos} {kt : Nat} (hc : X.calm = true) (he : DE X c e m) (hk : DE X c ie mi) (hNd : X.N.Nodup) (hj : X.N[j]? = some y) (hy : Loc X.env.scope y) (hN : X.N[i]? = some x := by rfl) (hv : Vis X.env.scope x := by first | exact Or.inl rfl | exact Or.inr (Or.inl rfl) | exact Or.inr (Or.inr rfl)) (hd : (x == ("__debug__" : Str)) = false := by decide)
    (hcd : (x == ("__classdict__" : Str)) = false := by decide)
    (ha : ∀ v, assign (.Subscript (.Name x p0) ie tp) X.env v = (do
      let ov ← holding [v] (eval (.Name x p0) X.env)
      let iv ← holding [v, ov] (eval ie X.env)
      standAt tp
      holding [v, ov, iv] (setItem ov iv v)
      release [v, ov, iv] []) := by intro _; rfl)
    (hf : X.fn y = true ∨ X.env.scope.names.lookup y = some .local := by first | exact .inl rfl | exact .inr rfl | assumption)
    (ht : (assignEach [.Subscript (.Name x p0) ie tp, .Name y p1] X.env).length = 2 := by rfl) (hst : (assignEach [.Subscript (.Name x p0) ie tp, .Name y p1] X.env).findIdx? (·.1) = none := by rfl)
    (hq1 : (assignEach [.Subscript (.Name x p0) ie tp, .Name y p1] X.env).map (·.2) = assign (.Subscript (.Name x p0) ie tp) X.env :: (assignEach [.Name y p1] X.env).map (·.2) := by rfl)
    (hq2 : (assignEach [.Name y p1] X.env).map (·.2) = assign (.Name y p1) X.env :: (assignEach [] X.env).map (·.2) := by rfl)
    (hs : swapsWithSole [.Tuple [.Subscript (.Name x p0) ie tp, .Name y p1] kt tq] e pos.line X.env = pure false := by rfl) (hw : swappedStores [.Tuple [.Subscript (.Name x p0) ie tp, .Name y p1] kt tq] e X.env = pure none := by rfl)
    (h1 : (assignEach [.Tuple [.Subscript (.Name x p0) ie tp, .Name y p1] kt tq] X.env).map (·.2) = [assign (.Tuple [.Subscript (.Name x p0) ie tp, .Name y p1] kt tq) X.env] := by rfl) (hK : X.K = c.W.K := by rfl) :
    DS X c (.Assign [.Tuple [.Subscript (.Name x p0) ie tp, .Name y p1] kt tq] e pos) (mDmP i mi j m) :=
  (ps_asg he (pg_tup hc (pgs_cons (pg_sub (pe_var (i := i) hN hv hd hcd) hk set_list ha) (pgs_cons (pg_name (i := j) hNd hj hy hf) pgs_nil hq2) hq1) ht hst) hs hw h1).imp fun Dn σ H ⟨F, u, ρ, S, h⟩ => ⟨F, u, ρ, S, (flowO.after S h).imp fun d u1 F1 H1 _ s1 g1 h1 v rv => by
    have h2 := h1.2
    split at h2
    · rename_i a b _hh
      obtain ⟨q, vs, rfl, hq, rs⟩ := rv.tup_
      obtain ⟨v1, v2, rfl, r1, r2⟩ := rs.two
      refine ⟨q, _, rfl, by rw [hK]; exact sq_t g1.ex hq, rfl, v1, [v2], rfl, ?_⟩
      cases ho : vSh ρ i with
      | none =>
        exfalso
        unfold M.bind at h2
        cases e1 : mi ρ u1 with
        | none => rw [e1] at h2; exact h2
        | some y => rw [e1, ho] at h2; exact h2
      | some dd =>
        obtain ⟨vd, ev, rvd⟩ := h1.1.var ho
        refine ⟨vd, ev, F1, u1, ρ, h1.1, (flowO.after h1.1 h2).imp fun k u2 F2 H2 _ s2 g2 h3 w rw => ?_⟩
        obtain ⟨d', e2, h4⟩ := flowO.lft h3.1 h3.2
        rw [ho] at e2
        cases e2
        have h5 := put_ok (Dn := Dn) (ρ' := ρ.set j (.sh (.int b))) (σ' := σ.set j (some v2)) h3.1 (rvd.mono s2.ef) rw (r1.mono s2.ef) h4 fun {u' F' H'} z => by
          rw [r2.int_]
          exact z.set (.int b)
        obtain ⟨pp, xs, kk, n, q1, q2, q3, q4, q5⟩ := h5
        exact ⟨pp, xs, kk, n, q1, q2, q3, q4, v2, [], rfl, rfl, q5⟩
    · exact False.elim h2⟩
end

/-! ### defs that return a fresh list -/
def spL (W : Wo) (n : Nat) (mf : List D → M (List D)) : Sp := fun vs H Q _ => vs.length = n ∧ ∃ p F u ds, Gd p u F H ∧ Reps W p F vs ds ∧
  After p F H (mf ds u) fun es _ F' H' => ∀ q ws, F' q = none → H q = none → H' q = some (.lst ws) → Reps W p F' ws es → Q (.ref q) H'
def mFnL (n : Nat) (mb : MS) : List D → M (List D) := fun ds u => match mb (startE n ds) u with
  | some (.rl d, u') => some (d, u')
  | _ => none
def mRetL (m : MA) : MS := fun ρ => M.bind (m ρ) fun ds => M.pure (.rl ds)
section
variable {X : Cx} {c : Cf} {pos : Pos} {e : Expr} {ml : MA}
theorem dRetL (he : DL X c e ml) : DS X c (.Return (some e) pos) (mRetL ml) :=
  (ps_ret he).imp fun Dn σ H ⟨F, u, ρ, S, h⟩ => ⟨F, u, ρ, S, (flowO.after S h).imp fun ds u1 F1 H1 _ s1 g1 h1 q vs hF hn hq r =>
    h1.2 q vs F1 H1 h1.1.ent g1 hF (S.ent.back S.gd.ne hn) hq r⟩
end
section
variable {P : Program} {w : World} {K : PySem.W.Frag} {mg : Str → Option Value} {base : Heap} {x qual : Str} {params : Arguments} {body : List Stmt} {scope : Scope} {dvs : List V} {kws : List (Str × V)} {f : Addr} {fd : FuncData} {W : Wo} {N ps : List Str} {k : Nat} {mb : MS}
theorem fn_mirL (F : FunD K x qual params body scope dvs kws f fd) (S : FnScope N ps scope)
    (hb : ∀ (cdv : Value) (A : Around) (outer : List PySem.Env) (s : Shared) (H : Hp) (E : XK) (p : Addr) (F0 : Hp), Room k (A.deeper (envOfC qual scope s.heap.objs.size f cdv)) → DB (cxOf CX0 P w K mg base N qual scope f cdv A outer s H E).nox ⟨W, p, F0, H, 0⟩ body mb) :
    FnOk P w K mg base CX0 (k + 1) f fd ps (spL W ps.length (mFnL N.length mb)) := by
  refine F.ok S (fun vs H Q E h => h.1) (fun cdv A outer s H vs Q E hr h => ?_)
  obtain ⟨hl, p, F0, u, ds, g, r, h⟩ := h
  refine ⟨_, PSs.nox (hb cdv A outer s H E p F0 hr), F0, u, startE N.length ds, ⟨Stp.refl, g, env_start r⟩, ?_⟩
  unfold mFnL at h
  cases e : mb (startE N.length ds) u with
  | none => rw [e] at h; exact h
  | some y =>
    obtain ⟨fl, u1⟩ := y
    rw [e] at h
    cases fl with
    | rl es =>
      intro q ws F' H' s' g' hF hn hq rw
      have h2 : After p F0 H (some (es, u1)) (fun es _ F' H' => ∀ q ws, F' q = none → H q = none → H' q = some (.lst ws) → Reps W p F' ws es → Q (.ref q) H') := h
      exact h2 F' H' s' g' q ws hF hn hq rw
    | nx ρ' => exact False.elim h
    | rt d => exact False.elim h
    | bk ρ' => exact False.elim h
    | ct ρ' => exact False.elim h
end
def mCallL (n : Nat) (mf : List D → M (List D)) (ms : MA) : MA := fun ρ => M.bind (ms ρ) fun ds => if ds.length = n then mf ds else lft none
section
variable {X : Cx} {c : Cf} {k n : Nat} {f : Addr} {fd : FuncData} {ps : List Str} {x : Str} {p pos : Pos} {e : Expr} {es : List Expr} {ms : MA} {mf : List D → M (List D)}
theorem dCallL (G : FnOk X.prog X.w X.K X.mg X.base CX0 k f fd ps (spL c.W n mf)) (hr : Room k X.A) (hg : Gl X x) (hm : X.mg x = some (.ref f)) (hk : PySem.W.keepIn X.K (.ref f) = true) (hb : Binds X.K fd ps [])
    (ha : DA X c (e :: es) ms) (hdb : (x == ("__debug__" : Str)) = false := by decide) (he : starEach (e :: es) X.env = (false, eval e X.env) :: starEach es X.env := by rfl) (hpl : (backTo pos (starEach es X.env)).any (·.1) = false := by rfl) :
    DL X c (.Call (.Name x p) (e :: es) [] pos) (mCallL n mf ms) :=
  (pe_call G hr hg hm hk hb .nil pass0 ha hdb he hpl).imp fun σ H Q ⟨F, u, ρ, S, h⟩ => ⟨F, u, ρ, S, (After.split h).imp fun ds u1 F1 H1 _ s1 g1 h1 vs rvs => by
    show spL c.W n mf (vs ++ []) H1 Q E0
    rw [List.append_nil]
    split at h1
    · rename_i hl
      exact ⟨rvs.1.trans hl, c.p, F1, u1, ds, g1, rvs, h1.imp fun es u2 F2 H2 _ s2 g2 h2 q ws hF hn hq rw => h2 q ws hF (s1.back g1.ne hn) hq rw⟩
    · exact False.elim h1⟩
/-- f(g(..)), where g makes the purse -/
def mWith (mf : List D → M D) (ml : MA) : ME := fun ρ => M.bind (ml ρ) fun ds => lft (match intsD ds with
  | some l => match mf [.pur] (.real l) with
    | some (.bl b, _) => some (.bl b)
    | _ => none
  | none => none)
theorem dWith {mf : List D → M D} {ml : MA} (G : FnOk X.prog X.w X.K X.mg X.base CX0 k f fd ps (spM c.W 1 mf)) (hr : Room k X.A) (hg : Gl X x) (hm : X.mg x = some (.ref f)) (hk : PySem.W.keepIn X.K (.ref f) = true) (hb : Binds X.K fd ps [])
    (ha : DL X c e ml) (hdb : (x == ("__debug__" : Str)) = false := by decide) (he : starEach [e] X.env = (false, eval e X.env) :: starEach [] X.env := by rfl) (hpl : (backTo pos (starEach [] X.env)).any (·.1) = false := by rfl) :
    DE X c (.Call (.Name x p) [e] [] pos) (mWith mf ml) :=
  (pe_call G hr hg hm hk hb .nil pass0 (pa_cons ha pa_nil he) hdb he hpl).imp fun σ H Q ⟨F, u, ρ, S, h⟩ => ⟨F, u, ρ, S, by
    unfold mWith M.bind at h
    cases e0 : ml ρ u with
    | none => rw [e0] at h; exact False.elim h
    | some y0 =>
      obtain ⟨ds, u1⟩ := y0
      rw [e0] at h
      intro F1 H1 s1 g1 q vs hF hn hq r
      have hqp : q ≠ c.p := fun z => S.gd.ne (z ▸ hn)
      obtain ⟨d, e1, h2⟩ := lft_some h
      cases e2 : intsD ds with
      | none => rw [e2] at e1; cases e1
      | some l =>
        rw [e2] at e1
        have hv := intsD_rep r e2
        subst hv
        show spM c.W 1 mf ([.ref q] ++ []) H1 Q E0
        rw [List.append_nil]
        refine ⟨rfl, q, F1, .real l, [.pur], ⟨g1.ex, hq, fun _ _ => hF⟩, Reps.cons .pur Reps.nil, ?_⟩
        cases e3 : mf [.pur] (.real l) with
        | none => simp [e3] at e1
        | some y =>
          obtain ⟨r3, u3⟩ := y
          cases r3 with
          | bl b =>
            simp [e3] at e1
            subst e1
            intro F' H' s' g' v rv
            rw [rv.bl_]
            refine h2 F' H' ⟨s1.ef.trans s'.ef, fun a o ha e => ?_, fun a o e => ?_⟩ ⟨g'.ex, ?_, fun l' e => ?_⟩ (.bl b) (.bl b)
            · exact s'.eh a o (fun z => by rw [z, hn] at e; cases e) (s1.eh a o ha e)
            · rcases s'.nw a o e with z | z
              · exact s1.nw a o z
              · exact .inr (s1.back g1.ne z)
            · exact s'.eh c.p _ (Ne.symm hqp) g1.pu
            · exact s'.off (g1.off l' e) g1.ne
          | _ => simp [e3] at e1⟩
end
end Mi


set_option Elab.async false
set_option linter.all false
set_option maxRecDepth 100000
set_option maxHeartbeats 4000000
/-! MiF: the law's end. -/
namespace Mi
open PySem PySem.Spec PyProof.Rows L2 He
def noListsB (K : PySem.W.Frag) : Bool := K.all fun q => match q.2.cls with
  | .type c => !(c == "list")
  | _ => true
theorem lookup_mem' {a : Addr} {o : Obj} : ∀ {l : PySem.W.Frag}, l.lookup a = some o → (a, o) ∈ l
  | [], h => by cases h
  | (b, u) :: r, h => by
    have h2 : (match a == b with | true => some u | false => r.lookup a) = some o := h
    cases q : (a == b) with
    | true =>
      rw [q] at h2
      have e : u = o := Option.some.inj h2
      rw [beq_iff_eq.mp q, e]
      exact List.mem_cons_self
    | false =>
      rw [q] at h2
      exact List.mem_cons_of_mem _ (lookup_mem' h2)
theorem law_sp {cs : List Str} {K : PySem.W.Frag} {mf : List D → M D} {E : XK} (hK : noListsB K = true) (n : Nat) (h : ∀ (ns : List Int) (o : HO), ns.length ≤ n → ∃ u', mf [.scr ns] (.idle o) = some (.bl true, u')) (H : Hp) (a : Addr) (ns : List Int) (hl : ns.length ≤ n) (hS : SqL K H a (ns.map V.int)) :
    spM (WW cs K) 1 mf [.ref a] H (fun v _ => v = .bl true) E := by
  have ex : ∃ o, H a = some o := by
    rcases hS with (z | ⟨o, z⟩) | ⟨o, its, m, hk, hc, _⟩
    · exact ⟨_, z⟩
    · exact ⟨_, z⟩
    · exfalso
      have := List.all_eq_true.mp hK _ (lookup_mem' hk)
      simp [hc] at this
  obtain ⟨o, ho⟩ := ex
  obtain ⟨u', hu⟩ := h ns o hl
  refine ⟨rfl, a, H, .idle o, [.scr ns], ⟨fun _ _ e => e, ho, fun l e => by cases e⟩, Reps.cons (.scr hS) Reps.nil, ?_⟩
  rw [hu]
  exact fun F' H' _ _ v rv => rv.bl_
/-! ### name = [..] on one line, the name a plain local -/
def mBorLs (is : List Nat) (ml : MA) : MA := is.foldr mBorL ml
section
variable {X : Cx} {c : Cf}
theorem rdBorL {i : Nat} {ml : MA} : ∀ σ H Q, rdL c (mBorL i ml) σ H Q → rdL c ml σ H Q := fun σ H Q ⟨F, u, ρ, S, h⟩ => by
  unfold mBorL M.bind at h
  cases e1 : ml (frz i ρ) u with
  | none => rw [e1] at h; exact False.elim h
  | some y =>
    obtain ⟨d, u1⟩ := y
    rw [e1] at h
    obtain ⟨hn, h2⟩ := lft_if (b := noLsts d = true) (a := d) h
    rcases S.lend i with z | ⟨q, ws, F1, S1, hq, back⟩
    · rw [z] at e1
      exact ⟨F, u, ρ, S, by rw [e1]; exact h2⟩
    · refine ⟨F1, u, frz i ρ, S1, ?_⟩
      rw [e1]
      intro F' H' s' g' q' vs hF hn' hv rv
      obtain ⟨s2, g2, hq2⟩ := back _ _ _ s' g'
      refine h2 _ _ s2 g2 q' vs ?_ hn' hv ⟨rv.1, fun j v d e2 e3 => (rv.2 j v d e2 e3).without hq2 (fun a o ha e => by rw [del_ne ha]; exact e) (noLsts_at hn e3)⟩
      unfold del
      split
      · rfl
      · exact hF
theorem rdBorLs {ml : MA} : ∀ (is : List Nat) σ H Q, rdL c (mBorLs is ml) σ H Q → rdL c ml σ H Q
  | [], _, _, _, h => h
  | _ :: is, σ, H, Q, h => rdBorLs is σ H Q (rdBorL σ H Q h)
variable {elt tg iter : Expr} {ifs : List Expr} {scope : Scope} {own : List (Str × Nat)} {pos spos py : Pos} {is : List Nat} {mi : MA} {g : MG} {mt : MT} {me : ME} {y : Str} {st : Stmt} {R : TE} {ml : MA}
theorem set_of (i : Nat) (h : PS X st (tAsg R (gName i))) (hR : ∀ σ H Q, rdL c ml σ H Q → R σ H Q) : DS X c st (mSet i (mFz ml)) :=
  h.imp fun Dn σ H ⟨F, u, ρ, S, z⟩ => hR σ H _ (by
    have e : PE X (.Constant .none 0 ⟨0, 0, 0, 0⟩) (rdL c ml) → True := fun _ => trivial
    have z2 := flowO.after S z
    refine ⟨F, u, ρ, S, ?_⟩
    unfold mFz M.bind at z2
    cases e1 : ml ρ u with
    | none => rw [e1] at z2; exact z2
    | some x =>
      obtain ⟨ds, u1⟩ := x
      rw [e1] at z2
      intro F1 H1 s1 g1 q ws hF hn hq r
      have h2 : After c.p F H (some (D.lst ds, u1)) (fun a u1 F1 H1 => Sta c u1 F1 H1 σ ρ ∧ flowO c F1 Dn (M.pure (.nx (ρ.set i (.sh a))) u1)) := z2
      have hsm : Same F1 (upd F1 q (.lst ws)) := fun a o e => by rw [upd_ne (fun z => by rw [z, hF] at e; cases e)]; exact e
      have hpq : c.p ≠ q := fun z => S.gd.ne (z ▸ hn)
      have h3 := h2 (upd F1 q (.lst ws)) H1 ⟨s1.ef.trans hsm, s1.eh, fun a o e => ?_⟩ ⟨fun a o e => ?_, g1.pu, fun l e => by rw [upd_ne hpq]; exact g1.off l e⟩
      · exact h3.2 _ _ _ (Same.refl _) (h3.1.set (Rep.mkL upd_same (r.mono hsm)))
      · by_cases ha : a = q
        · subst ha; exact .inr hn
        · rw [upd_ne ha] at e; exact s1.nw a o e
      · by_cases ha : a = q
        · subst ha; rw [upd_same] at e; cases e; exact hq
        · rw [upd_ne ha] at e; exact g1.ex a o e)
theorem dLcSet (i : Nat) (bs : List Nat) (hc : X.calm = true) (hN : X.N.Nodup) (hy : X.N[i]? = some y) (hyl : X.env.scope.names.lookup y = some .local)
    (hsw : swapsWith (.ListComp elt [⟨tg, iter, ifs, 0⟩] scope pos) (some (.Name y py)) spos.line X.env = pure true) (hi : DI X c tg iter mi) (ok : BlkOk X.N X.env.scope scope own)
    (hg : ∀ (s : Shared) (H : Hp) (C : Addr) (cl : List (Str × Addr)) (fp : List Addr), DG (X.blk s H scope (compEnvC scope cl C X.env) fp) c tg is g)
    (ht : ∀ (s : Shared) (H : Hp) (C : Addr) (cl : List (Str × Addr)) (fp : List Addr), PTs (X.blk s H scope (compEnvC scope cl C X.env) fp) ifs (rdT c mt)) (he : ∀ (s : Shared) (H : Hp) (C : Addr) (cl : List (Str × Addr)) (fp : List Addr), DE (X.blk s H scope (compEnvC scope cl C X.env) fp) c elt me)
    (his : ∀ i ∈ is, i ∈ own.map (·.2) := by decide) (hs : ∀ x, foldedSetIterable iter X.env x = pure x := by intro _; rfl) : DS X c (.Assign [.Name y py] (.ListComp elt [⟨tg, iter, ifs, 0⟩] scope pos) spos) (mSet i (mFz (mBorLs bs (mLcO (own.map (·.2)) mi g mt me)))) :=
  set_of i (ps_setLc hc hN hy hyl hsw hi ok hg ht he hs) fun σ H Q h => by
    obtain ⟨F, u, ρ, S, h⟩ := rdBorLs bs σ H Q h
    exact rdLc his σ H Q F u ρ S h
end
end Mi


set_option Elab.async false
set_option linter.all false
set_option maxRecDepth 100000
set_option maxHeartbeats 4000000
/-! MiP: facts about own methods. -/
namespace Mi
open PySem PySem.Spec PyProof.Rows L2 He
/-! ### facts -/
structure OwnM (K : PySem.W.Frag) (C f : Addr) (n : Str) : Prop where
  has : PySem.W.findIn K (.ref C) n = some (some (.ref f))
  fn : PySem.W.isFn K (.ref f) = true
def ownB (c n : Str) (K : PySem.W.Frag) : Bool := eqO (PySem.W.findIn K (.ref (ga K c)) n) (some (some (.ref (ma K (ga K c) n)))) && PySem.W.isFn K (.ref (ma K (ga K c) n))
theorem own_ok {K : PySem.W.Frag} {c n : Str} (h : (Ft.raw (ownB c n)).ok K = true) : OwnM K (ga K c) ((Pl.meth c n).ad K) n := by
  obtain ⟨h1, h2⟩ := ba h
  exact ⟨eqO_ok h1, h2⟩
end Mi


set_option Elab.async false
set_option linter.all false
set_option maxRecDepth 100000
set_option maxHeartbeats 4000000
/-! MiW: what a mirror gives, told by its parts. -/
namespace Mi
open PySem L2
def Ok {α : Type} (m : M α) (u : PuS) (P : α → PuS → Prop) : Prop := ∃ a u', m u = some (a, u') ∧ P a u'
/-- a branch -/
def Br (b : Bool) (P Q : Prop) : Prop := if b = true then P else Q
@[simp] theorem br_t {P Q : Prop} : Br true P Q ↔ P := by unfold Br; simp
@[simp] theorem br_f {P Q : Prop} : Br false P Q ↔ Q := by unfold Br; simp
@[simp] theorem br_n {b : Bool} {P Q : Prop} : Br (!b) P Q ↔ Br b Q P := by cases b <;> simp
/-- d is a truth -/
def OnB (d : D) (P : Bool → Prop) : Prop := ∃ b, d = .bl b ∧ P b
@[simp] theorem onB_bl {b : Bool} {P : Bool → Prop} : OnB (.bl b) P ↔ P b := ⟨fun ⟨_, e, h⟩ => by cases e; exact h, fun h => ⟨b, rfl, h⟩⟩
theorem brd {p : Prop} [Decidable p] {P Q : Prop} (h1 : p → P) (h2 : ¬ p → Q) : Br (decide p) P Q := by
  by_cases h : p <;> simp [h, h1, h2]
section
variable {α β : Type} {m : M α} {f : α → M β} {u u' : PuS} {a : α} {P Q : α → PuS → Prop} {R : β → PuS → Prop}
theorem Ok.mono (h : Ok m u P) (k : ∀ a u', P a u' → Q a u') : Ok m u Q := by
  obtain ⟨a, u', e, p⟩ := h
  exact ⟨a, u', e, k a u' p⟩
theorem ok_of (e : m u = some (a, u')) : Ok m u P ↔ P a u' := by
  constructor
  · rintro ⟨b, v, e2, p⟩
    rw [e] at e2
    cases e2
    exact p
  · exact fun p => ⟨a, u', e, p⟩
@[simp] theorem ok_pure : Ok (M.pure a) u P ↔ P a u := ok_of rfl
@[simp] theorem ok_bind : Ok (M.bind m f) u R ↔ Ok m u fun a u1 => Ok (f a) u1 R := by
  constructor
  · rintro ⟨b, v, e, p⟩
    obtain ⟨a, u1, e1, e2⟩ := bind_some e
    exact ⟨a, u1, e1, b, v, e2, p⟩
  · rintro ⟨a, u1, e1, b, v, e2, p⟩
    refine ⟨b, v, ?_, p⟩
    unfold M.bind
    rw [e1]
    exact e2
@[simp] theorem ok_lft {o : Option α} : Ok (lft o) u P ↔ ∃ a, o = some a ∧ P a u := by
  cases o with
  | none => constructor
            · rintro ⟨b, v, e, p⟩; cases e
            · rintro ⟨b, e, p⟩; cases e
  | some a => constructor
              · rintro ⟨b, v, e, p⟩; cases e; exact ⟨_, rfl, p⟩
              · rintro ⟨b, e, p⟩; cases e; exact ⟨_, _, rfl, p⟩
@[simp] theorem ok_lfts : Ok (lft (some a)) u P ↔ P a u := ok_of rfl
@[simp] theorem ok_none : Ok (lft (none : Option α)) u P ↔ False := by
  constructor
  · rintro ⟨b, v, e, p⟩; cases e
  · exact False.elim
@[simp] theorem ok_ite {c : Prop} [Decidable c] {m n : M α} : Ok (if c then m else n) u P ↔ if c then Ok m u P else Ok n u P := by split <;> rfl
end
section
variable {ρ : Env} {u : PuS} {P : D → PuS → Prop} {PT : Bool → PuS → Prop} {PA : List D → PuS → Prop} {PS : Fl → PuS → Prop} {m ma mb mi : ME} {t v : MT} {ms mk : MA} {i j n : Nat}
@[simp] theorem ok_var : Ok (mVar i ρ) u P ↔ ∃ d, vSh ρ i = some d ∧ P d u := ok_lft
@[simp] theorem ok_C {d : D} : Ok (mC d ρ) u P ↔ P d u := ok_pure
@[simp] theorem ok_bin {f : D → D → Option D} : Ok (mBin f ma mb ρ) u P ↔ Ok (ma ρ) u fun x u1 => Ok (mb ρ) u1 fun y u2 => ∃ z, f x y = some z ∧ P z u2 := by
  unfold mBin; simp only [ok_bind, ok_lft]
@[simp] theorem ok_un {f : D → Option D} : Ok (mUn f ma ρ) u P ↔ Ok (ma ρ) u fun x u1 => ∃ z, f x = some z ∧ P z u1 := by
  unfold mUn; simp only [ok_bind, ok_lft]
@[simp] theorem ok_CB {f : List D → Option D} : Ok (mCB f ms ρ) u P ↔ Ok (ms ρ) u fun x u1 => ∃ z, f x = some z ∧ P z u1 := by
  unfold mCB; simp only [ok_bind, ok_lft]
@[simp] theorem ok_Iof {f : List D → Option (List D)} : Ok (mIof f ms ρ) u PA ↔ Ok (ms ρ) u fun x u1 => ∃ z, f x = some z ∧ PA z u1 := by
  unfold mIof; simp only [ok_bind, ok_lft]
@[simp] theorem ok_nil : Ok (mNil ρ) u PA ↔ PA [] u := ok_pure
@[simp] theorem ok_cons : Ok (mCons m ms ρ) u PA ↔ Ok (m ρ) u fun x u1 => Ok (ms ρ) u1 fun xs u2 => PA (x :: xs) u2 := by
  unfold mCons; simp only [ok_bind, ok_pure]
@[simp] theorem ok_tup : Ok (mTup ms ρ) u P ↔ Ok (ms ρ) u fun xs u1 => xs.length ≤ 100000 ∧ P (.tup xs) u1 := by
  unfold mTup; simp only [ok_bind, ok_lft]
  constructor
  · refine fun h => h.mono fun a u' z => ?_
    obtain ⟨d, e, p⟩ := z
    split at e
    · cases e; exact ⟨by assumption, p⟩
    · cases e
  · refine fun h => h.mono fun a u' z => ⟨_, if_pos z.1, z.2⟩
@[simp] theorem ok_lstO : Ok (mLstO ms ρ) u PA ↔ Ok (ms ρ) u fun xs u1 => xs.length ≤ 100000 ∧ PA xs u1 := by
  unfold mLstO; simp only [ok_bind, ok_lft]
  constructor
  · refine fun h => h.mono fun a u' z => ?_
    obtain ⟨d, e, p⟩ := z
    split at e
    · cases e; exact ⟨by assumption, p⟩
    · cases e
  · refine fun h => h.mono fun a u' z => ⟨_, if_pos z.1, z.2⟩
@[simp] theorem ok_B : Ok (mB m ρ) u PT ↔ Ok (m ρ) u fun d u1 => OnB d fun b => PT b u1 := by
  unfold mB; simp only [ok_bind]
  constructor
  · refine fun h => h.mono fun a u' z => ?_
    cases a <;> first | exact ⟨_, rfl, ok_pure.mp z⟩ | exact (ok_none.mp z).elim
  · refine fun h => h.mono fun a u' z => ?_
    obtain ⟨b, rfl, p⟩ := z
    exact ok_pure.mpr p
@[simp] theorem ok_and : Ok (mAnd t v ρ) u PT ↔ Ok (t ρ) u fun b u1 => Br b (Ok (v ρ) u1 PT) (PT false u1) := by
  unfold mAnd; simp only [ok_bind, ok_ite, ok_pure, Br]
@[simp] theorem ok_or : Ok (mOr t v ρ) u PT ↔ Ok (t ρ) u fun b u1 => Br b (PT true u1) (Ok (v ρ) u1 PT) := by
  unfold mOr; simp only [ok_bind, ok_ite, ok_pure, Br]
@[simp] theorem ok_not : Ok (mNot t ρ) u PT ↔ Ok (t ρ) u fun b u1 => PT (!b) u1 := by
  unfold mNot; simp only [ok_bind, ok_pure]
@[simp] theorem ok_if : Ok (mIf t ma mb ρ) u P ↔ Ok (t ρ) u fun b u1 => Br b (Ok (ma ρ) u1 P) (Ok (mb ρ) u1 P) := by
  unfold mIf; simp only [ok_bind, ok_ite, Br]
@[simp] theorem ok_andV : Ok (mAndV ma mb ρ) u P ↔ Ok (ma ρ) u fun d u1 => OnB d fun b => Br b (Ok (mb ρ) u1 P) (P (.bl false) u1) := by
  unfold mAndV; simp only [ok_bind]
  constructor
  · refine fun h => h.mono fun a u' z => ?_
    cases a with
    | bl b => cases b <;> exact ⟨_, rfl, by simpa [ok_pure] using z⟩
    | _ => exact (ok_none.mp z).elim
  · refine fun h => h.mono fun a u' z => ?_
    obtain ⟨b, rfl, p⟩ := z
    cases b <;> simpa [ok_pure] using p
@[simp] theorem ok_notV : Ok (mNotV ma ρ) u P ↔ Ok (ma ρ) u fun d u1 => OnB d fun b => P (.bl (!b)) u1 := by
  unfold mNotV; simp only [ok_bind]
  constructor
  · refine fun h => h.mono fun a u' z => ?_
    cases a with
    | bl b => exact ⟨_, rfl, by simpa [ok_pure] using z⟩
    | _ => exact (ok_none.mp z).elim
  · refine fun h => h.mono fun a u' z => ?_
    obtain ⟨b, rfl, p⟩ := z
    simpa [ok_pure] using p
@[simp] theorem ok_Fz : Ok (mFz ms ρ) u P ↔ Ok (ms ρ) u fun ds u1 => P (.lst ds) u1 := by
  unfold mFz; simp only [ok_bind, ok_pure]
@[simp] theorem ok_sl {ml mh : MO} : Ok (mSl m ml mh ρ) u P ↔ Ok (m ρ) u fun d u1 => Ok (ml ρ) u1 fun lo u2 => Ok (mh ρ) u2 fun hi u3 => ∃ z, slD d lo hi = some z ∧ P z u3 := by
  unfold mSl; simp only [ok_bind, ok_lft]
@[simp] theorem ok_On {P : Option Int → PuS → Prop} : Ok (mOn ρ) u P ↔ P none u := ok_pure
@[simp] theorem ok_Os {P : Option Int → PuS → Prop} : Ok (mOs m ρ) u P ↔ Ok (m ρ) u fun d u1 => ∃ i, d = .int i ∧ P (some i) u1 := by
  unfold mOs; simp only [ok_bind]
  constructor
  · refine fun h => h.mono fun a u' z => ?_
    cases a <;> first | exact ⟨_, rfl, ok_pure.mp z⟩ | exact (ok_none.mp z).elim
  · refine fun h => h.mono fun a u' z => ?_
    obtain ⟨b, rfl, p⟩ := z
    exact ok_pure.mpr p
@[simp] theorem ok_call {mf : List D → M D} : Ok (mCall n mf ms ρ) u P ↔ Ok (ms ρ) u fun ds u1 => ds.length = n ∧ Ok (mf ds) u1 P := by
  unfold mCall; simp only [ok_bind, ok_ite]
  constructor
  · refine fun h => h.mono fun a u' z => ?_
    split at z
    · exact ⟨by assumption, z⟩
    · exact (ok_none.mp z).elim
  · refine fun h => h.mono fun a u' z => ?_
    rw [if_pos z.1]; exact z.2
@[simp] theorem ok_callL {mf : List D → M (List D)} : Ok (mCallL n mf ms ρ) u PA ↔ Ok (ms ρ) u fun ds u1 => ds.length = n ∧ Ok (mf ds) u1 PA := by
  unfold mCallL; simp only [ok_bind, ok_ite]
  constructor
  · refine fun h => h.mono fun a u' z => ?_
    split at z
    · exact ⟨by assumption, z⟩
    · exact (ok_none.mp z).elim
  · refine fun h => h.mono fun a u' z => ?_
    rw [if_pos z.1]; exact z.2
@[simp] theorem ok_self {k : Str} {mf : List D → M D} : Ok (mSelf k mf m ρ) u P ↔ Ok (m ρ) u fun d u1 => ∃ ks ds, d = .obj k ks ds ∧ Ok (mf [.obj k ks ds]) u1 P := by
  unfold mSelf; simp only [ok_bind]
  constructor
  · refine fun h => h.mono fun a u' z => ?_
    cases a with
    | obj c ks ds =>
      simp only [ok_ite] at z
      split at z
      · rename_i h; subst h; exact ⟨_, _, rfl, z⟩
      · exact (ok_none.mp z).elim
    | _ => exact (ok_none.mp z).elim
  · refine fun h => h.mono fun a u' z => ?_
    obtain ⟨ks, ds, rfl, z⟩ := z
    simp only [ok_ite, if_true]; exact z
@[simp] theorem ok_eqO {k : Str} {mf : List D → M D} : Ok (mEqO k mf ma mb ρ) u P ↔ Ok (ma ρ) u fun x u1 => Ok (mb ρ) u1 fun y u2 => ∃ ks ds ks' ds', x = .obj k ks ds ∧ y = .obj k ks' ds' ∧ Ok (mf [x, y]) u2 fun r u3 => OnB r fun b => P (.bl b) u3 := by
  unfold mEqO; simp only [ok_bind]
  constructor
  · refine fun h => h.mono fun x u' z => z.mono fun y u2 z1 => ?_
    split at z1
    · simp only [ok_ite] at z1
      split at z1
      · rename_i hh
        obtain ⟨rfl, hh2⟩ := hh
        subst hh2
        refine ⟨_, _, _, _, rfl, rfl, (ok_bind.mp z1).mono fun r u3 z2 => ?_⟩
        split at z2
        · exact ⟨_, rfl, ok_pure.mp z2⟩
        · exact (ok_none.mp z2).elim
      · exact (ok_none.mp z1).elim
    · exact (ok_none.mp z1).elim
  · refine fun h => h.mono fun x u' z => z.mono fun y u2 z => ?_
    obtain ⟨ks, ds, ks', ds', rfl, rfl, z⟩ := z
    simp only [ok_ite]
    rw [if_pos (by first | exact ⟨rfl, rfl⟩ | exact ⟨trivial, trivial⟩), ok_bind]
    refine z.mono fun r u3 z => ?_
    obtain ⟨b, rfl, z⟩ := z
    exact ok_pure.mpr z
@[simp] theorem ok_make {k : Str} {mf : List D → M (List Str × List D)} : Ok (mMake k n mf ms ρ) u P ↔ Ok (ms ρ) u fun ds u1 => ds.length = n ∧ Ok (mf ds) u1 fun r u2 => P (.obj k r.1 r.2) u2 := by
  unfold mMake; simp only [ok_bind, ok_ite]
  constructor
  · refine fun h => h.mono fun a u' z => ?_
    split at z
    · exact ⟨by assumption, by simpa only [ok_bind, ok_pure] using z⟩
    · exact (ok_none.mp z).elim
  · refine fun h => h.mono fun a u' z => ?_
    rw [if_pos z.1]; simpa only [ok_bind, ok_pure] using z.2
@[simp] theorem ok_Iany : Ok (mIany m ρ) u PA ↔ Ok (m ρ) u fun d u1 => ∃ ds, itD d = some ds ∧ PA ds u1 := by
  unfold mIany; simp only [ok_bind, ok_lft]
@[simp] theorem s_itL {ds : List D} : itD (.lst ds) = some ds := rfl
@[simp] theorem s_itT {ds : List D} : itD (.tup ds) = some ds := rfl
@[simp] theorem ok_lcO {vs : List Nat} {g : MG} {mt : MT} {me : ME} : Ok (mLcO vs ms g mt me ρ) u PA ↔ Ok (ms ρ) u fun ds u1 => ds.length ≤ 100000 ∧ Ok (lcD g mt me (wipeE ρ vs) ds) u1 PA := by
  unfold mLcO; simp only [ok_bind, ok_ite]
  constructor
  · refine fun h => h.mono fun a u' z => ?_
    split at z
    · exact ⟨by assumption, z⟩
    · exact (ok_none.mp z).elim
  · refine fun h => h.mono fun a u' z => ?_
    rw [if_pos z.1]; exact z.2
@[simp] theorem ok_borL : Ok (mBorL i ms ρ) u PA ↔ Ok (ms (frz i ρ)) u fun d u1 => noLsts d = true ∧ PA d u1 := by
  unfold mBorL; simp only [ok_bind, ok_lft]
  constructor
  · refine fun h => h.mono fun a u' z => ?_
    obtain ⟨d, e, p⟩ := z
    split at e
    · cases e; exact ⟨by assumption, p⟩
    · cases e
  · refine fun h => h.mono fun a u' z => ⟨_, if_pos z.1, z.2⟩
@[simp] theorem ok_ixP : Ok (mIxP i mi ρ) u P ↔ Ok (mi ρ) u fun k u1 => ∃ d, vSh ρ i = some d ∧ Ok (getP d k) u1 P := by
  unfold mIxP; simp only [ok_bind, ok_lft]
/-! statements -/
@[simp] theorem ok_next : Ok (mNext ρ) u PS ↔ PS (.nx ρ) u := ok_pure
@[simp] theorem ok_seq {m n : MS} : Ok (mSeq m n ρ) u PS ↔ Ok (m ρ) u fun f u1 => match f with
    | .nx ρ1 => Ok (n ρ1) u1 PS
    | f' => PS f' u1 := by
  unfold mSeq; simp only [ok_bind]
  constructor
  · refine fun h => h.mono fun f u' z => ?_
    cases f <;> first | exact z | exact ok_pure.mp z
  · refine fun h => h.mono fun f u' z => ?_
    cases f <;> first | exact z | exact ok_pure.mpr z
@[simp] theorem ok_ret : Ok (mRet m ρ) u PS ↔ Ok (m ρ) u fun d u1 => PS (.rt d) u1 := by unfold mRet; simp only [ok_bind, ok_pure]
@[simp] theorem ok_retL : Ok (mRetL ms ρ) u PS ↔ Ok (ms ρ) u fun d u1 => PS (.rl d) u1 := by unfold mRetL; simp only [ok_bind, ok_pure]
@[simp] theorem ok_ifS {m n : MS} : Ok (mIfS t m n ρ) u PS ↔ Ok (t ρ) u fun b u1 => Br b (Ok (m ρ) u1 PS) (Ok (n ρ) u1 PS) := by unfold mIfS; simp only [ok_bind, ok_ite, Br]
@[simp] theorem ok_set : Ok (mSet i m ρ) u PS ↔ Ok (m ρ) u fun d u1 => PS (.nx (ρ.set i (.sh d))) u1 := by unfold mSet; simp only [ok_bind, ok_pure]
@[simp] theorem ok_setO : Ok (mSetO i ms ρ) u PS ↔ Ok (ms ρ) u fun d u1 => PS (.nx (ρ.set i (.ow d))) u1 := by unfold mSetO; simp only [ok_bind, ok_pure]
@[simp] theorem ok_stuck : Ok (mStuck ρ) u PS ↔ False := ok_none
@[simp] theorem ok_for {g : MG} {mb : MS} : Ok (mFor ms g mb ρ) u PS ↔ Ok (ms ρ) u fun ds u1 => Ok (loopD g mb ds ρ) u1 PS := by unfold mFor; simp only [ok_bind]
@[simp] theorem ok_app : Ok (mApp i m ρ) u PS ↔ Ok (m ρ) u fun d u1 => ∃ ds, vOw ρ i = some ds ∧ ds.length < 100000 ∧ PS (.nx (ρ.set i (.ow (ds ++ [d])))) u1 := by
  unfold mApp; simp only [ok_bind, ok_lft, ok_pure]
  constructor
  · refine fun h => h.mono fun f u' z => ?_
    obtain ⟨ds, e, _, e2, p⟩ := z
    split at e2
    · exact ⟨ds, e, by assumption, p⟩
    · cases e2
  · refine fun h => h.mono fun f u' z => ?_
    obtain ⟨ds, e, e2, p⟩ := z
    exact ⟨ds, e, (), if_pos e2, p⟩
@[simp] theorem ok_putP {mv : ME} : Ok (mPutP i mv mi ρ) u PS ↔ Ok (mv ρ) u fun v u1 => Ok (mi ρ) u1 fun k u2 => ∃ d, vSh ρ i = some d ∧ Ok (putP d k v) u2 fun _ u3 => PS (.nx ρ) u3 := by
  unfold mPutP; simp only [ok_bind, ok_lft, ok_pure]
@[simp] theorem ok_frz {m : MS} : Ok (mFrz i m ρ) u PS ↔ Ok (m (frz i ρ)) u PS := Iff.rfl
@[simp] theorem ok_asg {g : MG} : Ok (mAsg m g ρ) u PS ↔ Ok (m ρ) u fun d u1 => ∃ ρ1, g d ρ = some ρ1 ∧ PS (.nx ρ1) u1 := by
  unfold mAsg; simp only [ok_bind, ok_lft]
  constructor
  · refine fun h => h.mono fun f u' z => ?_
    obtain ⟨a, e, p⟩ := z
    cases e1 : g f ρ with
    | none => rw [e1] at e; cases e
    | some r => rw [e1] at e; cases e; exact ⟨r, rfl, p⟩
  · refine fun h => h.mono fun f u' z => ?_
    obtain ⟨a, e, p⟩ := z
    exact ⟨_, by rw [e]; rfl, p⟩
@[simp] theorem ok_Mnil {P : List Sd → PuS → Prop} : Ok (mMnil ρ) u P ↔ P [] u := ok_pure
@[simp] theorem ok_Msh {mm : MM} {P : List Sd → PuS → Prop} : Ok (mMsh m mm ρ) u P ↔ Ok (m ρ) u fun d u1 => Ok (mm ρ) u1 fun ds u2 => P (.sh d :: ds) u2 := by unfold mMsh; simp only [ok_bind, ok_pure]
@[simp] theorem ok_Mow {mm : MM} {P : List Sd → PuS → Prop} : Ok (mMow ms mm ρ) u P ↔ Ok (ms ρ) u fun d u1 => Ok (mm ρ) u1 fun ds u2 => P (.ow d :: ds) u2 := by unfold mMow; simp only [ok_bind, ok_pure]
@[simp] theorem ok_par {is : List Nat} {mm : MM} : Ok (mPar is mm ρ) u PS ↔ Ok (mm ρ) u fun sds u1 => sds.length = is.length ∧ PS (.nx (setAll is sds ρ)) u1 := by
  unfold mPar; simp only [ok_bind, ok_ite]
  constructor
  · refine fun h => h.mono fun f u' z => ?_
    split at z
    · exact ⟨by assumption, ok_pure.mp z⟩
    · exact (ok_none.mp z).elim
  · refine fun h => h.mono fun f u' z => ?_
    rw [if_pos z.1]; exact ok_pure.mpr z.2
@[simp] theorem ok_selfSet {ck fn : Str} : Ok (mSelfSet i ck fn m ρ) u PS ↔ Ok (m ρ) u fun d u1 => ∃ ks es, ρ[i]? = some (Sd.oi ck ks es) ∧ fn ∉ ks ∧ ks.length < 900 ∧ PS (.nx (ρ.set i (.oi ck (ks ++ [fn]) (es ++ [d])))) u1 := by
  unfold mSelfSet; simp only [ok_bind, ok_lft, ok_pure]
  constructor
  · refine fun h => h.mono fun f u' z => ?_
    obtain ⟨q, e, p⟩ := z
    split at e
    · split at e
      · rename_i e0 hh
        obtain ⟨rfl, h1, h2⟩ := hh
        cases e
        exact ⟨_, _, e0, h1, h2, p⟩
      · cases e
    · cases e
  · refine fun h => h.mono fun f u' z => ?_
    obtain ⟨ks, es, e, h1, h2, p⟩ := z
    exact ⟨(ks, es), by rw [e]; exact if_pos ⟨rfl, h1, h2⟩, p⟩
@[simp] theorem ok_fn {n : Nat} {mb : MS} {ds : List D} : Ok (mFn n mb ds) u P ↔ Ok (mb (startE n ds)) u fun f u1 => match f with
    | .rt d => P d u1
    | .nx _ => P .non u1
    | _ => False := by
  constructor
  · rintro ⟨a, u', e, p⟩
    unfold mFn at e
    cases e1 : mb (startE n ds) u with
    | none => rw [e1] at e; cases e
    | some y =>
      obtain ⟨f, u1⟩ := y
      rw [e1] at e
      cases f <;> first | (cases e; exact ⟨_, _, e1, p⟩) | cases e
  · rintro ⟨f, u1, e, p⟩
    cases f <;> first | exact ⟨_, u1, by unfold mFn; rw [e], p⟩ | exact False.elim p
@[simp] theorem ok_fnL {n : Nat} {mb : MS} {ds : List D} : Ok (mFnL n mb ds) u PA ↔ Ok (mb (startE n ds)) u fun f u1 => match f with
    | .rl d => PA d u1
    | _ => False := by
  constructor
  · rintro ⟨a, u', e, p⟩
    unfold mFnL at e
    cases e1 : mb (startE n ds) u with
    | none => rw [e1] at e; cases e
    | some y =>
      obtain ⟨f, u1⟩ := y
      rw [e1] at e
      cases f <;> first | (cases e; exact ⟨_, _, e1, p⟩) | cases e
  · rintro ⟨f, u1, e, p⟩
    cases f <;> first | exact ⟨_, u1, by unfold mFnL; rw [e], p⟩ | exact False.elim p
@[simp] theorem ok_init {n : Nat} {ck : Str} {mb : MS} {ds : List D} {P : List Str × List D → PuS → Prop} : Ok (mInit n ck mb ds) u P ↔ Ok (mb (startI n ck ds)) u fun f u1 => match f with
    | .nx ρ' => ∃ ks es, ρ'[0]? = some (Sd.oi ck ks es) ∧ P (ks, es) u1
    | _ => False := by
  constructor
  · rintro ⟨a, u', e, p⟩
    unfold mInit at e
    cases e1 : mb (startI n ck ds) u with
    | none => rw [e1] at e; cases e
    | some y =>
      obtain ⟨f, u1⟩ := y
      rw [e1] at e
      cases f with
      | nx ρ' =>
        refine ⟨_, _, e1, ?_⟩
        have e' : (match (ρ'[0]? : Option Sd) with
          | some (Sd.oi k ks es) => if k = ck then some ((ks, es), u1) else none
          | _ => none) = some (a, u') := e
        split at e'
        · rename_i e0
          split at e'
          · rename_i hk
            subst hk
            cases e'
            exact ⟨_, _, e0, p⟩
          · cases e'
        · cases e'
      | _ => cases e
  · rintro ⟨f, u1, e, p⟩
    cases f with
    | nx ρ' =>
      obtain ⟨ks, es, e0, p⟩ := p
      refine ⟨(ks, es), u1, ?_, p⟩
      unfold mInit
      rw [e]
      show (match (ρ'[0]? : Option Sd) with
          | some (Sd.oi k ks es) => if k = ck then some ((ks, es), u1) else none
          | _ => none) = _
      rw [e0]
      exact if_pos rfl
    | _ => exact False.elim p
end
/-! loops -/
theorem ok_loop {g : MG} {mb : MS} {P : Fl → PuS → Prop} (Inv : List D → Env → PuS → Prop)
    (step : ∀ d ds ρ u, Inv (d :: ds) ρ u → ∃ ρ1, g d ρ = some ρ1 ∧ Ok (mb ρ1) u fun f u' => match f with
      | .nx ρ2 => Inv ds ρ2 u'
      | .ct ρ2 => Inv ds ρ2 u'
      | .bk ρ2 => P (.nx ρ2) u'
      | .rt d => P (.rt d) u'
      | .rl d => P (.rl d) u')
    (stop : ∀ ρ u, Inv [] ρ u → P (.nx ρ) u) : ∀ (ds : List D) (ρ : Env) (u : PuS), Inv ds ρ u → Ok (loopD g mb ds ρ) u P
  | [], ρ, u, h => ok_pure.mpr (stop ρ u h)
  | d :: ds, ρ, u, h => by
    obtain ⟨ρ1, e, h1⟩ := step d ds ρ u h
    unfold loopD
    rw [ok_bind, ok_lft]
    refine ⟨ρ1, e, ?_⟩
    rw [ok_bind]
    refine h1.mono fun f u' z => ?_
    cases f with
    | nx ρ2 => exact ok_loop Inv step stop ds ρ2 u' z
    | ct ρ2 => exact ok_loop Inv step stop ds ρ2 u' z
    | bk ρ2 => exact ok_pure.mpr z
    | rt d => exact ok_pure.mpr z
    | rl d => exact ok_pure.mpr z
/-- a comprehension that draws: each element has E, the state keeps I -/
theorem ok_lc {g : MG} {mt : MT} {me : ME} {ρ : Env} (I : PuS → Prop) (E : D → Prop) : ∀ (ds : List D) (u : PuS), I u → (∀ d ∈ ds, ∀ u, I u → ∃ ρ1, g d ρ = some ρ1 ∧ Ok (mt ρ1) u fun b u1 => b = true ∧ Ok (me ρ1) u1 fun y u2 => E y ∧ I u2) →
    Ok (lcD g mt me ρ ds) u fun ys u' => (ys.length = ds.length ∧ ∀ y ∈ ys, E y) ∧ I u'
  | [], u, hu, _ => ok_pure.mpr ⟨⟨rfl, fun y hy => by cases hy⟩, hu⟩
  | d :: ds, u, hu, h => by
    obtain ⟨ρ1, e, h1⟩ := h d List.mem_cons_self u hu
    unfold lcD
    rw [ok_bind, ok_lft]
    refine ⟨ρ1, e, ?_⟩
    rw [ok_bind]
    refine h1.mono fun b u1 z => ?_
    obtain ⟨rfl, z⟩ := z
    simp only [if_true, ok_bind]
    refine z.mono fun y u2 z2 => (ok_lc I E ds u2 z2.2 fun d hd => h d (List.mem_cons_of_mem _ hd)).mono fun ys u3 z3 => ?_
    rw [ok_pure]
    refine ⟨⟨by simp [z3.1.1], fun x hx => ?_⟩, z3.2⟩
    rcases List.mem_cons.mp hx with rfl | hx
    · exact z2.1
    · exact z3.1.2 x hx
theorem ok_list {g : MG} {mb : MS} {P : Fl → PuS → Prop} (xs : List D) (Inv : Nat → Env → PuS → Prop)
    (step : ∀ k d ρ u, xs[k]? = some d → Inv k ρ u → ∃ ρ1, g d ρ = some ρ1 ∧ Ok (mb ρ1) u fun f u' => match f with
      | .nx ρ2 => Inv (k + 1) ρ2 u'
      | .ct ρ2 => Inv (k + 1) ρ2 u'
      | .bk ρ2 => P (.nx ρ2) u'
      | .rt d => P (.rt d) u'
      | .rl d => P (.rl d) u')
    (stop : ∀ ρ u, Inv xs.length ρ u → P (.nx ρ) u) (ρ : Env) (u : PuS) (h : Inv 0 ρ u) : Ok (loopD g mb xs ρ) u P := by
  refine ok_loop (fun ds ρ u => ∃ k, k ≤ xs.length ∧ ds = xs.drop k ∧ Inv k ρ u) ?_ ?_ _ ρ u ⟨0, Nat.zero_le _, rfl, h⟩
  · rintro d ds ρ u ⟨k, hk, e, hi⟩
    have hkn : k < xs.length := by
      rcases Nat.lt_or_ge k xs.length with z | z
      · exact z
      · rw [List.drop_eq_nil_of_le z] at e; cases e
    rw [List.drop_eq_getElem_cons hkn] at e
    obtain ⟨e1, e2⟩ := List.cons.inj e
    obtain ⟨ρ1, e4, h1⟩ := step k d ρ u (by rw [e1]; exact List.getElem?_eq_getElem hkn) hi
    refine ⟨ρ1, e4, h1.mono fun f u' z => ?_⟩
    cases f with
    | nx ρ2 => exact ⟨k + 1, hkn, e2, z⟩
    | ct ρ2 => exact ⟨k + 1, hkn, e2, z⟩
    | _ => exact z
  · rintro ρ u ⟨k, hk, e, hi⟩
    have hkn : k = xs.length := by
      have := congrArg List.length e
      simp at this
      omega
    subst hkn
    exact stop ρ u hi
theorem eq_of_ok {α : Type} {m : M α} {u : PuS} {a : α} (h : Ok m u fun b u' => b = a ∧ u' = u) : m u = some (a, u) := by
  obtain ⟨b, u', e, rfl, rfl⟩ := h
  exact e
theorem ok_with {mf : List D → M D} {ml : MA} {ρ : Env} {u : PuS} {P : D → PuS → Prop} (b : Bool) (h : Ok (ml ρ) u fun ds u1 => ∃ (l : List Int), ds = l.map D.int ∧ (Ok (mf [.pur]) (.real l) fun d _ => d = .bl b) ∧ P (.bl b) u1) : Ok (mWith mf ml ρ) u P := by
  unfold mWith
  rw [ok_bind]
  refine h.mono fun ds u1 z => ?_
  obtain ⟨l, rfl, ⟨d, u2, e, rfl⟩, p⟩ := z
  rw [ok_lft]
  refine ⟨.bl b, ?_, p⟩
  rw [intsD_map]
  show (match mf [.pur] (.real l) with
    | some (.bl b, _) => some (D.bl b)
    | _ => none) = _
  rw [e]
@[simp] theorem ok_yes {ρ : Env} {u : PuS} {P : Bool → PuS → Prop} : Ok (mYes ρ) u P ↔ P true u := ok_pure
@[simp] theorem ex_two {α β : Type} {a : α} {b : β} {Q : α → β → Prop} : (∃ x y, (a = x ∧ b = y) ∧ Q x y) ↔ Q a b := ⟨fun ⟨_, _, ⟨e1, e2⟩, h⟩ => by rw [← e1, ← e2] at h; exact h, fun h => ⟨a, b, ⟨rfl, rfl⟩, h⟩⟩
/-! data, for simp -/
section
variable {a b i j : Int} {xs ys : List D} {x y : D}
@[simp] theorem s_add : addD (.int a) (.int b) = some (.int (a + b)) := rfl
@[simp] theorem s_sub : subD (.int a) (.int b) = some (.int (a - b)) := rfl
theorem s_mul : mulD (.int a) (.int b) = if mulC a b = true then some (.int (a * b)) else none := rfl
@[simp] theorem s_lt : ltD (.int a) (.int b) = some (.bl (decide (a < b))) := rfl
@[simp] theorem s_le : leD (.int a) (.int b) = some (.bl (decide (a ≤ b))) := rfl
@[simp] theorem s_gt : gtD (.int a) (.int b) = some (.bl (decide (b < a))) := rfl
@[simp] theorem s_ge : geD (.int a) (.int b) = some (.bl (decide (b ≤ a))) := rfl
@[simp] theorem e_mul {Q : D → Prop} : (∃ z, mulD (.int a) (.int b) = some z ∧ Q z) ↔ mulC a b = true ∧ Q (.int (a * b)) := by
  rw [s_mul]
  split
  · simp [*]
  · simp [*]
@[simp] theorem mulC_iff : mulC a b = true ↔ (-18446744073709551616 < a ∧ a < 18446744073709551616 ∨ -18446744073709551616 < b ∧ b < 18446744073709551616) ∨ a.natAbs.log2 + b.natAbs.log2 < 1000000 := by
  unfold mulC
  rw [Bool.or_eq_true_iff, decide_eq_true_iff, decide_eq_true_iff]
  exact Iff.rfl
@[simp] theorem e_mod {Q : D → Prop} : (∃ z, modD (.int a) (.int b) = some z ∧ Q z) ↔ 0 < b ∧ Q (.int (a % b)) := by
  show (∃ z, (if decide (0 < b) = true then some (D.int (a % b)) else none) = some z ∧ Q z) ↔ _
  by_cases h : 0 < b <;> simp [h]
theorem log_small (h : b.natAbs < 1000000000) : b.natAbs.log2 < 30 := by
  by_cases z : b.natAbs = 0
  · rw [z]; decide
  · exact (Nat.log2_lt z).mpr (by omega)
@[simp] theorem e_fdiv {Q : D → Prop} : (∃ z, fdivD (.int a) (.int b) = some z ∧ Q z) ↔ fdivC a b = true ∧ Q (.int (a / b)) := by
  show (∃ z, (if fdivC a b = true then some (D.int (a / b)) else none) = some z ∧ Q z) ↔ _
  by_cases h : fdivC a b = true <;> simp [h]
@[simp] theorem fdivC_small (h : 0 < b ∧ b < 1000000000) : fdivC a b = true := by
  unfold fdivC
  have := log_small (b := b) (by omega)
  exact decide_eq_true ⟨h.1, by omega⟩
@[simp] theorem e_pow {Q : D → Prop} : (∃ z, powD (.int a) (.int b) = some z ∧ Q z) ↔ powC a b = true ∧ Q (.int (a ^ b.toNat)) := by
  show (∃ z, (if powC a b = true then some (D.int (a ^ b.toNat)) else none) = some z ∧ Q z) ↔ _
  by_cases h : powC a b = true <;> simp [h]
@[simp] theorem e_dm {Q : D → Prop} : (∃ z, dmD [.int a, .int b] = some z ∧ Q z) ↔ dmC a b = true ∧ Q (.tup [.int (a / b), .int (a % b)]) := by
  show (∃ z, (if dmC a b = true then some (D.tup [.int (a / b), .int (a % b)]) else none) = some z ∧ Q z) ↔ _
  by_cases h : dmC a b = true <;> simp [h]
@[simp] theorem dmC_small (h : 0 < b ∧ b < 1000000000) : dmC a b = true := by
  unfold dmC
  have := log_small (b := b) (by omega)
  have e : Builtin.divisionGoesByPylong a b = false := by
    unfold Builtin.divisionGoesByPylong
    simp only []
    have hb : ¬ ((if (b == 0) = true then 0 else b.natAbs.log2 / 30 + 1) > 300) := by
      split
      · omega
      · omega
    simp only [hb, decide_false, Bool.false_and]
  rw [e, decide_eq_true h.1]; rfl
@[simp] theorem e_rng1 {Q : List D → Prop} : (∃ z, rng1 [.int j] = some z ∧ Q z) ↔ (-100000 ≤ j ∧ j ≤ 100000) ∧ Q (rngD 0 j.toNat) := by
  show (∃ z, (if -100000 ≤ j ∧ j ≤ 100000 then some (rngD 0 j.toNat) else none) = some z ∧ Q z) ↔ _
  by_cases h : -100000 ≤ j ∧ j ≤ 100000 <;> simp [h]
@[simp] theorem s_powC : powC a b = true ↔ 0 ≤ b ∧ b ≤ 1000000 ∧ a.natAbs < 18446744073709551616 := by unfold powC; exact decide_eq_true_iff
@[simp] theorem s_ixL : ixD (.lst xs) (.int i) = atI xs i := rfl
@[simp] theorem s_ixT : ixD (.tup xs) (.int i) = atI xs i := rfl
@[simp] theorem s_slL {lo hi : Option Int} : slD (.lst xs) lo hi = some (.lst (cutD xs lo hi)) := rfl
@[simp] theorem s_slT {lo hi : Option Int} : slD (.tup xs) lo hi = some (.tup (cutD xs lo hi)) := rfl
@[simp] theorem s_setAll2 {k l : Nat} {s t : Sd} {ρ : Env} : setAll [k, l] [s, t] ρ = (ρ.set k s).set l t := rfl
@[simp] theorem s_setAll3 {k l m : Nat} {s t r : Sd} {ρ : Env} : setAll [k, l, m] [s, t, r] ρ = ((ρ.set k s).set l t).set m r := rfl
@[simp] theorem s_wipe0 {ρ : Env} : wipeE ρ [] = ρ := rfl
@[simp] theorem s_wipe {ρ : Env} {k : Nat} {ks : List Nat} : wipeE ρ (k :: ks) = (wipeE ρ ks).set k .un := rfl
@[simp] theorem s_frz {ρ : Env} {k : Nat} : frz k ρ = match vOw ρ k with
  | some ds => ρ.set k (.sh (.lst ds))
  | none => ρ := rfl
theorem at_nat {α : Type} {l : List α} {k : Nat} {x : α} (h : l[k]? = some x) : atI l (k : Int) = some x := by
  have hk : k < l.length := (List.getElem?_eq_some_iff.mp h).1
  unfold atI ixN
  rw [if_pos (by omega), if_pos (by omega)]
  simpa using h
/-- each turn of a loop over a range -/
theorem ok_range {g : MG} {mb : MS} {P : Fl → PuS → Prop} (lo : Int) (n : Nat) (Inv : Nat → Env → PuS → Prop)
    (step : ∀ k ρ u, k < n → Inv k ρ u → ∃ ρ1, g (.int (lo + (k : Nat))) ρ = some ρ1 ∧ Ok (mb ρ1) u fun f u' => match f with
      | .nx ρ2 => Inv (k + 1) ρ2 u'
      | .ct ρ2 => Inv (k + 1) ρ2 u'
      | .bk ρ2 => P (.nx ρ2) u'
      | .rt d => P (.rt d) u'
      | .rl d => P (.rl d) u')
    (stop : ∀ ρ u, Inv n ρ u → P (.nx ρ) u) (ρ : Env) (u : PuS) (h : Inv 0 ρ u) : Ok (loopD g mb (rngD lo n) ρ) u P := by
  refine ok_loop (fun ds ρ u => ∃ k, k ≤ n ∧ ds = (rngD lo n).drop k ∧ Inv k ρ u) ?_ ?_ _ ρ u ⟨0, Nat.zero_le _, rfl, h⟩
  · rintro d ds ρ u ⟨k, hk, e, hi⟩
    have hkn : k < n := by
      rcases Nat.lt_or_ge k n with z | z
      · exact z
      · rw [List.drop_eq_nil_of_le (by rw [rngD_len]; exact z)] at e; cases e
    rw [List.drop_eq_getElem_cons (by rw [rngD_len]; exact hkn)] at e
    obtain ⟨e1, e2⟩ := List.cons.inj e
    have e3 : d = .int (lo + (k : Nat)) := by rw [e1]; simp [rngD]
    subst e3
    obtain ⟨ρ1, e4, h1⟩ := step k ρ u hkn hi
    refine ⟨ρ1, e4, h1.mono fun f u' z => ?_⟩
    cases f with
    | nx ρ2 => exact ⟨k + 1, hkn, e2, z⟩
    | ct ρ2 => exact ⟨k + 1, hkn, e2, z⟩
    | _ => exact z
  · rintro ρ u ⟨k, hk, e, hi⟩
    have hkn : k = n := by
      have := congrArg List.length e
      simp [rngD_len] at this
      omega
    subst hkn
    exact stop ρ u hi
theorem toPDs_ints (ns : List Int) : toPDs (ns.map D.int) = some (ns.map PyData.int) := by
  induction ns with
  | nil => rfl
  | cons n ns ih =>
    show (match toPD (.int n), toPDs (ns.map D.int) with
      | some a, some b => some (a :: b)
      | _, _ => none) = _
    rw [ih]; rfl
theorem lay_ints (ns : List Int) : PyData.canLayAll0 (ns.map PyData.int) = true := by
  induction ns with
  | nil => rfl
  | cons n ns ih => show (true && _) = true; rw [ih]; rfl
theorem depth_ints (ns : List Int) : PyData.depthAll (ns.map PyData.int) = 0 := by
  induction ns with
  | nil => rfl
  | cons n ns ih => show max 0 (PyData.depthAll (ns.map PyData.int)) = 0; rw [ih]; rfl
theorem eqv_ints : ∀ (xs ys : List Int), PyData.eqvAll (xs.map PyData.int) (ys.map PyData.int) = decide (xs = ys)
  | [], [] => rfl
  | [], _ :: _ => rfl
  | _ :: _, [] => rfl
  | x :: xs, y :: ys => by
    show ((x == y) && PyData.eqvAll (xs.map PyData.int) (ys.map PyData.int)) = _
    rw [eqv_ints xs ys]
    by_cases h : x = y <;> by_cases h2 : xs = ys <;> simp [h, h2]
theorem eq_tups (xs ys : List Int) : eqD (.tup (xs.map D.int)) (.tup (ys.map D.int)) = some (decide (xs = ys)) := by
  have e : ∀ zs : List Int, toPD (.tup (zs.map D.int)) = some (.tuple (zs.map PyData.int)) := fun zs => by
    show (toPDs (zs.map D.int)).map PyData.tuple = _
    rw [toPDs_ints]; rfl
  have sh : ∀ zs : List Int, SeqAt.shaped (.tuple (zs.map PyData.int)) = true := fun zs => by
    show (PyData.canLayAll0 (zs.map PyData.int) && decide (PyData.depthAll (zs.map PyData.int) + 1 ≤ 64)) = true
    rw [lay_ints, depth_ints]; rfl
  unfold eqD
  rw [e, e]
  show (if _ then some (PyData.eqvAll (xs.map PyData.int) (ys.map PyData.int)) else none) = _
  rw [if_pos ⟨sh xs, sh ys⟩, eqv_ints]
theorem eq_lsts (xs ys : List Int) : eqD (.lst (xs.map D.int)) (.lst (ys.map D.int)) = some (decide (xs = ys)) := by
  have e : ∀ zs : List Int, toPD (.lst (zs.map D.int)) = some (.list (zs.map PyData.int)) := fun zs => by
    show (toPDs (zs.map D.int)).map PyData.list = _
    rw [toPDs_ints]; rfl
  have sh : ∀ zs : List Int, SeqAt.shaped (.list (zs.map PyData.int)) = true := fun zs => by
    show (PyData.canLayAll0 (zs.map PyData.int) && decide (PyData.depthAll (zs.map PyData.int) + 1 ≤ 64)) = true
    rw [lay_ints, depth_ints]; rfl
  unfold eqD
  rw [e, e]
  show (if _ then some (PyData.eqvAll (xs.map PyData.int) (ys.map PyData.int)) else none) = _
  rw [if_pos ⟨sh xs, sh ys⟩, eqv_ints]
@[simp] theorem s_eqT {xs ys : List Int} : eqMD (.tup (xs.map D.int)) (.tup (ys.map D.int)) = some (.bl (decide (xs = ys))) := by unfold eqMD; rw [eq_tups]; rfl
@[simp] theorem s_neT {xs ys : List Int} : neMD (.tup (xs.map D.int)) (.tup (ys.map D.int)) = some (.bl (!decide (xs = ys))) := by unfold neMD; rw [eq_tups]; rfl
@[simp] theorem s_eqL {xs ys : List Int} : eqMD (.lst (xs.map D.int)) (.lst (ys.map D.int)) = some (.bl (decide (xs = ys))) := by unfold eqMD; rw [eq_lsts]; rfl
@[simp] theorem s_neL {xs ys : List Int} : neMD (.lst (xs.map D.int)) (.lst (ys.map D.int)) = some (.bl (!decide (xs = ys))) := by unfold neMD; rw [eq_lsts]; rfl
@[simp] theorem s_eqL0 {xs : List Int} : eqMD (.lst (xs.map D.int)) (.lst []) = some (.bl (decide (xs = []))) := s_eqL (ys := [])
@[simp] theorem s_neL0 {xs : List Int} : neMD (.lst (xs.map D.int)) (.lst []) = some (.bl (!decide (xs = []))) := s_neL (ys := [])
@[simp] theorem s_eqI : eqMD (.int a) (.int b) = some (.bl (decide (a = b))) := by
  have : eqD (.int a) (.int b) = some (decide (a = b)) := by
    show (if SeqAt.shaped (.int a) = true ∧ SeqAt.shaped (.int b) = true then some (a == b) else none) = _
    rw [if_pos ⟨rfl, rfl⟩]; rfl
  unfold eqMD; rw [this]; rfl
@[simp] theorem s_neI : neMD (.int a) (.int b) = some (.bl (!decide (a = b))) := by
  have : eqD (.int a) (.int b) = some (decide (a = b)) := by
    show (if SeqAt.shaped (.int a) = true ∧ SeqAt.shaped (.int b) = true then some (a == b) else none) = _
    rw [if_pos ⟨rfl, rfl⟩]; rfl
  unfold neMD; rw [this]; rfl
theorem cut_to {xs : List D} {k : Nat} : cutD xs none (some (k : Int)) = xs.take k := by
  unfold cutD
  rw [HT.sIx_nat, HT.sIx_none]
  simp
@[simp] theorem s_enumT : enumA [.tup xs] = some (enumD xs) := rfl
@[simp] theorem s_enumL : enumA [.lst xs] = some (enumD xs) := rfl
@[simp] theorem s_max2 : maxD [.int a, .int b] = some (.int (if b > a then b else a)) := rfl
@[simp] theorem s_min2 : minD [.int a, .int b] = some (.int (if b < a then b else a)) := rfl
@[simp] theorem s_addL (h : xs.length + ys.length ≤ 100000) : addD (.lst xs) (.lst ys) = some (.lst (xs ++ ys)) := if_pos h
@[simp] theorem s_Gt {n : Nat} {gs : List D → Env → Option Env} {ρ : Env} : mGt n gs (.tup xs) ρ = if xs.length = n then gs xs ρ else none := rfl
@[simp] theorem s_Gc {g : MG} {gs : List D → Env → Option Env} {ρ : Env} : mGcons g gs (x :: xs) ρ = (g x ρ).bind fun ρ' => gs xs ρ' := rfl
@[simp] theorem s_Gnil {ρ : Env} : mGnil [] ρ = some ρ := rfl
@[simp] theorem s_fld {k : Str} {ks : List Str} {n : Nat} : fldD k ks n (.obj k ks xs) = xs[n]? := if_pos ⟨rfl, rfl⟩
@[simp] theorem s_scrLen {ns : List Int} : lenD [.scr ns] = some (.int ns.length) := rfl
@[simp] theorem s_scrIx {ns : List Int} : ixD (.scr ns) (.int i) = (atI ns i).map .int := rfl
@[simp] theorem s_scrSl {ns : List Int} {lo hi : Option Int} : slD (.scr ns) lo hi = some (.lst (cutD (ns.map .int) lo hi)) := rfl
@[simp] theorem s_vSh {ρ : Env} {n : Nat} : vSh ρ n = match ρ[n]? with
  | some (.sh d) => some d
  | _ => none := rfl
@[simp] theorem s_vOw {ρ : Env} {n : Nat} : vOw ρ n = match ρ[n]? with
  | some (.ow d) => some d
  | _ => none := rfl
@[simp] theorem s_start {n : Nat} {ds : List D} : startE n ds = ds.map Sd.sh ++ List.replicate (n - ds.length) Sd.un := rfl
@[simp] theorem s_Gn {n : Nat} {d : D} {ρ : Env} : mGn n d ρ = some (ρ.set n (.sh d)) := rfl
@[simp] theorem s_int1 : int1D [.int a] = some (.int a) := rfl
@[simp] theorem s_lenL : lenD [.lst xs] = some (.int xs.length) := rfl
@[simp] theorem s_lenT : lenD [.tup xs] = some (.int xs.length) := rfl
@[simp] theorem s_tupL : tupD [.lst xs] = some (.tup xs) := rfl
@[simp] theorem s_getP {l : List Int} {P : D → PuS → Prop} : Ok (getP .pur (.int j)) (.real l) P ↔ ∃ n, atI l j = some n ∧ P (.int n) (.real l) := by
  cases e : atI l j with
  | none =>
    constructor
    · rintro ⟨d, u', e2, p⟩
      have e3 : (atI l j).map (fun n => (D.int n, PuS.real l)) = some (d, u') := e2
      rw [e] at e3; cases e3
    · rintro ⟨n, e2, _⟩; cases e2
  | some n =>
    have e3 : getP .pur (.int j) (.real l) = some (.int n, .real l) := by
      show (atI l j).map (fun n => (D.int n, PuS.real l)) = _
      rw [e]; rfl
    rw [ok_of e3]; simp
@[simp] theorem s_putP {l : List Int} {P : Unit → PuS → Prop} : Ok (putP .pur (.int j) (.int a)) (.real l) P ↔ ∃ n, ixN l.length j = some n ∧ P () (.real (l.set n a)) := by
  cases e : ixN l.length j with
  | none =>
    constructor
    · rintro ⟨d, u', e2, p⟩
      have e3 : (ixN l.length j).map (fun n => ((), PuS.real (l.set n a))) = some (d, u') := e2
      rw [e] at e3; cases e3
    · rintro ⟨n, e2, _⟩; cases e2
  | some n =>
    have e3 : putP .pur (.int j) (.int a) (.real l) = some ((), .real (l.set n a)) := by
      show (ixN l.length j).map (fun n => ((), PuS.real (l.set n a))) = _
      rw [e]; rfl
    rw [ok_of e3]; simp
@[simp] theorem ok_dmP {ρ : Env} {u : PuS} {mi m : ME} {n k : Nat} {PS : Fl → PuS → Prop} : Ok (mDmP n mi k m ρ) u PS ↔ Ok (m ρ) u fun v u1 => ∃ a b, v = .tup [.int a, .int b] ∧ Ok (mi ρ) u1 fun kk u2 => ∃ d, vSh ρ n = some d ∧ Ok (putP d kk (.int a)) u2 fun _ u3 => PS (.nx (ρ.set k (.sh (.int b)))) u3 := by
  unfold mDmP; simp only [ok_bind]
  constructor
  · refine fun h => h.mono fun f u' z => ?_
    split at z
    · exact ⟨_, _, rfl, by simpa only [ok_bind, ok_lft, ok_pure] using z⟩
    · exact (ok_none.mp z).elim
  · refine fun h => h.mono fun f u' z => ?_
    obtain ⟨a, b, rfl, z⟩ := z
    simpa only [ok_bind, ok_lft, ok_pure] using z
end
end Mi


set_option Elab.async false
set_option linter.all false
set_option maxRecDepth 100000
set_option maxHeartbeats 4000000
/-! MiG: chained comparisons, += on names, fresh concatenations, range with a step, f-strings. -/
namespace Mi
open PySem PySem.Spec PyProof.Rows L2
/-! ### chained comparisons -/
section
variable {X : Cx} {c : Cf} {pos : Pos} {a b d : Expr} {ma mb mc : ME} {r r' : R2} {f g : D → D → Option D}
end
/-! ### += on a name -/
theorem m_ip {W : Wo} {f : Int → Int → Int} : IpM W (ipI f) (int2 fun i j => some (.int (f i j))) := by
  intro p F H u x y a b Q gd rx ry h
  obtain ⟨d, e, _⟩ := lft_some h
  obtain ⟨i, j, rfl, rfl, e2⟩ := int2_some e
  exact ⟨i, j, rx.int_, ry.int_, OpM.ret gd h rfl (.int _)⟩
def addI : D → D → Option D := int2 fun i j => some (.int (i + j))
theorem m_addI {W : Wo} : IpM W (ipI fun i j => i + j) addI := m_ip
@[simp] theorem s_addI {a b : Int} : addI (.int a) (.int b) = some (.int (a + b)) := rfl
@[simp] theorem ok_aug {ρ : Env} {u : PuS} {i : Nat} {f : D → D → Option D} {m : ME} {P : Fl → PuS → Prop} : Ok (mAug i f m ρ) u P ↔ ∃ x, vSh ρ i = some x ∧ Ok (m ρ) u fun y u1 => ∃ z, f x y = some z ∧ P (.nx (ρ.set i (.sh z))) u1 := by
  unfold mAug; simp only [ok_bind, ok_lft, ok_pure]
/-! ### fresh lists by + -/
/-! ### while -/
theorem ok_while {t : MT} {mb : MS} {P : Fl → PuS → Prop} (Inv : Nat → Env → PuS → Prop)
    (step : ∀ n ρ u, Inv n ρ u → Ok (t ρ) u fun b u1 => Br b (∃ m, n = m + 1 ∧ Ok (mb ρ) u1 fun f u' => match f with
      | .nx ρ2 => Inv m ρ2 u'
      | .ct ρ2 => Inv m ρ2 u'
      | .bk ρ2 => P (.nx ρ2) u'
      | .rt d => P (.rt d) u'
      | .rl d => P (.rl d) u') (P (.nx ρ) u1)) : ∀ (n k : Nat) (ρ : Env) (u : PuS), n < k → Inv n ρ u → Ok (loopW t mb k ρ) u P
  | n, 0, ρ, u, hk, h => by omega
  | n, k + 1, ρ, u, hk, h => by
    unfold loopW
    rw [ok_bind]
    refine (step n ρ u h).mono fun b u1 z => ?_
    cases b with
    | false => simpa [ok_pure] using z
    | true =>
      simp only [if_true, br_t] at z ⊢
      obtain ⟨m, rfl, z⟩ := z
      rw [ok_bind]
      refine z.mono fun f u' z => ?_
      cases f with
      | nx ρ2 => exact ok_while Inv step m k ρ2 u' (by omega) z
      | ct ρ2 => exact ok_while Inv step m k ρ2 u' (by omega) z
      | bk ρ2 => exact ok_pure.mpr z
      | rt d => exact ok_pure.mpr z
      | rl d => exact ok_pure.mpr z
@[simp] theorem ok_mWhile {n : Nat} {t : MT} {mb : MS} {ρ : Env} {u : PuS} {P : Fl → PuS → Prop} : Ok (mWhile n t mb ρ) u P ↔ Ok (loopW t mb n ρ) u P := Iff.rfl
end Mi


set_option Elab.async false
set_option linter.all false
set_option maxRecDepth 100000
set_option maxHeartbeats 4000000
/-! MiQ: == and != of data that stand for plain things. -/
namespace Mi
open PySem L2
/-- one statement, with what holds behind it -/
theorem seq_cut {m n : MS} {ρ : Env} {u : PuS} {P : Fl → PuS → Prop} (Q : Env → PuS → Prop) (h1 : Ok (m ρ) u fun f u1 => match f with
    | .nx ρ1 => Q ρ1 u1
    | f' => P f' u1) (h2 : ∀ ρ1 u1, Q ρ1 u1 → Ok (n ρ1) u1 P) : Ok (mSeq m n ρ) u P := ok_seq.mpr (h1.mono fun f u1 z => by
  cases f with
  | nx ρ1 => exact h2 _ _ z
  | _ => exact z)
structure EqT {α : Type} [DecidableEq α] (f : α → D) (g : α → PyData) (k : Nat) : Prop where
  to : ∀ x, toPD (f x) = some (g x)
  lay : ∀ x, PyData.canLay0 (g x) = true
  dep : ∀ x, PyData.depth (g x) ≤ k
  eqv : ∀ x y, PyData.eqv (g x) (g y) = decide (x = y)
section
variable {α β : Type} [DecidableEq α] [DecidableEq β] {f : α → D} {g : α → PyData} {k : Nat}
theorem EqT.shaped (h : EqT f g k) (hk : k ≤ 64) (x : α) : SeqAt.shaped (g x) = true := by
  unfold SeqAt.shaped
  rw [h.lay x, decide_eq_true (Nat.le_trans (h.dep x) hk)]; rfl
theorem EqT.eqD (h : EqT f g k) (hk : k ≤ 64) (x y : α) : Mi.eqD (f x) (f y) = some (decide (x = y)) := by
  unfold Mi.eqD
  rw [h.to, h.to]
  show (if SeqAt.shaped (g x) = true ∧ SeqAt.shaped (g y) = true then some (PyData.eqv (g x) (g y)) else none) = _
  rw [if_pos ⟨h.shaped hk x, h.shaped hk y⟩, h.eqv]
theorem EqT.eq (h : EqT f g k) (hk : k ≤ 64) (x y : α) : eqMD (f x) (f y) = some (.bl (decide (x = y))) := by unfold eqMD; rw [h.eqD hk]; rfl
theorem EqT.ne (h : EqT f g k) (hk : k ≤ 64) (x y : α) : neMD (f x) (f y) = some (.bl (!decide (x = y))) := by unfold neMD; rw [h.eqD hk]; rfl
theorem EqT.int : EqT D.int PyData.int 0 := ⟨fun _ => rfl, fun _ => rfl, fun _ => Nat.le_refl 0, fun x y => by
  show (x == y) = _
  by_cases h : x = y <;> simp [h]⟩
theorem EqT.bl : EqT D.bl PyData.bool 0 := ⟨fun _ => rfl, fun _ => rfl, fun _ => Nat.le_refl 0, fun x y => by
  show (x == y) = _
  by_cases h : x = y <;> simp [h]⟩
theorem EqT.toPDs (h : EqT f g k) : ∀ xs : List α, Mi.toPDs (xs.map f) = some (xs.map g)
  | [] => rfl
  | x :: xs => by
    show (match toPD (f x), Mi.toPDs (xs.map f) with
      | some a, some b => some (a :: b)
      | _, _ => none) = _
    rw [h.toPDs xs, h.to]; rfl
theorem EqT.lays (h : EqT f g k) : ∀ xs : List α, PyData.canLayAll0 (xs.map g) = true
  | [] => rfl
  | x :: xs => by show (PyData.canLay0 (g x) && _) = true; rw [h.lays xs, h.lay]; rfl
theorem EqT.deps (h : EqT f g k) : ∀ xs : List α, PyData.depthAll (xs.map g) ≤ k
  | [] => Nat.zero_le _
  | x :: xs => Nat.max_le.mpr ⟨h.dep x, h.deps xs⟩
theorem EqT.eqvs (h : EqT f g k) : ∀ xs ys : List α, PyData.eqvAll (xs.map g) (ys.map g) = decide (xs = ys)
  | [], [] => rfl
  | [], _ :: _ => rfl
  | _ :: _, [] => rfl
  | x :: xs, y :: ys => by
    show (PyData.eqv (g x) (g y) && PyData.eqvAll (xs.map g) (ys.map g)) = _
    rw [h.eqvs xs ys, h.eqv]
    by_cases h1 : x = y <;> by_cases h2 : xs = ys <;> simp [h1, h2]
theorem EqT.lst (h : EqT f g k) : EqT (fun xs : List α => .lst (xs.map f)) (fun xs => .list (xs.map g)) (k + 1) :=
  ⟨fun xs => by show (Mi.toPDs (xs.map f)).map PyData.list = _; rw [h.toPDs]; rfl, fun xs => h.lays xs, fun xs => Nat.succ_le_succ (h.deps xs), fun xs ys => h.eqvs xs ys⟩
theorem EqT.tup (h : EqT f g k) : EqT (fun xs : List α => .tup (xs.map f)) (fun xs => .tuple (xs.map g)) (k + 1) :=
  ⟨fun xs => by show (Mi.toPDs (xs.map f)).map PyData.tuple = _; rw [h.toPDs]; rfl, fun xs => h.lays xs, fun xs => Nat.succ_le_succ (h.deps xs), fun xs ys => h.eqvs xs ys⟩
/-- a thing or None -/
def opD (f : α → D) : Option α → D
  | some x => f x
  | none => .non
def opP (g : α → PyData) : Option α → PyData
  | some x => g x
  | none => .none
theorem eqv_none_l {p : PyData} (h : p ≠ .none) : PyData.eqv .none p = false := by
  cases p <;> first | exact absurd rfl h | rfl
theorem eqv_none_r {p : PyData} (h : p ≠ .none) : PyData.eqv p .none = false := by
  cases p <;> first | exact absurd rfl h | rfl
theorem EqT.opt (h : EqT f g k) (hn : ∀ x, g x ≠ .none) : EqT (opD f) (opP g) k :=
  ⟨fun x => by cases x with
    | none => rfl
    | some x => exact h.to x,
   fun x => by cases x with
    | none => rfl
    | some x => exact h.lay x,
   fun x => by cases x with
    | none => exact Nat.zero_le _
    | some x => exact h.dep x,
   fun x y => by
    cases x with
    | none =>
      cases y with
      | none => rfl
      | some y => show PyData.eqv .none (g y) = _; rw [eqv_none_l (hn y)]; simp
    | some x =>
      cases y with
      | none => show PyData.eqv (g x) .none = _; rw [eqv_none_r (hn x)]; simp
      | some y => show PyData.eqv (g x) (g y) = _; rw [h.eqv]; by_cases e : x = y <;> simp [e]⟩
/-- rows of ints or None -/
theorem EqT.row : EqT (opD fun xs : List Int => .tup (xs.map D.int)) (opP fun xs => .tuple (xs.map PyData.int)) 1 := EqT.opt (EqT.tup EqT.int) fun x h => by cases h
end
end Mi




set_option Elab.async false
set_option linter.all false
set_option maxRecDepth 100000
set_option maxHeartbeats 4000000
/-! MiT: reversed, range downwards, sorted ints, f-strings. -/
namespace Mi
open PySem PySem.Spec PyProof.Rows L2
/-! ### reversed(list) -/
/-! ### range(a, b, -1) -/
/-! ### sorted ints -/
/-! ### f-strings -/
def fmtD : D → Option D
  | .str y => if y.length ≤ 100000 then some (.str y) else none
  | .int i => if i.natAbs.log2 < 1920 then some (.str (toString i)) else none
  | _ => none
def mFmt (m : ME) : ME := fun ρ => M.bind (m ρ) fun d => lft (fmtD d)
theorem dFmt {X : Cx} {c : Cf} {e : Expr} {m : ME} {pos : Pos} (he : DE X c e m) : DE X c (.FormattedValue e (-1) none pos) (mFmt m) :=
  (pe_fmt he).imp fun σ H Q ⟨F, u, ρ, S, h⟩ => ⟨F, u, ρ, S, (After.split h).imp fun d u1 F1 H1 _ s1 g1 h1 v rv => by
    obtain ⟨z, e1, h2⟩ := lft_some h1
    unfold fmtD at e1
    cases d with
    | str y =>
      simp only [] at e1
      split at e1
      · rename_i hl
        cases e1
        exact .inl ⟨y, rv.str_, sz5 hl, After.now g1 h2 _ (.str y)⟩
      · cases e1
    | int i =>
      simp only [] at e1
      split at e1
      · rename_i hl
        cases e1
        exact .inr ⟨i, rv.int_, hl, After.now g1 h2 _ (.str _)⟩
      · cases e1
    | _ => cases e1⟩
def mJs : List ME → Str → Env → M Str
  | [], acc, _ => M.pure acc
  | m :: ms, acc, ρ => M.bind (m ρ) fun d => match d with
    | .str y => if (acc ++ y).length ≤ 100000 then mJs ms (acc ++ y) ρ else lft none
    | _ => lft none
def mFs (ms : List ME) : ME := fun ρ => M.bind (mJs ms Str.empty ρ) fun s => M.pure (.str s)
inductive DJ (X : Cx) (c : Cf) : List Expr → List ME → Prop
  | nil : DJ X c [] []
  | cons {e : Expr} {m : ME} {es : List Expr} {ms : List ME} (h : DE X c e m) (r : DJ X c es ms) : DJ X c (e :: es) (m :: ms)
theorem DJ.pj {X : Cx} {c : Cf} {es : List Expr} {ms : List ME} (h : DJ X c es ms) : PJ X es (ms.map (rdE c)) := by
  induction h with
  | nil => exact .nil
  | cons h r ih => exact .cons h ih
theorem rdJs {c : Cf} : ∀ (ms : List ME) (acc : Str) (σ : L2.St) (H : Hp) (Q : Str → Hp → Prop) (F : Hp) (u : PuS) (ρ : Env), Sta c u F H σ ρ → After c.p F H (mJs ms acc ρ u) (fun s _ _ H' => Q s H') → tJs (ms.map (rdE c)) acc σ H Q
  | [], acc, σ, H, Q, F, u, ρ, S, h => After.now S.gd h
  | m :: ms, acc, σ, H, Q, F, u, ρ, S, h => ⟨F, u, ρ, S, (After.split h).imp fun d u1 F1 H1 _ s1 g1 h1 v rv => by
      cases d with
      | str y =>
        have h2 : After c.p F1 H1 ((if (acc ++ y).length ≤ 100000 then mJs ms (acc ++ y) ρ else lft none) u1) (fun s _ _ H' => Q s H') := h1
        by_cases hl : (acc ++ y).length ≤ 100000
        · rw [if_pos hl] at h2
          exact ⟨y, rv.str_, sz5 hl, rdJs ms (acc ++ y) σ H1 Q F1 u1 ρ (S.step s1 g1) h2⟩
        · rw [if_neg hl] at h2; exact False.elim h2
      | _ => exact False.elim h1⟩
theorem dFs {X : Cx} {c : Cf} {v1 v2 : Expr} {rest : List Expr} {ms : List ME} {pos : Pos} (h : DJ X c (v1 :: v2 :: rest) ms) : DE X c (.JoinedStr (v1 :: v2 :: rest) pos) (mFs ms) :=
  (pe_joined h.pj).imp fun σ H Q ⟨F, u, ρ, S, h⟩ => rdJs ms _ σ H _ F u ρ S ((After.split h).imp fun s u1 F1 H1 _ s1 g1 h1 => After.now g1 h1 _ (.str s))
@[simp] theorem ok_Fmt {ρ : Env} {u : PuS} {m : ME} {P : D → PuS → Prop} : Ok (mFmt m ρ) u P ↔ Ok (m ρ) u fun d u1 => ∃ z, fmtD d = some z ∧ P z u1 := by unfold mFmt; simp only [ok_bind, ok_lft]
@[simp] theorem ok_Fs {ρ : Env} {u : PuS} {ms : List ME} {P : D → PuS → Prop} : Ok (mFs ms ρ) u P ↔ Ok (mJs ms Str.empty ρ) u fun s u1 => P (.str s) u1 := by unfold mFs; simp only [ok_bind, ok_pure]
@[simp] theorem ok_Js0 {ρ : Env} {u : PuS} {acc : Str} {P : Str → PuS → Prop} : Ok (mJs [] acc ρ) u P ↔ P acc u := ok_pure
@[simp] theorem ok_Js {ρ : Env} {u : PuS} {acc : Str} {m : ME} {ms : List ME} {P : Str → PuS → Prop} : Ok (mJs (m :: ms) acc ρ) u P ↔ Ok (m ρ) u fun d u1 => ∃ y, d = .str y ∧ (acc ++ y).length ≤ 100000 ∧ Ok (mJs ms (acc ++ y) ρ) u1 P := by
  show Ok (M.bind _ _) u P ↔ _
  rw [ok_bind]
  constructor
  · refine fun h => h.mono fun d u1 z => ?_
    cases d with
    | str y =>
      by_cases hl : (acc ++ y).length ≤ 100000
      · simp only [hl, if_true] at z; exact ⟨y, rfl, hl, z⟩
      · simp only [hl, if_false] at z; exact (ok_none.mp z).elim
    | _ => exact (ok_none.mp z).elim
  · refine fun h => h.mono fun d u1 z => ?_
    obtain ⟨y, rfl, hl, z⟩ := z
    simp only [hl, if_true]; exact z
end Mi


set_option Elab.async false
set_option linter.all false
set_option maxRecDepth 100000
set_option maxHeartbeats 4000000
namespace Mi
open PySem L2
/-- one statement; what follows and what is wanted are hidden -/
theorem seq_go {m n : MS} {ρ : Env} {u : PuS} {P : Fl → PuS → Prop} (h : ∀ (K : Env → PuS → Prop) (R : Fl → PuS → Prop), (∀ ρ1 u1, Ok (n ρ1) u1 P → K ρ1 u1) → (∀ f u1, P f u1 → R f u1) → Ok (m ρ) u fun f u1 => match f with
    | .nx ρ1 => K ρ1 u1
    | f' => R f' u1) : Ok (mSeq m n ρ) u P := ok_seq.mpr ((h (fun ρ1 u1 => Ok (n ρ1) u1 P) P (fun _ _ => id) (fun _ _ => id)).mono fun f u1 z => by
  cases f with
  | nx ρ1 => exact z
  | _ => exact z)
/-- a statement; what is wanted is hidden -/
theorem st_go {m : MS} {ρ : Env} {u : PuS} {P : Fl → PuS → Prop} (h : ∀ (R : Fl → PuS → Prop), (∀ f u1, P f u1 → R f u1) → Ok (m ρ) u R) : Ok (m ρ) u P := h P fun _ _ => id
end Mi


set_option Elab.async false
set_option linter.all false
set_option maxRecDepth 100000
set_option maxHeartbeats 4000000
/-! MiV: a, b, c, d = .., fresh lists among them. -/
namespace Mi
open PySem PySem.Spec PyProof.Rows L2
section
variable {X : Cx} {c : Cf} {pos : Pos} {ms : MM}
end
@[simp] theorem s_setAll4 {k l m n : Nat} {s t r q : Sd} {ρ : Env} : setAll [k, l, m, n] [s, t, r, q] ρ = (((ρ.set k s).set l t).set m r).set n q := rfl
@[simp] theorem s_setAll5 {k l m n o : Nat} {s t r q p : Sd} {ρ : Env} : setAll [k, l, m, n, o] [s, t, r, q, p] ρ = ((((ρ.set k s).set l t).set m r).set n q).set o p := rfl
end Mi



set_option Elab.async false
set_option linter.all false
set_option maxRecDepth 100000
set_option maxHeartbeats 4000000
/-! MiY: == of equal tuples that hold objects with an own ==. -/
namespace Mi
open PySem PySem.Spec PyProof.Rows L2
def leafB (b : D → Bool) : D → Bool
  | .int _ => true
  | .str _ => true
  | d => b d
def seqB (b : D → Bool) : D → Bool
  | .tup ds => ds.all (leafB b)
  | d => leafB b d
def deepB (b : D → Bool) : D → Bool
  | .tup ds => ds.all (seqB b)
  | _ => false
open Classical in
noncomputable def eqTD (b : D → Bool) : D → D → Option D := fun x y => if x = y ∧ deepB b x = true then some (.bl true) else none
theorem eqTD_same {b : D → Bool} {x : D} (h : deepB b x = true) : eqTD b x x = some (.bl true) := if_pos ⟨rfl, h⟩
def eqR (W : Wo) (b : D → Bool) : Addr → Addr → Hp → Prop := fun x y H => ∃ p F u d, Gd p u F H ∧ Rep W p F (.ref x) d ∧ Rep W p F (.ref y) d ∧ b d = true
theorem Gd.ext {p : Addr} {u : PuS} {F H H' : Hp} (g : Gd p u F H) (e : L2.Ext H H') : Gd p u F H' := ⟨fun a o h => e a o (g.ex a o h), e _ _ g.pu, g.off⟩
theorem eqR_mon {W : Wo} {b : D → Bool} : ∀ x y H H', L2.Ext H H' → eqR W b x y H → eqR W b x y H' := fun x y H H' e ⟨p, F, u, d, g, r1, r2, h⟩ => ⟨p, F, u, d, g.ext e, r1, r2, h⟩
section
variable {X : Cx} {W : Wo} {k : Nat} {f C : Addr} {fd : FuncData} {ps : List Str} {mf : List D → M D} {b : D → Bool}
theorem eq_fn (F : FnOk X.prog X.w X.K X.mg X.base CX0 k f fd ps (spM W 2 mf)) (h : ∀ d, b d = true → ∀ u, mf [d, d] u = some (.bl true, u)) : FnOk X.prog X.w X.K X.mg X.base CX0 k f fd ps (spEq (eqR W b)) :=
  F.imp fun vs H Q E ⟨x, y, e, ⟨p, F, u, d, g, r1, r2, hd⟩, hq⟩ => by
    subst e
    refine ⟨rfl, p, F, u, [d, d], g, Reps.cons r1 (Reps.cons r2 Reps.nil), ?_⟩
    rw [h d hd u]
    intro F' H' s' g' v rv
    rw [rv.bl_]
    refine hq H' fun a o e => ?_
    by_cases ha : a = p
    · subst ha
      rw [g'.pu, ← g.pu, e]
    · exact s'.eh a o ha e
def DL1 (W : Wo) (b : D → Bool) (C : Addr) : Eqv := fun x y H => DFlat x y H ∨ DIns C (eqR W b) x y H
def DL2 (W : Wo) (b : D → Bool) (C : Addr) : Eqv := fun x y H => DL1 W b C x y H ∨ DTup W.K (DL1 W b C) x y H
theorem mon_L1 : Mon (DL1 W b C) := Mon.or mon_flat (mon_ins eqR_mon)
theorem mon_L2 : Mon (DL2 W b C) := Mon.or mon_L1 (mon_tup mon_L1)
theorem op_eqT (F : FnOk X.prog X.w X.K X.mg X.base CX0 k f fd ps (spM W 2 mf)) (h : ∀ d, b d = true → ∀ u, mf [d, d] u = some (.bl true, u)) (hc : EqC X.K C f) (hb : L2.Binds X.K fd ps []) (hK : W.K = X.K) (hr : Room (k + 2) X.A) : OpR X (compareOp .Eq) (rEqG (DTup W.K (DL2 W b C))) := by
  rw [hK]
  have e1 : EqG X k (DL1 W b C) := EqG.or (eqG_flat.mono (Nat.zero_le _)) (eqG_ins (E := E0) (eq_fn F h) hc.eq hc.fn hb pass0)
  have e2 : EqG X (k + 1) (DL2 W b C) := by
    unfold DL2
    rw [hK]
    exact EqG.or (e1.mono (Nat.le_succ _)) (eqG_tup mon_L1 e1)
  exact op_eqG (rcG_tup mon_L2 e2) hr
theorem l1_of {p : Addr} {F H : Hp} {u : PuS} {x y : V} {d : D} {ck : Str} (hC : ∀ d, b d = true → ∃ ks ds, d = .obj ck ks ds) (g : Gd p u F H) (rx : Rep W p F x d) (ry : Rep W p F y d) (h : leafB b d = true) : DL1 W b (W.cl ck) x y H := by
  have ob : b d = true → DL1 W b (W.cl ck) x y H := fun hd => by
    obtain ⟨ks, ds, rfl⟩ := hC d hd
    cases rx with
    | obj hc h1 lk l r =>
      cases ry with
      | obj hc' h1' lk' l' r' => exact .inr ⟨_, _, _, _, _, _, rfl, rfl, g.ex _ _ h1, g.ex _ _ h1', p, F, u, _, g, .obj hc h1 lk l r, .obj hc' h1' lk' l' r', hd⟩
  cases d with
  | int i =>
    cases rx
    cases ry
    exact .inl ⟨rfl, rfl, by simp [eqV]⟩
  | str s =>
    cases rx
    cases ry
    exact .inl ⟨rfl, rfl, by simp [eqV]⟩
  | _ => exact ob h
theorem m_eqT {ck : Str} (hC : ∀ d, b d = true → ∃ ks ds, d = .obj ck ks ds) : OpM W (rEqG (DTup W.K (DL2 W b (W.cl ck)))) (eqTD b) := by
  intro p F H u x y a a' Q g rx ry h
  unfold eqTD at h
  by_cases hc : a = a' ∧ deepB b a = true
  · rw [if_pos hc] at h
    obtain ⟨rfl, hd⟩ := hc
    refine ⟨?_, fun H' e => h F H' ⟨fun _ _ e => e, fun a o _ e' => e a o e', fun _ _ e => .inl e⟩ (g.ext e) _ (.bl true)⟩
    cases a with
    | tup ds =>
      cases rx with
      | tup h1 l r =>
        cases ry with
        | tup h1' l' r' =>
          refine ⟨_, _, _, _, rfl, rfl, sq_t g.ex h1, sq_t g.ex h1', by omega, fun i v w e1 e2 => ?_⟩
          have hi : i < ds.length := by rw [← l]; exact (List.getElem?_eq_some_iff.mp e1).1
          have ed : ds[i]? = some ds[i] := List.getElem?_eq_getElem hi
          have hl := List.all_eq_true.mp (show ds.all (seqB b) = true from hd) ds[i] (List.getElem_mem hi)
          have q1 := r i v _ e1 ed
          have q2 := r' i w _ e2 ed
          generalize ds[i] = dd at hl q1 q2
          cases dd with
          | tup es =>
            cases q1 with
            | tup k1 m1 s1 =>
              cases q2 with
              | tup k1' m1' s1' =>
                refine .inr ⟨_, _, _, _, rfl, rfl, sq_t g.ex k1, sq_t g.ex k1', by omega, fun j v w f1 f2 => ?_⟩
                have hj : j < es.length := by rw [← m1]; exact (List.getElem?_eq_some_iff.mp f1).1
                have ee : es[j]? = some es[j] := List.getElem?_eq_getElem hj
                have hl2 := List.all_eq_true.mp (show es.all (leafB b) = true from hl) es[j] (List.getElem_mem hj)
                exact l1_of hC g (s1 j v _ f1 ee) (s1' j w _ f2 ee) hl2
          | _ => exact .inl (l1_of hC g q1 q2 hl)
    | _ => cases hd
  · rw [if_neg hc] at h
    exact h.elim
end
end Mi



set_option Elab.async false
set_option linter.all false
set_option maxRecDepth 100000
set_option maxHeartbeats 4000000
/-! MiO: in, [..] and the binary operators by own methods. -/
namespace Mi
open PySem PySem.Spec PyProof.Rows L2 He
/-! ### in -/
/-- the right operand is an instance of the class at C, then its own in -/
def rIn (C : Addr) (g : Bool → Bool) (sp : Sp) : R2 := fun x y H Q => ∃ b dy gs, y = .ref b ∧ H b = some (.ins C dy gs) ∧ sp [.ref b, x] H (fun v H' => ∃ c, v = .bl c ∧ Q (.bl (g c)) H') E0
section
variable {X : Cx} {k : Nat} {f C : Addr} {fd : FuncData} {ps : List Str} {sp : Sp}
end
/-! ### mirrors -/
section
variable {X : Cx} {c : Cf} {k : Nat} {f : Addr} {fd : FuncData} {ps : List Str} {mf : List D → M D} {ck : Str} {a b : Expr} {ma mb : ME} {pos : Pos}
end
/-! ### wp -/
section
variable {ρ : Env} {u : PuS} {P : D → PuS → Prop} {k : Str} {mf : List D → M D} {ma mb : ME}
end
end Mi




set_option Elab.async false
set_option linter.all false
set_option maxRecDepth 100000
set_option maxHeartbeats 4000000
/-! MiI: repr(..), str(..) by own methods, sep.join(list of texts). -/
namespace Mi
open PySem PySem.Spec PyProof.Rows L2 He
/-! ### str of an instance -/
theorem str_K {prog : Program} {w : World} {A : Around} {E : Value → Shared → Prop} {s : Shared} {K : PySem.W.Frag} {x C L f : Addr} {h₀ : Heap} {m : Str → Option Value} {ox : Obj} {od : Option Obj} {Q : Value → Shared → Prop} (hu : A.in1.in1.units < cLine) (F : Fr h₀ L s.heap m) (X₀ : K.In h₀) (I : PySem.W.InstAt s.heap x ox C od) (hs : PySem.W.findIn K (.ref C) "__str__" = some (some (.ref f))) (hf : PySem.W.isFn K (.ref f) = true)
    (h : wpAny (model prog w) A.in1.in1 (call (.ref f) [.ref x]) (PySem.W.StrBack Q) E s) : wpAny (model prog w) A (call (.type "str") [.ref x]) Q E s := by
  refine callType_codes (Q₁ := fun obj s₁ => s₁.TypeIs obj "str" ∧ Q obj s₁) PySem.F.called_str (PySem.F.typeCall_str_1 _) PySem.F.entry_object_init ?_ fun obj s₁ h₁ =>
    ⟨h₁.1, PySem.F.args_object_init_2 obj _, object_init_meets PySem.F.called_str.init.lookup PySem.F.called_str.made (by decide) prog w A.in1 _ s₁ ⟨h₁.1, rfl, h₁.2⟩⟩
  refine codeAny_call_builtin PySem.F.called_str.plain PySem.F.entry_str_new (wpAny_of_eq (PySem.F.newCall_str_1 _) ?_)
  rw [str_new_tree]
  refine wpAny_bind (wpAny_pure ?_)
  refine wpAny_bind (wpAny_of_eq isSubtype_str_str ?_)
  refine wpAny_bind ?_
  unfold Builtin.Str.strOf
  show wpAny _ _ (do
    cRoomFor "str" [.ref x]
    let some r ← callSpecial? (.ref x) "__str__" | unsupported "internal:no-__str__"
    if (← asStr? r).isNone then
      rule "str-of.not-a-str"; raiseError "TypeError" s!"__str__ returned non-string (type {← typeNameOf r})"
    pure r) _ _ _
  refine wpAny_bind (wpAny_cRoomFor hu ?_)
  refine wpAny_bind (m := callSpecial? (.ref x) (Str.ofString "__str__")) (PySem.W.special_fn (X₀.keeps F.keep) I hs (beq_iff_eq.mp hf) (wpAny_mono h (fun r s' hr => ?_) fun _ _ y => y))
  cases r <;> first | exact hr.elim | skip
  refine wpAny_bind (wpAny_pure ?_)
  refine wpAny_pure ?_
  refine wpAny_pure ?_
  exact ⟨typeIs_str _ _ _, hr⟩
/-! ### repr, str of what is an instance, None or a truth -/
def rTxt (C : Addr) (sp : Sp) : List V → Hp → VK → Prop := fun xs H Q => ∃ a dx fs, xs = [.ref a] ∧ H a = some (.ins C dx fs) ∧ sp [.ref a] H (fun v H' => ∃ n : Str, v = .str n ∧ Q (.str n) H') E0
section
variable {X : Cx} {c : Cf} {k : Nat} {f C : Addr} {fd : FuncData} {ps : List Str} {sp : Sp} {mf : List D → M D} {ck : Str} {a : Expr} {ma : ME} {pos : Pos}
theorem call_strOb (G : FnOk X.prog X.w X.K X.mg X.base CX0 k f fd ps sp) (hr : Room (k + 2) X.A) (hb : Binds X.K fd ps []) (hc : OwnM X.K C f "__str__") : CallR X (.type "str") (rTxt C sp) := by
  intro pins s σ H vs us Q I r h
  obtain ⟨a, dx, fs, rfl, ha, q⟩ := h
  obtain ⟨u1, rfl, ru⟩ := Vals.one r
  cases ru
  obtain ⟨mA, J, _⟩ := ins_get I.hok ha
  obtain ⟨od, J, _⟩ := J.look
  obtain ⟨m, hF⟩ := I.fr
  refine str_K hr.in1.in1.units0 hF I.ok.mod.kin J hc.has hc.fn ?_
  refine wpAny_mono (call_at (vs := [.ref a]) G hr.in1.in1 rfl hb I (.cons rfl .nil) q) (fun v s' z => ?_) fun _ _ z => z
  obtain ⟨w, H', I', rw, n, ew, qq⟩ := z
  subst ew
  obtain ⟨t, rfl⟩ := rw
  exact ⟨.str n, H', I', ⟨_, rfl⟩, qq⟩
def bTx (b : Bool) : Str := if b then "True" else "False"
def rRep (C : Addr) (sp : Sp) : List V → Hp → VK → Prop := fun xs H Q => rTxt C sp xs H Q ∨ (xs = [.non] ∧ Q (.str "None") H) ∨ ∃ b, xs = [.bl b] ∧ Q (.str (bTx b)) H
def mTxt (mf : List D → M D) (ds : List D) : M D := M.bind (mf ds) fun r => match r with
  | .str n => M.pure (.str n)
  | _ => lft none
/-- str of an instance of the class k -/
def mStrO (k : Str) (mf : List D → M D) (mo : ME) : ME := fun ρ => M.bind (mo ρ) fun d => match d with
  | .obj c ks ds => if c = k then mTxt mf [.obj c ks ds] else lft none
  | _ => lft none
theorem txt_go {c : Cf} {F1 H1 : Hp} {u1 : PuS} {p1 : Addr} {dx : Addr} {vs : List V} {ks : List Str} {ds : List D} {Q : VK} (g1 : Gd c.p u1 F1 H1) (h3 : F1 p1 = some (.ins (c.W.cl ck) dx (ks.zip vs))) (rv : Rep c.W c.p F1 (.ref p1) (.obj ck ks ds))
    (h1 : After c.p F1 H1 (mTxt mf [.obj ck ks ds] u1) (fun d _ F' H' => ∀ v, Rep c.W c.p F' v d → Q v H')) : rTxt (c.W.cl ck) (spM c.W 1 mf) [.ref p1] H1 Q := by
  refine ⟨p1, dx, _, rfl, g1.ex _ _ h3, rfl, c.p, F1, u1, [_], g1, Reps.cons rv Reps.nil, (After.split h1).imp fun d u3 F3 H3 _ s3 g3 h5 z rz => ?_⟩
  split at h5
  · rename_i n _h
    have h6 : After c.p F3 H3 (some (D.str n, u3)) (fun d _ F' H' => ∀ v, Rep c.W c.p F' v d → Q v H') := h5
    exact ⟨n, rz.str_, After.now g3 h6 _ (.str n)⟩
  · exact False.elim h5
theorem dStrO {p0 : Pos} (G : FnOk X.prog X.w X.K X.mg X.base CX0 k f fd ps (spM c.W 1 mf)) (hr : Room (k + 2) X.A) (hb : Binds X.K fd ps []) (hc : OwnM X.K (c.W.cl ck) f "__str__")
    (hg : Gl X "str") (hm : X.mg "str" = none) (ha : DE X c a ma) (he : starEach [a] X.env = (false, eval a X.env) :: starEach [] X.env := by rfl) : DE X c (.Call (.Name "str" p0) [a] [] pos) (mStrO ck mf ma) :=
  (pe_callTy (call_strOb G hr hb hc) hg hm bb_str (pa_cons ha pa_nil he) (by decide) (by decide) he rfl).imp fun σ H Q ⟨F, u, ρ, S, h⟩ =>
    ⟨F, u, ρ, S, (After.split h).imp fun x u1 F1 H1 _ s1 g1 h1 v rv => by
      cases x with
      | obj cc ks ds =>
        have h2 : After c.p F1 H1 ((if cc = ck then mTxt mf [.obj cc ks ds] else lft none) u1) (fun d _ F' H' => ∀ v, Rep c.W c.p F' v d → Q v H') := h1
        by_cases hh : cc = ck
        · subst hh
          rw [if_pos rfl] at h2
          obtain ⟨p1, dx, vs, rfl, h3, _⟩ := id rv.obj_
          exact txt_go g1 h3 rv h2
        · rw [if_neg hh] at h2; exact False.elim h2
      | _ => exact False.elim h1⟩
/-! ### join -/
def strsD : List D → Option (List Str)
  | [] => some []
  | .str i :: ds => (strsD ds).map (i :: ·)
  | _ => none
theorem strsD_rep {W : Wo} {p : Addr} {F : Hp} : ∀ {vs : List V} {ds : List D} {ns : List Str}, Reps W p F vs ds → strsD ds = some ns → vs = ns.map V.str
  | vs, [], ns, r, h => by
    cases h
    exact r.none
  | vs, d :: ds, ns, r, h => by
    obtain ⟨v, vr, rfl, r1, r2⟩ := r.uncons
    cases d with
    | str i =>
      have h' : (strsD ds).map (i :: ·) = some ns := h
      cases e : strsD ds with
      | none => rw [e] at h'; cases h'
      | some ms =>
        rw [e] at h'
        cases h'
        rw [r1.str_, strsD_rep r2 e]
        rfl
    | _ => cases h
theorem strsD_map (ns : List Str) : strsD (ns.map D.str) = some ns := by
  induction ns with
  | nil => rfl
  | cons n ns ih => show (strsD (ns.map D.str)).map (n :: ·) = _; rw [ih]; rfl
def joinD (a : Str) : D → Option D
  | .lst xs => (strsD xs).bind fun ys => if (ys.map (·.length)).sum + ys.length * a.length ≤ 100000 then some (.str (Txt.join a ys)) else none
  | _ => none
def mJoin (mo me : ME) : ME := fun ρ => M.bind (mo ρ) fun d => match d with
  | .str a => M.bind (me ρ) fun y => lft (joinD a y)
  | _ => lft none
theorem dJoin {o e : Expr} {mo me : ME} {apos : Pos} (ho : DE X c o mo) (he : DE X c e me) (hK : X.K = c.W.K := by rfl) (hs : starEach [e] X.env = [(false, eval e X.env)] := by rfl) (hbase : attributeBase o "join" X.env (eval o X.env) = eval o X.env := by rfl) (hline : (apos.endLine == pos.line) = true := by rfl) :
    DE X c (.Call (.Attribute o "join" apos) [e] [] pos) (mJoin mo me) :=
  (pe_join ho he hs hbase hline).imp fun σ H Q ⟨F, u, ρ, S, h⟩ => ⟨F, u, ρ, S, (After.split h).imp fun x u1 F1 H1 _ s1 g1 h1 v rv => by
    cases x with
    | str a =>
      have h2 : After c.p F1 H1 (M.bind (me ρ) (fun y => lft (joinD a y)) u1) (fun d _ F' H' => ∀ v, Rep c.W c.p F' v d → Q v H') := h1
      refine ⟨⟨a, rv.str_⟩, F1, u1, ρ, S.step s1 g1, (After.split h2).imp fun y u2 F2 H2 _ s2 g2 h3 w rw => ?_⟩
      obtain ⟨z, e1, h4⟩ := lft_some h3
      cases y with
      | lst xs =>
        have e2 : (strsD xs).bind (fun ys => if (ys.map (·.length)).sum + ys.length * a.length ≤ 100000 then some (D.str (Txt.join a ys)) else none) = some z := e1
        cases e3 : strsD xs with
        | none => rw [e3] at e2; cases e2
        | some ys =>
          rw [e3] at e2
          simp only [Option.bind_some] at e2
          split at e2
          · rename_i hl
            cases e2
            obtain ⟨q, ws, rfl, hq, rs⟩ := rw.lst_
            have ew := strsD_rep rs e3
            subst ew
            exact ⟨a, q, ys, rv.str_, rfl, .inl (by rw [hK]; exact SqL.of (g2.ex _ _ hq)), by omega, After.now g2 h4 _ (.str _)⟩
          · cases e2
      | _ => cases e1
    | _ => exact False.elim h1⟩
end
@[simp] theorem ok_txt {mf : List D → M D} {ds : List D} {u : PuS} {P : D → PuS → Prop} : Ok (mTxt mf ds) u P ↔ Ok (mf ds) u fun d u1 => ∃ n, d = .str n ∧ P (.str n) u1 := by
  unfold mTxt
  rw [ok_bind]
  constructor
  · refine fun h => h.mono fun d u1 z => ?_
    cases d with
    | str y => exact ⟨y, rfl, ok_pure.mp z⟩
    | _ => exact (ok_none.mp z).elim
  · refine fun h => h.mono fun d u1 z => ?_
    obtain ⟨n, rfl, z⟩ := z
    exact ok_pure.mpr z
theorem ok_strO {k : Str} {mf : List D → M D} {mo : ME} {ρ : Env} {u : PuS} {P : D → PuS → Prop} : Ok (mStrO k mf mo ρ) u P ↔ Ok (mo ρ) u fun d u1 => Ok ((match d with
  | .obj c ks ds => if c = k then mTxt mf [.obj c ks ds] else lft none
  | _ => lft none : M D)) u1 P := by
  unfold mStrO
  rw [ok_bind]
theorem ok_join {mo me : ME} {ρ : Env} {u : PuS} {P : D → PuS → Prop} : Ok (mJoin mo me ρ) u P ↔ Ok (mo ρ) u fun d u1 => ∃ a, d = .str a ∧ Ok (me ρ) u1 fun y u2 => ∃ z, joinD a y = some z ∧ P z u2 := by
  unfold mJoin
  rw [ok_bind]
  constructor
  · refine fun h => h.mono fun d u1 z => ?_
    cases d with
    | str y => exact ⟨y, rfl, by simpa using z⟩
    | _ => exact (ok_none.mp z).elim
  · refine fun h => h.mono fun d u1 z => ?_
    obtain ⟨n, rfl, z⟩ := z
    simpa using z
/-! ### == of texts -/
def eqSD : D → D → Option D
  | .str a, .str b => some (.bl (decide (a = b)))
  | _, _ => none
def neSD : D → D → Option D
  | .str a, .str b => some (.bl (!decide (a = b)))
  | _, _ => none
theorem m_eqS {W : Wo} : OpM W rEq eqSD := by
  intro p F H u x y a b Q gd rx ry h
  obtain ⟨d, e, _⟩ := lft_some h
  have e0 := e
  unfold eqSD at e
  split at e
  · cases e
    rename_i a b _hh
    rw [rx.str_, ry.str_]
    refine ⟨rfl, ?_⟩
    have e1 : decide (V.str a = V.str b) = decide (a = b) := by rw [Bool.eq_iff_iff]; simp
    rw [e1]
    exact OpM.ret gd h e0 (.bl _)
  · cases e
theorem m_neS {W : Wo} : OpM W rNe neSD := by
  intro p F H u x y a b Q gd rx ry h
  obtain ⟨d, e, _⟩ := lft_some h
  have e0 := e
  unfold neSD at e
  split at e
  · cases e
    rename_i a b _hh
    rw [rx.str_, ry.str_]
    refine ⟨rfl, ?_⟩
    have e1 : decide (V.str a = V.str b) = decide (a = b) := by rw [Bool.eq_iff_iff]; simp
    rw [e1]
    exact OpM.ret gd h e0 (.bl _)
  · cases e
@[simp] theorem s_eqS' {a b : Str} : eqSD (.str a) (.str b) = some (.bl (decide (a = b))) := rfl
@[simp] theorem s_neS' {a b : Str} : neSD (.str a) (.str b) = some (.bl (!decide (a = b))) := rfl
/-! ### recursion -/
end Mi







set_option Elab.async false
set_option linter.all false
set_option maxRecDepth 100000
set_option maxHeartbeats 4000000
/-! MiTx: s.split(t), s.partition(t), int(text); C(k = v); class methods without a star. -/
namespace Mi
open PySem PySem.Spec PyProof.Rows L2 He StX
/-- s.m(e), s a text -/
def mS1 (f : Str → D → Option D) (mo me : ME) : ME := fun ρ => M.bind (mo ρ) fun d => match d with
  | .str a => M.bind (me ρ) fun y => lft (f a y)
  | _ => lft none
def splD (a : Str) : D → Option D
  | .str b => if (b.length == 0) = false ∧ a.length ≤ 90000 then some (.lst ((Txt.split a b).map D.str)) else none
  | _ => none
theorem reps_strs {W : Wo} {p : Addr} {F : Hp} : ∀ ys : List Str, Reps W p F (ys.map V.str) (ys.map D.str)
  | [] => Reps.nil
  | y :: ys => Reps.cons (.str y) (reps_strs ys)
section
variable {X : Cx} {c : Cf} {o e : Expr} {mo me : ME} {pos apos : Pos}
theorem dSplit (ho : DE X c o mo) (he : DE X c e me) (hs : starEach [e] X.env = [(false, eval e X.env)] := by rfl) (hbase : attributeBase o "split" X.env (eval o X.env) = eval o X.env := by rfl) (hline : (apos.endLine == pos.line) = true := by rfl) : DE X c (.Call (.Attribute o "split" apos) [e] [] pos) (mS1 splD mo me) :=
  (pe_split ho he hs hbase hline).imp fun σ H Q ⟨F, u, ρ, S, h⟩ => ⟨F, u, ρ, S, (After.split h).imp fun x u1 F1 H1 _ s1 g1 h1 v rv => by
    cases x with
    | str a =>
      have h2 : After c.p F1 H1 (M.bind (me ρ) (fun y => lft (splD a y)) u1) (fun d _ F' H' => ∀ v, Rep c.W c.p F' v d → Q v H') := h1
      refine ⟨⟨a, rv.str_⟩, F1, u1, ρ, S.step s1 g1, (After.split h2).imp fun y u2 F2 H2 _ s2 g2 h3 w rw => ?_⟩
      obtain ⟨z, e1, h4⟩ := lft_some h3
      cases y with
      | str b =>
        have e2 : (if (b.length == 0) = false ∧ a.length ≤ 90000 then some (D.lst ((Txt.split a b).map D.str)) else none) = some z := e1
        split at e2
        · rename_i hc
          cases e2
          refine ⟨a, b, rv.str_, by rw [rw.str_], hc.1, sz5 (by omega), fun q hq => ?_⟩
          exact h4 _ _ (Stp.new g2 hq) (g2.new hq) _ (Rep.mkL upd_same (reps_strs _))
        · cases e2
      | _ => cases e1
    | _ => exact False.elim h1⟩
end
theorem ok_S1 {f : Str → D → Option D} {mo me : ME} {ρ : Env} {u : PuS} {P : D → PuS → Prop} : Ok (mS1 f mo me ρ) u P ↔ Ok (mo ρ) u fun d u1 => ∃ a, d = .str a ∧ Ok (me ρ) u1 fun y u2 => ∃ z, f a y = some z ∧ P z u2 := by
  unfold mS1
  rw [ok_bind]
  constructor
  · refine fun h => h.mono fun d u1 z => ?_
    cases d with
    | str y => exact ⟨y, rfl, by simpa using z⟩
    | _ => exact (ok_none.mp z).elim
  · refine fun h => h.mono fun d u1 z => ?_
    obtain ⟨n, rfl, z⟩ := z
    simpa using z
/-- int(text) -/
def intSD : List D → Option D := fun ds => match ds with
  | [.str a] => match PySem.intText? a with
    | some n => if a.length ≤ 640 then some (.int n) else none
    | none => none
  | _ => none
theorem m_intS {W : Wo} : CallM W (fun xs H Q => ∃ a n, xs = [.str a] ∧ PySem.intText? a = some n ∧ a.length ≤ 640 ∧ Q (.int n) H) intSD := by
  intro p F H u xs as Q gd r h
  obtain ⟨d, e, _⟩ := lft_some h
  have e0 := e
  unfold intSD at e
  split at e
  · rename_i a
    split at e
    · rename_i n hn
      split at e
      · rename_i hl
        cases e
        obtain ⟨v, rfl, rv⟩ := r.one
        exact ⟨a, n, by rw [rv.str_], hn, hl, OpM.ret gd h e0 (.int n)⟩
      · cases e
    · cases e
  · cases e
/-! ### C(k = v, ..) -/
def mMakeK (ck : Str) (nk n : Nat) (perm : List Nat) (mf : List D → M (List Str × List D)) (mk : MA) : ME := fun ρ => M.bind (mk ρ) fun es => if es.length = nk then (if (gI perm [] es).length = n then M.bind (mf (gI perm [] es)) fun r => M.pure (.obj ck r.1 r.2) else lft none) else lft none
section
variable {X : Cx} {c : Cf} {k n : Nat} {f : Addr} {fd : FuncData} {ps ks : List Str} {x ck : Str} {p pos : Pos} {kws : List Keyword} {mk : MA} {mf : List D → M (List Str × List D)} {perm perm' : List Nat}
theorem dMakeK (hc : ck ∈ c.W.cs) (Mk' : Mk X.K (c.W.cl ck) f) (G : FnOk X.prog X.w X.K X.mg X.base CX0 k f fd ps (spI c.W ck n mf)) (hr : Room (k + 1) X.A) (hg : Gl X x) (hm : X.mg x = some (.ref (c.W.cl ck))) (hb : KBn X.K fd ps 1 ks (gI perm) (gI perm)) (hkw : DK X c kws mk) (hpm : ∀ (a : V) (zs : List V), gI perm [a] zs = a :: gI perm' [] zs)
    (hall : (backToKw pos (keywordEach kws X.env)).all (·.1.isSome) = true := by rfl) (hks : (backToKw pos (keywordEach kws X.env)).filterMap (·.1) = ks := by rfl) (hdb : (x == ("__debug__" : Str)) = false := by decide)
    (hpl : ((backTo pos (starEach [] X.env)).any (·.1) || (backToKw pos (keywordEach kws X.env)).any (·.1.isNone)) = false := by rfl) :
    DE X c (.Call (.Name x p) [] kws pos) (mMakeK ck ks.length n perm' mf mk) :=
  (pe_makeK0 Mk' G hr hg hm hb pass0 hkw hall hks hdb hpl).imp fun σ H Q ⟨F, u, ρ, S, h⟩ => ⟨F, u, ρ, S, (After.split h).imp fun es u1 F1 H1 _ s1 g1 h1 zs rzs => by
    have h2 : After c.p F1 H1 ((if es.length = ks.length then (if (gI perm' [] es).length = n then M.bind (mf (gI perm' [] es)) fun r => M.pure (D.obj ck r.1 r.2) else lft none) else lft none) u1) (fun d _ F' H' => ∀ v, Rep c.W c.p F' v d → Q v H') := h1
    split at h2
    · rename_i hl
      refine ⟨rfl, rzs.1.trans hl, fun a dx ha hdx hne => ?_⟩
      have rr := gI_reps (perm := perm') (Reps.nil (W := c.W) (p := c.p) (F := F1)) rzs
      show spI c.W ck n mf (gI perm [.ref a] zs) _ _ _
      rw [hpm]
      exact make_ok hc g1 rr h2 a dx ha hdx hne
    · exact False.elim h2⟩
end
@[simp] theorem ok_makeK {ck : Str} {nk n : Nat} {perm : List Nat} {mf : List D → M (List Str × List D)} {mk : MA} {ρ : Env} {u : PuS} {P : D → PuS → Prop} : Ok (mMakeK ck nk n perm mf mk ρ) u P ↔ Ok (mk ρ) u fun es u1 => es.length = nk ∧ (gI perm [] es).length = n ∧ Ok (mf (gI perm [] es)) u1 fun r u2 => P (.obj ck r.1 r.2) u2 := by
  unfold mMakeK; simp only [ok_bind]
  constructor
  · refine fun h => h.mono fun a u' z => ?_
    simp only [ok_ite] at z
    split at z
    · rename_i h1
      split at z
      · rename_i h2
        exact ⟨h1, h2, (ok_bind.mp z).mono fun _ _ z => ok_pure.mp z⟩
      · exact (ok_none.mp z).elim
    · exact (ok_none.mp z).elim
  · refine fun h => h.mono fun a u' z => ?_
    obtain ⟨h1, h2, z⟩ := z
    simp only [ok_ite]
    rw [if_pos h1, if_pos h2]
    exact ok_bind.mpr (z.mono fun _ _ z => ok_pure.mpr z)
/-! ### C.m(..), m a class method without a star -/
def mCMet1 (ck : Str) (n : Nat) (mf : List D → M D) (mo : ME) (ms : MA) : ME := fun ρ => M.bind (mo ρ) fun d => match d with
  | .cls c => if c = ck then M.bind (ms ρ) fun ds => if ds.length + 1 = n then mf (.cls ck :: ds) else lft none else lft none
  | _ => lft none
section
variable {X : Cx} {c : Cf} {k n : Nat} {p g : Addr} {mc : Value} {fd : FuncData} {ps : List Str} {o e : Expr} {es : List Expr} {m ck : Str} {pos apos : Pos} {mo : ME} {ms : MA} {pl : Sem Bool} {mf : List D → M D}
theorem dCMet1 (hc : ck ∈ c.W.cs) (he : DE X c o mo) (r : ClX.CRead X.K (c.W.cl ck) mc ∧ ClX.CMet X.K (c.W.cl ck) mc m p g) (F : FnOk X.prog X.w X.K X.mg X.base CX0 k g fd ps (spM c.W n mf)) (hr : Room k X.A) (hb : L2.Binds X.K fd ps []) (ha : DA X c (e :: es) ms)
    (hst : starEach (e :: es) X.env = (false, eval e X.env) :: starEach es X.env := by rfl) (hpl : (backTo pos (starEach es X.env)).any (·.1) = false := by rfl)
    (ht : eval (.Call (.Attribute o m apos) (e :: es) [] pos) X.env = (do
      let ov ← eval o X.env
      standAt apos.atName
      let (f, first) ← holding [ov] (getMethod ov m pl)
      callWith pos f first (backTo pos (starEach (e :: es) X.env)) (backToKw pos (keywordEach [] X.env))) := by rfl) :
    DE X c (.Call (.Attribute o m apos) (e :: es) [] pos) (mCMet1 ck n mf mo ms) :=
  (ClX.pe_cmeth he r.1 r.2 (F.raw hb .nil) hr pass0 ha hst hpl ht).imp fun σ H Q ⟨F, u, ρ, S, h⟩ => ⟨F, u, ρ, S, (After.split h).imp fun x u1 F1 H1 _ s1 g1 h1 v rv => by
    cases x with
    | cls cc =>
      have h3 : After c.p F1 H1 ((if cc = ck then M.bind (ms ρ) (fun ds => if ds.length + 1 = n then mf (.cls ck :: ds) else lft none) else lft none) u1) (fun d _ F' H' => ∀ v, Rep c.W c.p F' v d → Q v H') := h1
      by_cases hh : cc = ck
      · subst hh
        rw [if_pos rfl] at h3
        refine ⟨by cases rv; rfl, F1, u1, ρ, S.step s1 g1, (After.split h3).imp fun ds u2 F2 H2 ems s2 g2 h4 vs rvs => ?_⟩
        have h5 : After c.p F2 H2 ((if ds.length + 1 = n then mf (.cls cc :: ds) else lft none) u2) (fun d _ F' H' => ∀ v, Rep c.W c.p F' v d → Q v H') := h4
        by_cases hl : ds.length + 1 = n
        · rw [if_pos hl] at h5
          show spM c.W n mf ((.ref (c.W.cl cc) :: vs) ++ []) H2 Q E0
          rw [List.append_nil]
          exact ⟨by simp [rvs.1, hl], c.p, F2, u2, .cls cc :: ds, g2, Reps.cons (.cls cc hc) rvs, h5⟩
        · rw [if_neg hl] at h5; exact False.elim h5
      · rw [if_neg hh] at h3; exact False.elim h3
    | _ => exact False.elim h1⟩
end
@[simp] theorem ok_cmet1 {ck : Str} {n : Nat} {mf : List D → M D} {mo : ME} {ms : MA} {ρ : Env} {u : PuS} {P : D → PuS → Prop} : Ok (mCMet1 ck n mf mo ms ρ) u P ↔ Ok (mo ρ) u fun d u1 => d = .cls ck ∧ Ok (ms ρ) u1 fun ds u2 => ds.length + 1 = n ∧ Ok (mf (.cls ck :: ds)) u2 P := by
  unfold mCMet1; simp only [ok_bind]
  constructor
  · refine fun h => h.mono fun a u' z => ?_
    split at z
    · simp only [ok_ite] at z
      split at z
      · rename_i hh
        subst hh
        refine ⟨rfl, (ok_bind.mp z).mono fun es u2 z => ?_⟩
        simp only [ok_ite] at z
        split at z
        · rename_i hl; exact ⟨hl, z⟩
        · exact (ok_none.mp z).elim
      · exact (ok_none.mp z).elim
    · exact (ok_none.mp z).elim
  · refine fun h => h.mono fun a u' z => ?_
    obtain ⟨rfl, z⟩ := z
    simp only [ok_ite]
    rw [if_pos (by first | rfl | trivial), ok_bind]
    refine z.mono fun es u2 z => ?_
    simp only [ok_ite]
    rw [if_pos z.1]
    exact z.2
/-! ### C.m(k = v, ..), m a class method -/
def mCMetK (ck : Str) (nk n : Nat) (perm : List Nat) (mf : List D → M D) (mo : ME) (mk : MA) : ME := fun ρ => M.bind (mo ρ) fun d => match d with
  | .cls c => if c = ck then M.bind (mk ρ) fun es => if es.length = nk ∧ (gI perm [.cls ck] es).length = n then mf (gI perm [.cls ck] es) else lft none else lft none
  | _ => lft none
section
variable {X : Cx} {c : Cf} {k n : Nat} {p g C : Addr} {mc : Value} {fd : FuncData} {ps ks : List Str} {o : Expr} {kws : List Keyword} {m ck : Str} {pos apos : Pos} {mo : ME} {mk : MA} {pl : Sem Bool} {mf : List D → M D} {perm : List Nat}
theorem pe_cmethN0 {sp : Sp} {ta : TE} {tk : TA} {gg : List Value → List Value → List Value} {gV : List V → List V → List V} (he : PE X o ta) (r : ClX.CRead X.K C mc) (cm : ClX.CMet X.K C mc m p g) (F : FnOk X.prog X.w X.K X.mg X.base CX0 k g fd ps sp) (hr : Room k X.A) (hb : KBn X.K fd ps 1 ks gg gV) (hkw : PK X kws tk)
    (hall : (backToKw pos (keywordEach kws X.env)).all (·.1.isSome) = true := by rfl) (hks : (backToKw pos (keywordEach kws X.env)).filterMap (·.1) = ks := by rfl)
    (hpl : ((backTo pos (starEach [] X.env)).any (·.1) || (backToKw pos (keywordEach kws X.env)).any (·.1.isNone)) = false := by rfl)
    (ht : eval (.Call (.Attribute o m apos) [] kws pos) X.env = (do
      let ov ← eval o X.env
      standAt apos.atName
      let (f, first) ← holding [ov] (getMethod ov m pl)
      callWith pos f first (backTo pos (starEach [] X.env)) (backToKw pos (keywordEach kws X.env))) := by rfl) :
    PE X (.Call (.Attribute o m apos) [] kws pos) (fun σ H Q => ta σ H fun x H1 => x = .ref C ∧ tk σ H1 fun zs H2 => zs.length = ks.length ∧ sp (gV [.ref C] zs) H2 Q E0) := by
  refine ⟨fun pins s σ H Q I h => ?_⟩
  refine PySem.W.methodCall_KW (pl := pl) (thn (he.run pins s σ H _ I h) fun u s1 ⟨x, H1, I1, rx, ex, q⟩ => ?_) ht
  subst ex
  obtain rfl : u = Value.ref C := rx
  refine ClX.getmethcm_ok I1 r cm fun s2 I2 => ?_
  refine PySem.W.callWith_of (P := PySem.W.MethP X.K _ g (.ref C)) hpl (PySem.W.keeps_M cm.fi) (PyProof.Rows.evalArgs_kw2_nil hall ?_)
  refine thn (hkw.run pos _ s2 σ H1 _ I2 q) fun ws s3 ⟨zs, H2, I3, rz, l2, q2⟩ => ⟨⟨ClX.pin_at I3, I3.kIn⟩, ?_⟩
  rw [hks]
  have r1 : Vals [V.ref C] [Value.ref C] := .cons rfl .nil
  have z : wpAny (model X.prog X.w) X.A (call (.ref _) [] (ks.zip ws)) (EP X ((_, PySem.W.methodObj (.ref g) (.ref C)) :: pins) σ Q) X.xe s3 :=
    wpAny_call (PySem.W.method_call (ClX.pin_at I3) (codeAny_mono (F.run X.A X.stack s3 H2 ⟨[.ref C], ks.zip ws⟩ (gg [.ref C] ws) (gV [.ref C] zs) Q E0 hr I3.env0 (hb.to s3 [.ref C] ws I3.kIn rfl (rz.length.symm.trans l2)) (hb.rel r1 rz) q2) fun r s' hq => by
      cases r with
      | error e => exact pass0 _ σ H2 s3 e s' I3 hq
      | ok fl =>
        cases fl with
        | ret u => exact I3.after hq
        | next => exact False.elim hq
        | brk => exact False.elim hq
        | cont => exact False.elim hq))
  exact thn z fun _ _ y => ClX.unpinE y
theorem dCMetK (hc : ck ∈ c.W.cs) (he : DE X c o mo) (r : ClX.CRead X.K (c.W.cl ck) mc ∧ ClX.CMet X.K (c.W.cl ck) mc m p g) (F : FnOk X.prog X.w X.K X.mg X.base CX0 k g fd ps (spM c.W n mf)) (hr : Room k X.A) (hb : KBn X.K fd ps 1 ks (gI perm) (gI perm)) (hkw : DK X c kws mk)
    (hall : (backToKw pos (keywordEach kws X.env)).all (·.1.isSome) = true := by rfl) (hks : (backToKw pos (keywordEach kws X.env)).filterMap (·.1) = ks := by rfl)
    (hpl : ((backTo pos (starEach [] X.env)).any (·.1) || (backToKw pos (keywordEach kws X.env)).any (·.1.isNone)) = false := by rfl)
    (ht : eval (.Call (.Attribute o m apos) [] kws pos) X.env = (do
      let ov ← eval o X.env
      standAt apos.atName
      let (f, first) ← holding [ov] (getMethod ov m pl)
      callWith pos f first (backTo pos (starEach [] X.env)) (backToKw pos (keywordEach kws X.env))) := by rfl) :
    DE X c (.Call (.Attribute o m apos) [] kws pos) (mCMetK ck ks.length n perm mf mo mk) :=
  (pe_cmethN0 he r.1 r.2 F hr hb hkw hall hks hpl ht).imp fun σ H Q ⟨F, u, ρ, S, h⟩ => ⟨F, u, ρ, S, (After.split h).imp fun x u1 F1 H1 _ s1 g1 h1 v rv => by
    cases x with
    | cls cc =>
      have h3 : After c.p F1 H1 ((if cc = ck then M.bind (mk ρ) (fun es => if es.length = ks.length ∧ (gI perm [D.cls ck] es).length = n then mf (gI perm [D.cls ck] es) else lft none) else lft none) u1) (fun d _ F' H' => ∀ v, Rep c.W c.p F' v d → Q v H') := h1
      by_cases hh : cc = ck
      · subst hh
        rw [if_pos rfl] at h3
        refine ⟨by cases rv; rfl, F1, u1, ρ, S.step s1 g1, (After.split h3).imp fun es u2 F2 H2 _ s2 g2 h4 zs rzs => ?_⟩
        have h5 : After c.p F2 H2 ((if es.length = ks.length ∧ (gI perm [D.cls cc] es).length = n then mf (gI perm [D.cls cc] es) else lft none) u2) (fun d _ F' H' => ∀ v, Rep c.W c.p F' v d → Q v H') := h4
        split at h5
        · rename_i hl
          have rr := gI_reps (perm := perm) (Reps.cons (Rep.cls (W := c.W) (p := c.p) (F := F2) cc hc) Reps.nil) rzs
          exact ⟨by rw [rzs.1, hl.1], rr.1.trans hl.2, c.p, F2, u2, _, g2, rr, h5⟩
        · exact False.elim h5
      · rw [if_neg hh] at h3; exact False.elim h3
    | _ => exact False.elim h1⟩
end
@[simp] theorem ok_cmetK {ck : Str} {nk n : Nat} {perm : List Nat} {mf : List D → M D} {mo : ME} {ms : MA} {ρ : Env} {u : PuS} {P : D → PuS → Prop} : Ok (mCMetK ck nk n perm mf mo ms ρ) u P ↔ Ok (mo ρ) u fun d u1 => d = .cls ck ∧ Ok (ms ρ) u1 fun es u2 => (es.length = nk ∧ (gI perm [.cls ck] es).length = n) ∧ Ok (mf (gI perm [.cls ck] es)) u2 P := by
  unfold mCMetK; simp only [ok_bind]
  constructor
  · refine fun h => h.mono fun a u' z => ?_
    split at z
    · simp only [ok_ite] at z
      split at z
      · rename_i hh
        subst hh
        refine ⟨rfl, (ok_bind.mp z).mono fun es u2 z => ?_⟩
        simp only [ok_ite] at z
        split at z
        · rename_i hl; exact ⟨hl, z⟩
        · exact (ok_none.mp z).elim
      · exact (ok_none.mp z).elim
    · exact (ok_none.mp z).elim
  · refine fun h => h.mono fun a u' z => ?_
    obtain ⟨rfl, z⟩ := z
    simp only [ok_ite]
    rw [if_pos (by first | rfl | trivial), ok_bind]
    refine z.mono fun es u2 z => ?_
    simp only [ok_ite]
    rw [if_pos z.1]
    exact z.2
/-! ### f"{x}" by an own __str__ -/
structure OwnFm (K : PySem.W.Frag) (C f : Addr) : Prop where
  own : OwnM K C f "__str__"
  fm : PySem.W.findIn K (.ref C) "__format__" = some (some (.builtin "object.__format__"))
  mro : PySem.W.mroIn K C (.type "object") = some true
def ownFmB (c : Str) (K : PySem.W.Frag) : Bool := ownB c "__str__" K && (decide (PySem.W.findIn K (.ref (ga K c)) "__format__" = some (some (.builtin "object.__format__"))) && decide (PySem.W.mroIn K (ga K c) (.type "object") = some true))
theorem ownFm_ok {K : PySem.W.Frag} {c : Str} (h : (Ft.raw (ownFmB c)).ok K = true) : OwnFm K (ga K c) ((Pl.meth c "__str__").ad K) := by
  obtain ⟨h1, h⟩ := ba h
  obtain ⟨h2, h3⟩ := ba h
  exact ⟨own_ok h1, of_decide_eq_true h2, of_decide_eq_true h3⟩
section
variable {X : Cx} {c : Cf} {k : Nat} {f C : Addr} {fd : FuncData} {ps : List Str} {sp : Sp} {mf : List D → M D} {ck : Str} {a : Expr} {ma : ME} {pos : Pos}
theorem pe_fmtO {te : TE} (G : FnOk X.prog X.w X.K X.mg X.base CX0 k f fd ps sp) (hr : Room (k + 1) X.A) (hb : L2.Binds X.K fd ps []) (hc : OwnFm X.K C f) (he : PE X a te) : PE X (.FormattedValue a (-1) none pos) (fun σ H Q => te σ H fun x H1 => rTxt C sp [x] H1 Q) := by
  refine ⟨fun pins s σ H Q I h => ?_⟩
  refine wpAny_FormattedValue_plain (thn (he.run pins s σ H _ I h) fun v s1 hv => ?_)
  obtain ⟨x, H1, I1, r1, b, dx, fs, ex, hb', q⟩ := hv
  cases ex
  cases r1
  obtain ⟨mA, J, _⟩ := ins_get I1.hok hb'
  obtain ⟨od, J, _⟩ := J.look
  refine PySem.W.kfo_fieldS hr.in1.units0 I1.kIn J hc.fm hc.mro hc.own.has hc.own.fn ?_
  refine wpAny_mono (call_at (vs := [.ref b]) G hr.in1 rfl hb (I1.tok _) (.cons rfl .nil) q) (fun v s' z => ?_) fun _ _ z => z
  obtain ⟨w, H', I', rw, n, ew, qq⟩ := z
  subst ew
  obtain ⟨t, rfl⟩ := rw
  exact ⟨.str n, H', I', ⟨_, rfl⟩, qq⟩
theorem dFmtO (G : FnOk X.prog X.w X.K X.mg X.base CX0 k f fd ps (spM c.W 1 mf)) (hr : Room (k + 1) X.A) (hb : L2.Binds X.K fd ps []) (hc : OwnFm X.K (c.W.cl ck) f) (ha : DE X c a ma) : DE X c (.FormattedValue a (-1) none pos) (mStrO ck mf ma) :=
  (pe_fmtO G hr hb hc ha).imp fun σ H Q ⟨F, u, ρ, S, h⟩ =>
    ⟨F, u, ρ, S, (After.split h).imp fun x u1 F1 H1 _ s1 g1 h1 v rv => by
      cases x with
      | obj cc ks ds =>
        have h2 : After c.p F1 H1 ((if cc = ck then mTxt mf [.obj cc ks ds] else lft none) u1) (fun d _ F' H' => ∀ v, Rep c.W c.p F' v d → Q v H') := h1
        by_cases hh : cc = ck
        · subst hh
          rw [if_pos rfl] at h2
          obtain ⟨p1, dx, vs, rfl, h3, _⟩ := id rv.obj_
          exact txt_go g1 h3 rv h2
        · rw [if_neg hh] at h2; exact False.elim h2
      | _ => exact False.elim h1⟩
end
/-! ### a, b = xs, xs a list -/
def mGl (n : Nat) (gs : List D → Env → Option Env) : MG := fun d ρ => match d with
  | .lst ds => if ds.length = n then gs ds ρ else none
  | _ => none
section
variable {X : Cx} {c : Cf} {es : List Expr} {is : List Nat} {gs : List D → Env → Option Env} {pos : Pos}
theorem dGl {k n : Nat} (hc : X.calm = true) (h : DGs X c es is gs) (hn : (assignEach es X.env).length = n := by rfl) (hst : (assignEach es X.env).findIdx? (·.1) = none := by rfl) (hK : X.K = c.W.K := by rfl) : DG X c (.Tuple es k pos) is (mGl n gs) :=
  (pg_lst hc h hn hst).imp fun v σ H Q ⟨F, u, ρ, d, S, r, h⟩ => by
    cases d with
    | lst ds =>
      obtain ⟨a, vs, rfl, ht, rs⟩ := r.lst_
      have h' : match (if ds.length = n then gs ds ρ else none) with
        | some ρ' => ∀ σ', Sta c u F H σ' ρ' → Agr is σ σ' → Q σ' H
        | none => False := h
      by_cases hl : ds.length = n
      · rw [if_pos hl] at h'
        exact ⟨a, vs, rfl, by rw [hK]; exact SqL.of (S.gd.ex _ _ ht), rs.1.trans hl, F, u, ρ, ds, S, rs, h'⟩
      · rw [if_neg hl] at h'; exact False.elim h'
    | _ => exact False.elim h
end
@[simp] theorem s_Gl {n : Nat} {gs : List D → Env → Option Env} {ρ : Env} {xs : List D} : mGl n gs (.lst xs) ρ = if xs.length = n then gs xs ρ else none := rfl
end Mi


set_option Elab.async false
set_option linter.all false
set_option maxRecDepth 100000
set_option maxHeartbeats 4000000
namespace Sh
open PySem PySem.Spec PyProof.Rows L2 Mi He
@[reducible] def mb_is_integer : MS := mRet (mAndV (mCB isiD (mCons (mVar 0) (mCons (mC (.ty "int")) (mNil)))) (mNotV (mCB isiD (mCons (mVar 0) (mCons (mC (.ty "bool")) (mNil))))))
def mf_is_integer : List D → M D := mFn 1 mb_is_integer
@[reducible] def mb_is_natural : MS := mRet (mAndV (mCall 1 mf_is_integer (mCons (mVar 0) (mNil))) (mBin geD (mVar 0) (mC (.int 0))))
def mf_is_natural : List D → M D := mFn 1 mb_is_natural
end Sh


set_option Elab.async false
set_option linter.all false
set_option maxRecDepth 100000
set_option maxHeartbeats 4000000
namespace Sh
open PySem PySem.Spec PyProof.Rows L2 Mi He
@[reducible] def mb_Card___init__ : MS := mSeq (mIfS (mNot (mB (mCall 1 mf_is_natural (mCons (mVar 1) (mNil))))) (mStuck) (mNext)) (mSeq (mIfS (mOr (mNot (mB (mCall 1 mf_is_natural (mCons (mVar 2) (mNil))))) (mB (mBin eqMD (mVar 2) (mC (.int 0))))) (mStuck) (mNext)) (mSeq (mIfS (mB (mBin gtD (mVar 1) (mBin mulD (mC (.int 24)) (mVar 2)))) (mStuck) (mNext)) (mSeq (mSelfSet 0 "Card" "held" (mVar 1)) (mSelfSet 0 "Card" "daily" (mVar 2)))))
def mf_Card___init__ : List D → M (List Str × List D) := mInit 3 "Card" mb_Card___init__
end Sh


set_option Elab.async false
set_option linter.all false
set_option maxRecDepth 100000
set_option maxHeartbeats 4000000
namespace Sh
open PySem PySem.Spec PyProof.Rows L2 Mi He
@[reducible] def mb_Card_limit : MS := mRet (mUn (fldD "Card" ["held", "daily"] 1) (mVar 0))
def mf_Card_limit : List D → M D := mFn 1 mb_Card_limit
@[reducible] def mb_Card_balance : MS := mRet (mUn (fldD "Card" ["held", "daily"] 0) (mVar 0))
def mf_Card_balance : List D → M D := mFn 1 mb_Card_balance
@[reducible] def mb_Course_events : MS := mRet (mUn (fldD "Course" ["passed"] 0) (mVar 0))
def mf_Course_events : List D → M D := mFn 1 mb_Course_events
@[reducible] def lb_wrong_event_1 : MS := mSeq (mIfS (mB (mCB isiD (mCons (mVar 4) (mCons (mC (.cls "Card")) (mNil))))) (mAug 2 addI (mC (.int 1))) (mIfS (mB (mCall 1 mf_is_natural (mCons (mVar 4) (mNil)))) (mAug 1 addI (mC (.int 1))) (mRet (mVar 3)))) (mIfS (mOr (mB (mBin gtD (mVar 1) (mC (.int 12)))) (mB (mBin gtD (mVar 2) (mC (.int 6))))) (mRet (mVar 3)) (mNext))
@[reducible] def mb_wrong_event : MS := mSeq (mSet 1 (mC (.int 0))) (mSeq (mSet 2 (mC (.int 0))) (mSeq (mFor (mIof enumA (mCons (mVar 0) (mNil))) (mGt 2 (mGcons (mGn 3) (mGcons (mGn 4) (mGnil)))) (lb_wrong_event_1)) (mRet (mC .non))))
def mf_wrong_event : List D → M D := mFn 5 mb_wrong_event
@[reducible] def mb_Course___init__ : MS := mSeq (mIfS (mNot (mB (mCB isiD (mCons (mVar 1) (mCons (mC (.ty "tuple")) (mNil)))))) (mStuck) (mNext)) (mSeq (mSet 2 (mCall 1 mf_wrong_event (mCons (mVar 1) (mNil)))) (mSeq (mIfS (mB (mBin isntD (mVar 2) (mC .non))) (mStuck) (mNext)) (mSelfSet 0 "Course" "passed" (mVar 1))))
def mf_Course___init__ : List D → M (List Str × List D) := mInit 3 "Course" mb_Course___init__
end Sh


set_option Elab.async false
set_option linter.all false
set_option maxRecDepth 100000
set_option maxHeartbeats 4000000
namespace S2
open PySem PySem.Spec PyProof.Rows L2 Mi He Sh
@[reducible] def mb__law_draw : MS := mSeq (mIfS (mB (mBin gtD (mIxP 0 (mC (.int 1))) (mC (.int 0)))) (mSeq (mDmP 0 (mC (.int 1)) 2 (mCB dmD (mCons (mIxP 0 (mC (.int 1))) (mCons (mVar 1) (mNil))))) (mRet (mVar 2))) (mNext)) (mSeq (mSet 3 (mCB int1D (mCons (mIxP 0 (mC (.int 0))) (mNil)))) (mSeq (mPutP 0 (mBin modD (mCB int1D (mCons (mBin addD (mBin mulD (mVar 3) (mBin addD (mBin modD (mCB int1D (mCons (mVar 3) (mNil))) (mC (.int 997))) (mC (.int 69621)))) (mC (.int 7919))) (mNil))) (mC (.int 2147483629))) (mC (.int 0))) (mRet (mBin modD (mCB int1D (mCons (mBin fdivD (mIxP 0 (mC (.int 0))) (mC (.int 512))) (mNil))) (mVar 1)))))
def mf__law_draw : List D → M D := mFn 4 mb__law_draw
@[reducible] def lb__law_wide_1 : MS := mSet 2 (mBin addD (mBin mulD (mVar 2) (mC (.int 1000003))) (mCall 2 mf__law_draw (mCons (mVar 0) (mCons (mC (.int 1000003)) (mNil)))))
@[reducible] def mb__law_wide : MS := mSeq (mIfS (mOr (mB (mBin ltD (mVar 1) (mC (.int 1000000)))) (mB (mBin gtD (mIxP 0 (mC (.int 1))) (mC (.int 0))))) (mRet (mCall 2 mf__law_draw (mCons (mVar 0) (mCons (mVar 1) (mNil))))) (mNext)) (mSeq (mSet 2 (mC (.int 0))) (mSeq (mFor (mIof rng1 (mCons (mC (.int 6)) (mNil))) (mGn 3) (lb__law_wide_1)) (mRet (mBin modD (mCB int1D (mCons (mVar 2) (mNil))) (mVar 1)))))
def mf__law_wide : List D → M D := mFn 4 mb__law_wide
@[reducible] def mb__law_amount : MS := mRet (mCall 2 mf__law_wide (mCons (mVar 0) (mCons (mBin ixD (mFz (mLstO (mCons (mC (.int 4)) (mCons (mC (.int 10)) (mCons (mC (.int 100)) (mCons (mBin powD (mC (.int 10)) (mC (.int 6))) (mCons (mBin powD (mC (.int 10)) (mC (.int 12))) (mCons (mBin powD (mC (.int 10)) (mC (.int 30))) (mNil))))))))) (mCall 2 mf__law_draw (mCons (mVar 0) (mCons (mC (.int 6)) (mNil))))) (mNil))))
def mf__law_amount : List D → M D := mFn 1 mb__law_amount
@[reducible] def lbL__law_purse_1 : MS := mSet 2 (mBin modD (mCB int1D (mCons (mBin mulD (mBin addD (mBin addD (mBin mulD (mVar 2) (mC (.int 69621))) (mVar 3)) (mC (.int 13))) (mC (.int 48271))) (mNil))) (mC (.int 2147483629)))
@[reducible] def mbL__law_purse : MS := mSeq (mSet 2 (mBin addD (mBin mulD (mC (.int 104659)) (mBin addD (mVar 1) (mC (.int 1)))) (mC (.int 17)))) (mSeq (mFor (mIany (mBin addD (mSl (mVar 0) (mOn) (mOs (mC (.int 4)))) (mSl (mVar 0) (mOs (mVar 1)) (mOs (mBin addD (mVar 1) (mC (.int 1))))))) (mGn 3) (lbL__law_purse_1)) (mSeq (mSet 4 (mIf (mB (mBin ltD (mVar 1) (mCB lenD (mCons (mVar 0) (mNil))))) (mBin ixD (mVar 0) (mVar 1)) (mC (.int 0)))) (mRetL (mLstO (mCons (mVar 2) (mCons (mIf (mB (mBin geD (mCB absD (mCons (mVar 4) (mNil))) (mBin powD (mC (.int 10)) (mC (.int 18))))) (mCB absD (mCons (mVar 4) (mNil))) (mC (.int 0))) (mNil)))))))
def mfL__law_purse : List D → M (List D) := mFnL 5 mbL__law_purse
end S2


set_option Elab.async false
set_option linter.all false
set_option maxRecDepth 100000
set_option maxHeartbeats 4000000
namespace S2
open PySem PySem.Spec PyProof.Rows L2 Mi He Sh
@[reducible] def ce__law_course_1 : ME := mIf (mB (mCB isiD (mCons (mVar 1) (mCons (mC (.ty "tuple")) (mNil))))) (mMake "Card" 2 mf_Card___init__ (mCons (mBin ixD (mVar 1) (mC (.int 0))) (mCons (mBin ixD (mVar 1) (mC (.int 1))) (mNil)))) (mVar 1)
@[reducible] def mb__law_course : MS := mRet (mMake "Course" 1 mf_Course___init__ (mCons (mCB tupD (mCons (mFz (mLcO [1] (mIany (mVar 0)) (mGn 1) (mYes) (ce__law_course_1))) (mNil))) (mNil)))
def mf__law_course : List D → M D := mFn 2 mb__law_course
end S2


set_option Elab.async false
set_option linter.all false
set_option maxRecDepth 100000
set_option maxHeartbeats 4000000
namespace Sh
open PySem PySem.Spec PyProof.Rows L2 Mi He
@[reducible] def ce_number_of_1 : ME := mBin inD (mVar 1) (mC (.str "0123456789"))
@[reducible] def mb_number_of : MS := mSeq (mIfS (mOr (mB (mBin eqMD (mVar 0) (mC (.str "")))) (mNot (mB (mCB allD (mCons (mFz (mLcO [1] (mIany (mVar 0)) (mGn 1) (mYes) (ce_number_of_1))) (mNil)))))) (mRet (mC .non)) (mNext)) (mRet (mIf (mOr (mB (mBin eqMD (mVar 0) (mC (.str "0")))) (mB (mBin neMD (mBin ixD (mVar 0) (mC (.int 0))) (mC (.str "0"))))) (mCB intSD (mCons (mVar 0) (mNil))) (mC .non)))
def mf_number_of : List D → M D := mFn 2 mb_number_of
@[reducible] def ce_card_of_1 : ME := mCall 1 mf_number_of (mCons (mVar 4) (mNil))
@[reducible] def mb_card_of : MS := mSeq (mIfS (mNot (mB (mCB isiD (mCons (mVar 0) (mCons (mC (.ty "str")) (mNil)))))) (mRet (mC .non)) (mNext)) (mSeq (mSet 1 (mFz (mBorLs [] (mLcO [4] (mIany (mS1 splD (mVar 0) (mC (.str "/")))) (mGn 4) (mYes) (ce_card_of_1))))) (mSeq (mIfS (mOr (mB (mBin neMD (mCB lenD (mCons (mVar 1) (mNil))) (mC (.int 2)))) (mOr (mB (mBin isD (mBin ixD (mVar 1) (mC (.int 0))) (mC .non))) (mB (mBin isD (mBin ixD (mVar 1) (mC (.int 1))) (mC .non))))) (mRet (mC .non)) (mNext)) (mSeq (mAsg (mVar 1) (mGl 2 (mGcons (mGn 2) (mGcons (mGn 3) (mGnil))))) (mRet (mIf (mAnd (mB (mBin gtD (mVar 3) (mC (.int 0)))) (mB (mBin leD (mVar 2) (mBin mulD (mC (.int 24)) (mVar 3))))) (mMake "Card" 2 mf_Card___init__ (mCons (mVar 2) (mCons (mVar 3) (mNil)))) (mC .non))))))
def mf_card_of : List D → M D := mFn 5 mb_card_of
@[reducible] def mb_event_of : MS := mSeq (mIfS (mB (mBin eqMD (mSl (mVar 0) (mOn) (mOs (mC (.int 1)))) (mC (.str "+")))) (mRet (mCall 1 mf_card_of (mCons (mSl (mVar 0) (mOs (mC (.int 1))) (mOn)) (mNil)))) (mNext)) (mRet (mCall 1 mf_number_of (mCons (mVar 0) (mNil))))
def mf_event_of : List D → M D := mFn 1 mb_event_of
@[reducible] def ce_course_of_1 : ME := mCall 1 mf_event_of (mCons (mVar 2) (mNil))
@[reducible] def mb_course_of : MS := mSeq (mIfS (mNot (mB (mCB isiD (mCons (mVar 0) (mCons (mC (.ty "str")) (mNil)))))) (mRet (mC .non)) (mNext)) (mSeq (mSet 1 (mIf (mB (mBin neMD (mVar 0) (mC (.str "")))) (mCB tupD (mCons (mFz (mLcO [2] (mIany (mS1 splD (mVar 0) (mC (.str " ")))) (mGn 2) (mYes) (ce_course_of_1))) (mNil))) (mTup (mNil)))) (mRet (mIf (mB (mBin isD (mCall 1 mf_wrong_event (mCons (mVar 1) (mNil))) (mC .non))) (mMake "Course" 1 mf_Course___init__ (mCons (mVar 1) (mNil))) (mC .non))))
def mf_course_of : List D → M D := mFn 3 mb_course_of
@[reducible] def mb_Course_read : MS := mSeq (mSet 2 (mCall 1 mf_course_of (mCons (mVar 1) (mNil)))) (mSeq (mIfS (mB (mBin isD (mVar 2) (mC .non))) (mStuck) (mNext)) (mRet (mVar 2)))
def mf_Course_read : List D → M D := mFn 3 mb_Course_read
@[reducible] def mb_Card___str__ : MS := mRet (mFs [mFmt (mUn (fldD "Card" ["held", "daily"] 0) (mVar 0)), mC (.str "/"), mFmt (mUn (fldD "Card" ["held", "daily"] 1) (mVar 0))])
def mf_Card___str__ : List D → M D := mFn 1 mb_Card___str__
@[reducible] def ce_Course___str___1 : ME := mIf (mB (mCB isiD (mCons (mVar 1) (mCons (mC (.cls "Card")) (mNil))))) (mFs [mC (.str "+"), mStrO "Card" mf_Card___str__ (mVar 1)]) (mCB strID (mCons (mVar 1) (mNil)))
@[reducible] def mb_Course___str__ : MS := mRet (mJoin (mC (.str " ")) (mFz (mLcO [1] (mIany (mUn (fldD "Course" ["passed"] 0) (mVar 0))) (mGn 1) (mYes) (ce_Course___str___1))))
def mf_Course___str__ : List D → M D := mFn 2 mb_Course___str__
end Sh


set_option Elab.async false
set_option linter.all false
set_option maxRecDepth 100000
set_option maxHeartbeats 4000000
namespace Sh
open PySem PySem.Spec PyProof.Rows L2 Mi He
@[reducible] def mb_Card___eq__ : MS := mRet (mAndV (mCB isiD (mCons (mVar 1) (mCons (mC (.cls "Card")) (mNil)))) (mAndV (mBin eqMD (mUn (fldD "Card" ["held", "daily"] 0) (mVar 0)) (mUn (fldD "Card" ["held", "daily"] 0) (mVar 1))) (mBin eqMD (mUn (fldD "Card" ["held", "daily"] 1) (mVar 0)) (mUn (fldD "Card" ["held", "daily"] 1) (mVar 1)))))
def mf_Card___eq__ : List D → M D := mFn 2 mb_Card___eq__
end Sh


set_option Elab.async false
set_option linter.all false
set_option maxRecDepth 100000
set_option maxHeartbeats 4000000
namespace Sh
open PySem L2 Mi
def cardB : D → Bool
  | .obj c ks [.int _, .int _] => c == ("Card" : Str) && ks == [("held" : Str), ("daily" : Str)]
  | _ => false
theorem cardB_is {d : D} (h : cardB d = true) : ∃ x y, d = .obj "Card" ["held", "daily"] [.int x, .int y] := by
  unfold cardB at h
  split at h
  · rw [Bool.and_eq_true] at h
    obtain ⟨h1, h2⟩ := h
    have h1 := eq_of_beq h1
    have h2 := eq_of_beq h2
    subst h1
    subst h2
    exact ⟨_, _, rfl⟩
  · cases h
theorem cardB_obj : ∀ d, cardB d = true → ∃ ks ds, d = .obj "Card" ks ds := fun d h => by
  obtain ⟨x, y, rfl⟩ := cardB_is h
  exact ⟨_, _, rfl⟩
theorem card_eq : ∀ d, cardB d = true → ∀ u, mf_Card___eq__ [d, d] u = some (.bl true, u) := fun d h u => by
  obtain ⟨x, y, rfl⟩ := cardB_is h
  refine eq_of_ok ?_
  unfold mf_Card___eq__ mb_Card___eq__
  have e1 : isiD [.obj "Card" ["held", "daily"] [.int x, .int y], .cls "Card"] = some (.bl true) := rfl
  simp [e1]
end Sh


set_option Elab.async false
set_option linter.all false
set_option maxRecDepth 100000
set_option maxHeartbeats 4000000
namespace Sh
open PySem PySem.Spec PyProof.Rows L2 Mi He
@[reducible] noncomputable def mb_Course___eq__ : MS := mRet (mAndV (mCB isiD (mCons (mVar 1) (mCons (mC (.cls "Course")) (mNil)))) (mBin (eqTD cardB) (mUn (fldD "Course" ["passed"] 0) (mVar 0)) (mUn (fldD "Course" ["passed"] 0) (mVar 1))))
noncomputable def mf_Course___eq__ : List D → M D := mFn 2 mb_Course___eq__
end Sh


set_option Elab.async false
set_option linter.all false
set_option maxRecDepth 100000
set_option maxHeartbeats 4000000
namespace G27
open PySem PySem.Spec PyProof.Rows L2 Mi He Sh S2
noncomputable section
@[reducible] def lb__law_events_here_1 : MS := mIfS (mB (mBin ltD (mCall 2 mf__law_draw (mCons (mVar 0) (mCons (mBin addD (mVar 1) (mVar 2)) (mNil)))) (mVar 1))) (mSeq (mSet 1 (mBin subD (mVar 1) (mC (.int 1)))) (mApp 3 (mCall 1 mf__law_amount (mCons (mVar 0) (mNil))))) (mSeq (mSet 2 (mBin subD (mVar 2) (mC (.int 1)))) (mSeq (mSet 4 (mBin addD (mC (.int 1)) (mCall 1 mf__law_amount (mCons (mVar 0) (mNil))))) (mApp 3 (mTup (mCons (mCB minD (mCons (mCall 1 mf__law_amount (mCons (mVar 0) (mNil))) (mCons (mBin mulD (mC (.int 24)) (mVar 4)) (mNil)))) (mCons (mVar 4) (mNil)))))))
@[reducible] def mb__law_events_here : MS := mSeq (mPar [1, 2, 3] (mMsh (mCall 2 mf__law_draw (mCons (mVar 0) (mCons (mC (.int 13)) (mNil)))) (mMsh (mCall 2 mf__law_draw (mCons (mVar 0) (mCons (mC (.int 7)) (mNil)))) (mMow (mLstO (mNil)) (mMnil))))) (mSeq (mWhile 100000 (mB (mBin gtD (mBin addD (mVar 1) (mVar 2)) (mC (.int 0)))) (lb__law_events_here_1)) (mFrz 3 (mRet (mVar 3))))
def mf__law_events_here : List D → M D := mFn 5 mb__law_events_here
@[reducible] def lb__law_text_1 : MS := mIfS (mB (mCB isiD (mCons (mVar 2) (mCons (mC (.ty "tuple")) (mNil))))) (mApp 1 (mBin addD (mBin addD (mBin addD (mC (.str "+")) (mCB strID (mCons (mBin ixD (mVar 2) (mC (.int 0))) (mNil)))) (mC (.str "/"))) (mCB strID (mCons (mBin ixD (mVar 2) (mC (.int 1))) (mNil))))) (mApp 1 (mCB strID (mCons (mVar 2) (mNil))))
@[reducible] def mb__law_text : MS := mSeq (mSetO 1 (mLstO (mNil))) (mSeq (mFor (mIany (mVar 0)) (mGn 2) (lb__law_text_1)) (mFrz 1 (mRet (mJoin (mC (.str " ")) (mVar 1)))))
def mf__law_text : List D → M D := mFn 3 mb__law_text
@[reducible] def lb__law_right_1 : MS := mSeq (mSet 6 (mBin ixD (mSelf "Course" mf_Course_events (mVar 4)) (mVar 5))) (mIfS (mB (mCB isiD (mCons (mBin ixD (mVar 1) (mVar 5)) (mCons (mC (.ty "tuple")) (mNil))))) (mIfS (mOr (mNot (mB (mCB isiD (mCons (mVar 6) (mCons (mC (.cls "Card")) (mNil)))))) (mB (mBin neMD (mTup (mCons (mSelf "Card" mf_Card_balance (mVar 6)) (mCons (mSelf "Card" mf_Card_limit (mVar 6)) (mNil)))) (mBin ixD (mVar 1) (mVar 5))))) (mRet (mC (.bl false))) (mNext)) (mIfS (mOr (mB (mCB isiD (mCons (mVar 6) (mCons (mC (.ty "bool")) (mNil))))) (mOr (mNot (mB (mCB isiD (mCons (mVar 6) (mCons (mC (.ty "int")) (mNil)))))) (mB (mBin neMD (mVar 6) (mBin ixD (mVar 1) (mVar 5)))))) (mRet (mC (.bl false))) (mNext)))
@[reducible] def mb__law_right : MS := mSeq (mSet 1 (mCall 1 mf__law_events_here (mCons (mVar 0) (mNil)))) (mSeq (mPar [2, 3] (mMsh (mCall 1 mf__law_course (mCons (mVar 1) (mNil))) (mMsh (mCall 1 mf__law_text (mCons (mVar 1) (mNil))) (mMnil)))) (mSeq (mSet 4 (mCMet1 "Course" 2 mf_Course_read (mC (.cls "Course")) (mCons (mVar 3) (mNil)))) (mSeq (mIfS (mOr (mNot (mB (mCB isiD (mCons (mVar 4) (mCons (mC (.cls "Course")) (mNil)))))) (mOr (mNot (mB (mEqO "Course" mf_Course___eq__ (mVar 4) (mVar 2)))) (mB (mBin neMD (mCB lenD (mCons (mSelf "Course" mf_Course_events (mVar 4)) (mNil))) (mCB lenD (mCons (mVar 1) (mNil))))))) (mRet (mC (.bl false))) (mNext)) (mSeq (mFor (mIof rng1 (mCons (mCB lenD (mCons (mVar 1) (mNil))) (mNil))) (mGn 5) (lb__law_right_1)) (mSeq (mSet 7 (mFz (mLstO (mCons (mCMetK "Course" 1 2 [0, 1] mf_Course_read (mC (.cls "Course")) (mCons (mVar 3) (mNil))) (mCons (mMakeK "Course" 1 1 [0] mf_Course___init__ (mCons (mSelf "Course" mf_Course_events (mVar 2)) (mNil))) (mNil)))))) (mSeq (mIfS (mOr (mNot (mB (mEqO "Course" mf_Course___eq__ (mBin ixD (mVar 7) (mC (.int 0))) (mVar 2)))) (mOr (mNot (mB (mEqO "Course" mf_Course___eq__ (mBin ixD (mVar 7) (mC (.int 1))) (mVar 2)))) (mB (mBin neSD (mStrO "Course" mf_Course___str__ (mBin ixD (mVar 7) (mC (.int 1)))) (mVar 3))))) (mRet (mC (.bl false))) (mNext)) (mRet (mAndV (mBin eqSD (mStrO "Course" mf_Course___str__ (mVar 4)) (mVar 3)) (mAndV (mBin eqSD (mStrO "Course" mf_Course___str__ (mVar 2)) (mVar 3)) (mBin eqSD (mStrO "Course" mf_Course___str__ (mCMet1 "Course" 2 mf_Course_read (mC (.cls "Course")) (mCons (mStrO "Course" mf_Course___str__ (mVar 4)) (mNil)))) (mVar 3)))))))))))
def mf__law_right : List D → M D := mFn 8 mb__law_right
@[reducible] def ce_law_1 : ME := mWith mf__law_right (mCallL 2 mfL__law_purse (mCons (mVar 0) (mCons (mVar 1) (mNil))))
@[reducible] def mb_law : MS := mRet (mCB allD (mCons (mFz (mLcO [1] (mIof rng1 (mCons (mCB maxD (mCons (mC (.int 2)) (mCons (mCB minD (mCons (mCB lenD (mCons (mVar 0) (mNil))) (mCons (mC (.int 4)) (mNil)))) (mNil)))) (mNil))) (mGn 1) (mYes) (ce_law_1))) (mNil)))
def mf_law : List D → M D := mFn 2 mb_law
end
end G27


set_option Elab.async false
set_option linter.all false
set_option maxRecDepth 100000
set_option maxHeartbeats 4000000
/-! P20m: the least falling row above given sums, plain. -/
namespace P20
/-- what must still come on a day: the greatest of the rounded-up means -/
def need (total : Int) (i : Nat) (s : Int) : Int := -((total - s) / ((i : Int) + 1))
/-- k is the greatest of the needs -/
def IsMax (k total : Int) (ss : List Int) : Prop := (∃ i s, ss[i]? = some s ∧ k = need total i s) ∧ ∀ i s, ss[i]? = some s → need total i s ≤ k
theorem need_le {total s k : Int} {i : Nat} (h : need total i s ≤ k) : s - total ≤ k * ((i : Int) + 1) := by
  unfold need at h
  have hp : (0 : Int) < (i : Int) + 1 := by omega
  have h1 : -k ≤ (total - s) / ((i : Int) + 1) := by omega
  have h2 : (-k) * ((i : Int) + 1) ≤ total - s := (Int.le_ediv_iff_mul_le hp).mp h1
  rw [Int.neg_mul] at h2
  omega
theorem need_gt {total s k : Int} {i : Nat} (h : k ≤ need total i s) : (k - 1) * ((i : Int) + 1) < s - total := by
  unfold need at h
  have hp : (0 : Int) < (i : Int) + 1 := by omega
  have h1 : (total - s) / ((i : Int) + 1) < -k + 1 := by omega
  have h2 : total - s < (-k + 1) * ((i : Int) + 1) := Int.lt_mul_of_ediv_lt hp h1
  have e : (-k + 1) * ((i : Int) + 1) = -((k - 1) * ((i : Int) + 1)) := by
    rw [← Int.neg_mul]; congr 1; omega
  rw [e] at h2
  omega
/-- the row as it is built, from the sums ss that are left behind a total -/
inductive Least : Int → List Int → List Int → Prop
  | nil (total : Int) : Least total [] []
  | stop {total k : Int} {ss : List Int} (h : IsMax k total ss) (hk : k ≤ 0) : Least total ss []
  | more {total k s : Int} {ss row : List Int} (h : IsMax k total (s :: ss)) (hk : 0 < k) (r : Least (total + k) ss row) : Least total (s :: ss) (k :: row)
theorem Least.len {t : Int} {ss row : List Int} (h : Least t ss row) : row.length ≤ ss.length := by
  induction h with
  | nil => simp
  | stop => simp
  | more _ _ _ ih => simpa using ih
theorem Least.pos {t : Int} {ss row : List Int} (h : Least t ss row) : ∀ x ∈ row, 0 < x := by
  induction h with
  | nil => simp
  | stop => simp
  | more _ hk _ ih =>
    intro x hx
    rcases List.mem_cons.mp hx with rfl | hx
    · exact hk
    · exact ih x hx
/-- the first number behind a day is at most the day's -/
theorem Least.fall {t k s : Int} {ss row : List Int} (hm : IsMax k t (s :: ss)) (hk : 0 < k) (h : Least (t + k) ss row) : ∀ x, row[0]? = some x → x ≤ k := by
  intro x hx
  cases h with
  | nil => cases hx
  | stop => cases hx
  | more h2 hk2 r =>
    simp at hx
    subst hx
    obtain ⟨⟨i, s2, e, rfl⟩, _⟩ := h2
    have h3 := need_le (hm.2 (i + 1) s2 (by simpa using e))
    have h4 := @need_gt (t + k) s2 _ i (Int.le_refl _)
    apply Decidable.byContradiction
    intro hc
    have h5 : k ≤ need (t + k) i s2 - 1 := by omega
    have h6 : k * ((i : Int) + 1) ≤ (need (t + k) i s2 - 1) * ((i : Int) + 1) := Int.mul_le_mul_of_nonneg_right h5 (by omega)
    have h7 : k * (((i + 1 : Nat) : Int) + 1) = k * ((i : Int) + 1) + k := by
      rw [show (((i + 1 : Nat) : Int) + 1) = ((i : Int) + 1) + 1 by omega, Int.mul_add, Int.mul_one]
    rw [h7] at h3
    omega
theorem Least.falls {t : Int} {ss row : List Int} (h : Least t ss row) : ∀ (k : Nat) (x y : Int), row[k]? = some x → row[k + 1]? = some y → y ≤ x := by
  induction h with
  | nil => intro k x y h; cases h
  | stop => intro k x y h; cases h
  | more hm hk r ih =>
    intro k x y hx hy
    cases k with
    | zero =>
      simp at hx hy
      subst hx
      exact Least.fall hm hk r y (by simpa using hy)
    | succ k => exact ih k x y (by simpa using hx) (by simpa using hy)
/-- sum of the first n numbers -/
def sumN (row : List Int) : Nat → Int
  | 0 => 0
  | n + 1 => row.headD 0 + sumN row.tail n
theorem sumN_nil (n : Nat) : sumN [] n = 0 := by
  induction n with
  | zero => rfl
  | succ n ih => show (0 : Int) + sumN [] n = 0; rw [ih]; rfl
theorem Least.cover {t : Int} {ss row : List Int} (h : Least t ss row) : ∀ (n : Nat) (s : Int), ss[n]? = some s → s ≤ t + sumN row (n + 1) := by
  induction h with
  | nil => intro n s h; cases h
  | @stop t k ss h hk =>
    intro n s e
    rw [sumN_nil]
    have h1 := need_le (h.2 n s e)
    have h2 : k * ((n : Int) + 1) ≤ 0 := by
      have := Int.mul_le_mul_of_nonneg_right hk (show (0 : Int) ≤ (n : Int) + 1 by omega)
      rw [Int.zero_mul] at this
      exact this
    omega
  | @more t k s0 ss row h hk r ih =>
    intro n s e
    cases n with
    | zero =>
      simp at e
      subst e
      have h1 := need_le (h.2 0 s0 rfl)
      show s0 ≤ t + (k + 0)
      have h2 : k * (((0 : Nat) : Int) + 1) = k := by simp
      rw [h2] at h1
      omega
    | succ n =>
      have h1 := ih n s (by simpa using e)
      show s ≤ t + (k + sumN row (n + 1))
      omega
theorem Least.tight {t : Int} {ss row : List Int} (h : Least t ss row) : ∀ (k : Nat) (x : Int), row[k]? = some x → ∃ (i : Nat) (s : Int), ss[k + i]? = some s ∧ t + sumN row k + ((i : Int) + 1) * (x - 1) < s := by
  induction h with
  | nil => intro k x h; cases h
  | stop => intro k x h; cases h
  | @more t m s0 ss row h hk r ih =>
    intro k x e
    cases k with
    | zero =>
      simp at e
      subst e
      obtain ⟨⟨i, s, e1, e2⟩, _⟩ := h
      have h2 := @need_gt t s m i (by omega)
      rw [Int.mul_comm] at h2
      refine ⟨i, s, by simpa using e1, ?_⟩
      show t + 0 + _ < s
      omega
    | succ k =>
      obtain ⟨i, s, e1, h1⟩ := ih k x (by simpa using e)
      refine ⟨i, s, by rw [show k + 1 + i = (k + i) + 1 by omega]; simpa using e1, ?_⟩
      show t + (m + sumN row k) + _ < s
      omega
/-- the least row is one only -/
theorem IsMax.uniq {a b t : Int} {ss : List Int} (h : IsMax a t ss) (k : IsMax b t ss) : a = b := by
  obtain ⟨⟨i, s, e, rfl⟩, h2⟩ := h
  obtain ⟨⟨j, s', e', rfl⟩, k2⟩ := k
  have := h2 _ _ e'
  have := k2 _ _ e
  omega
theorem Least.uniq {t : Int} {ss row row' : List Int} (h : Least t ss row) (k : Least t ss row') : row = row' := by
  induction h generalizing row' with
  | nil =>
    cases k with
    | nil => rfl
    | stop => rfl
  | stop h hk =>
    cases k with
    | nil => rfl
    | stop => rfl
    | more h2 hk2 r => have := h.uniq h2; omega
  | more h hk r ih =>
    cases k with
    | stop h2 hk2 => have := h.uniq h2; omega
    | more h2 hk2 r2 =>
      have := h.uniq h2
      subst this
      rw [ih r2]
/-- a falling row of numbers above 0 is the least one above its own sums -/
def Falls (row : List Int) : Prop := (∀ x ∈ row, 0 < x) ∧ ∀ (k : Nat) (x y : Int), row[k]? = some x → row[k + 1]? = some y → y ≤ x
theorem Falls.tail {x : Int} {row : List Int} (h : Falls (x :: row)) : Falls row := ⟨fun y hy => h.1 y (List.mem_cons_of_mem _ hy), fun k a b e1 e2 => h.2 (k + 1) a b (by simpa using e1) (by simpa using e2)⟩
end P20


set_option Elab.async false
set_option linter.all false
set_option maxRecDepth 100000
set_option maxHeartbeats 4000000
namespace Sh
open PySem L2 Mi P20
@[simp] theorem isint_ok {n : Int} {u : PuS} {P : D → PuS → Prop} : Ok (mf_is_integer [.int n]) u P ↔ P (.bl true) u := ok_of rfl
@[simp] theorem isnat_ok {n : Int} {u : PuS} {P : D → PuS → Prop} : Ok (mf_is_natural [.int n]) u P ↔ P (.bl (decide (0 ≤ n))) u := by
  unfold mf_is_natural mb_is_natural
  simp
/-- the needs of the days behind k -/
def nd (ns : List Int) (k : Nat) (t : Int) (i : Nat) : Int := need t i ((ns.drop k).getD i 0)
end Sh


set_option Elab.async false
set_option linter.all false
set_option maxRecDepth 100000
set_option maxHeartbeats 4000000
/-! W2m: what cards can pay, plain. -/
namespace P20
/-- what a card can pay in k days -/
def wor (b l : Int) (k : Nat) : Int := min b ((k : Int) * l)
/-- what cards can pay in k days -/
def FF (am : List (Int × Int)) (k : Nat) : Int := (am.map fun q => wor q.1 q.2 k).sum
/-- cards as they may be -/
def Am (am : List (Int × Int)) : Prop := ∀ q ∈ am, 1 ≤ q.2 ∧ 0 ≤ q.1 ∧ q.1 ≤ 24 * q.2
theorem Am.tail {q : Int × Int} {am : List (Int × Int)} (h : Am (q :: am)) : Am am := fun x hx => h x (List.mem_cons_of_mem _ hx)
theorem Am.nil : Am [] := fun q h => by cases h
theorem Am.cons {q : Int × Int} {am : List (Int × Int)} (h : 1 ≤ q.2 ∧ 0 ≤ q.1 ∧ q.1 ≤ 24 * q.2) (a : Am am) : Am (q :: am) := fun x hx => by
  rcases List.mem_cons.mp hx with rfl | hx
  · exact h
  · exact a x hx
theorem Am.append {am bm : List (Int × Int)} (a : Am am) (b : Am bm) : Am (am ++ bm) := fun x hx => by
  rcases List.mem_append.mp hx with h | h
  · exact a x h
  · exact b x h
theorem FF_cons (q : Int × Int) (am : List (Int × Int)) (k : Nat) : FF (q :: am) k = wor q.1 q.2 k + FF am k := by simp [FF]
theorem wor_zero {b l : Int} (h : 0 ≤ b) : wor b l 0 = 0 := by unfold wor; simp; omega
theorem succ_mul' (k : Nat) (l : Int) : ((k + 1 : Nat) : Int) * l = (k : Int) * l + l := by
  rw [show ((k + 1 : Nat) : Int) = (k : Int) + 1 by omega, Int.add_mul, Int.one_mul]
theorem wor_mono {b l : Int} (hl : 0 ≤ l) (k : Nat) : wor b l k ≤ wor b l (k + 1) := by
  unfold wor
  rw [succ_mul']
  omega
theorem wor_conc {b l : Int} (hl : 0 ≤ l) (k : Nat) : wor b l (k + 2) - wor b l (k + 1) ≤ wor b l (k + 1) - wor b l k := by
  unfold wor
  rw [show k + 2 = (k + 1) + 1 from rfl, succ_mul' (k + 1), succ_mul' k]
  omega
theorem wor_step {b l : Int} (hl : 1 ≤ l) (k : Nat) : wor b l k < wor b l (k + 1) ↔ (k : Int) * l < b := by
  unfold wor
  rw [succ_mul']
  omega
theorem FF_zero {am : List (Int × Int)} (h : Am am) : FF am 0 = 0 := by
  induction am with
  | nil => rfl
  | cons q am ih => rw [FF_cons, ih h.tail, wor_zero (h q List.mem_cons_self).2.1]; rfl
theorem FF_mono {am : List (Int × Int)} (h : Am am) (k : Nat) : FF am k ≤ FF am (k + 1) := by
  induction am with
  | nil => simp [FF]
  | cons q am ih =>
    have := ih h.tail
    have := wor_mono (b := q.1) (show 0 ≤ q.2 by have := (h q List.mem_cons_self).1; omega) k
    rw [FF_cons, FF_cons]
    omega
theorem FF_conc {am : List (Int × Int)} (h : Am am) (k : Nat) : FF am (k + 2) - FF am (k + 1) ≤ FF am (k + 1) - FF am k := by
  induction am with
  | nil => simp [FF]
  | cons q am ih =>
    have := ih h.tail
    have := wor_conc (b := q.1) (show 0 ≤ q.2 by have := (h q List.mem_cons_self).1; omega) k
    rw [FF_cons, FF_cons, FF_cons]
    omega
/-- on day k + 1 some card can still pay -/
def Mor (am : List (Int × Int)) (k : Nat) : Prop := ∃ q ∈ am, (k : Int) * q.2 < q.1
theorem Mor.less {am : List (Int × Int)} (h : Am am) {k : Nat} : Mor am (k + 1) → Mor am k := by
  rintro ⟨q, hq, h1⟩
  refine ⟨q, hq, ?_⟩
  have := (h q hq).1
  rw [succ_mul'] at h1
  omega
theorem FF_step {am : List (Int × Int)} (h : Am am) (k : Nat) : FF am k < FF am (k + 1) ↔ Mor am k := by
  induction am with
  | nil => simp [FF, Mor]
  | cons q am ih =>
    have ih := ih h.tail
    have h1 := FF_mono h.tail k
    have h0 := (h q List.mem_cons_self).1
    have h2 := wor_mono (b := q.1) (show 0 ≤ q.2 by omega) k
    have h3 := wor_step (b := q.1) h0 k
    rw [FF_cons, FF_cons]
    constructor
    · intro z
      by_cases hq : (k : Int) * q.2 < q.1
      · exact ⟨q, List.mem_cons_self, hq⟩
      · obtain ⟨x, hx, hm⟩ := ih.mp (by omega)
        exact ⟨x, List.mem_cons_of_mem _ hx, hm⟩
    · rintro ⟨x, hx, hm⟩
      rcases List.mem_cons.mp hx with rfl | hx
      · have := h3.mpr hm; omega
      · have := ih.mpr ⟨x, hx, hm⟩; omega
/-- the row of cards: the numbers by which the sums grow, as long as they do -/
def IsRow (am : List (Int × Int)) (row : List Int) : Prop := ∃ d : Nat, d ≤ 24 ∧ (∀ k, k < d → Mor am k) ∧ ¬ Mor am d ∧ row = (List.range d).map fun k => FF am (k + 1) - FF am k
theorem Am.stop {am : List (Int × Int)} (h : Am am) : ¬ Mor am 24 := by
  rintro ⟨q, hq, h1⟩
  have := (h q hq).2.2
  omega
theorem sumN_app : ∀ (n : Nat) (row : List Int), sumN row (n + 1) = sumN row n + row.getD n 0
  | 0, row => by cases row <;> simp [sumN]
  | n + 1, row => by
    show row.headD 0 + sumN row.tail (n + 1) = (row.headD 0 + sumN row.tail n) + row.getD (n + 1) 0
    rw [sumN_app n row.tail]
    have : row.getD (n + 1) 0 = row.tail.getD n 0 := by cases row <;> simp
    omega
theorem Mor.from {am : List (Int × Int)} (h : Am am) {d : Nat} (hd : ¬ Mor am d) : ∀ k, d ≤ k → ¬ Mor am k := by
  intro k hk
  induction k with
  | zero => have : d = 0 := by omega
            subst this; exact hd
  | succ k ih =>
    by_cases e : d = k + 1
    · subst e; exact hd
    · exact fun z => ih (by omega) (z.less h)
theorem FF_flat {am : List (Int × Int)} (h : Am am) {d : Nat} (hd : ¬ Mor am d) : ∀ k, d ≤ k → FF am k = FF am d := by
  intro k hk
  induction k with
  | zero => have : d = 0 := by omega
            subst this; rfl
  | succ k ih =>
    by_cases e : d = k + 1
    · subst e; rfl
    · have h1 := ih (by omega)
      have h2 := Mor.from h hd k (by omega)
      have h3 := FF_mono h k
      have h4 := mt (FF_step h k).mp h2
      omega
theorem IsRow.sum {am : List (Int × Int)} (h : Am am) {row : List Int} (r : IsRow am row) : ∀ n, sumN row n = FF am n := by
  obtain ⟨d, hd, h1, h2, rfl⟩ := r
  intro n
  induction n with
  | zero => rw [FF_zero h]; rfl
  | succ n ih =>
    rw [sumN_app, ih]
    by_cases hn : n < d
    · have : ((List.range d).map fun k => FF am (k + 1) - FF am k).getD n 0 = FF am (n + 1) - FF am n := by
        rw [List.getD_eq_getElem?_getD, List.getElem?_map, List.getElem?_range hn]; rfl
      omega
    · have : ((List.range d).map fun k => FF am (k + 1) - FF am k).getD n 0 = 0 := by
        rw [List.getD_eq_getElem?_getD, List.getElem?_eq_none (by simp; omega)]; rfl
      have := FF_flat h h2 n (by omega)
      have := FF_flat h h2 (n + 1) (by omega)
      omega
theorem IsRow.len {am : List (Int × Int)} {row : List Int} (r : IsRow am row) : row.length ≤ 24 := by
  obtain ⟨d, hd, h1, h2, rfl⟩ := r
  simpa using hd
theorem IsRow.falls {am : List (Int × Int)} (h : Am am) {row : List Int} (r : IsRow am row) : Falls row := by
  obtain ⟨d, hd, h1, h2, rfl⟩ := r
  refine ⟨fun x hx => ?_, fun k x y hx hy => ?_⟩
  · obtain ⟨k, hk, rfl⟩ := List.mem_map.mp hx
    have := (FF_step h k).mpr (h1 k (List.mem_range.mp hk))
    omega
  · rw [List.getElem?_map] at hx hy
    have hk : k + 1 < d := by
      by_cases z : k + 1 < d
      · exact z
      · rw [List.getElem?_eq_none (by simp; omega)] at hy; cases hy
    rw [List.getElem?_range (by omega)] at hx
    rw [List.getElem?_range hk] at hy
    cases hx
    cases hy
    exact FF_conc h k
/-- rows of numbers above 0 are told apart by their sums -/
theorem pos_uniq : ∀ {a b : List Int}, (∀ x ∈ a, 0 < x) → (∀ x ∈ b, 0 < x) → (∀ n, sumN a n = sumN b n) → a = b
  | [], [], _, _, _ => rfl
  | [], y :: b, _, hb, h => by
    have h1 := h 1
    have := hb y List.mem_cons_self
    simp [sumN] at h1
    omega
  | x :: a, [], ha, _, h => by
    have h1 := h 1
    have := ha x List.mem_cons_self
    simp [sumN] at h1
    omega
  | x :: a, y :: b, ha, hb, h => by
    have h1 := h 1
    simp [sumN] at h1
    subst h1
    rw [pos_uniq (a := a) (b := b) (fun z hz => ha z (List.mem_cons_of_mem _ hz)) (fun z hz => hb z (List.mem_cons_of_mem _ hz)) fun n => ?_]
    have h2 := h (n + 1)
    simp [sumN] at h2
    exact h2
theorem IsRow.uniq {am : List (Int × Int)} (h : Am am) {row row' : List Int} (r : IsRow am row) (r' : IsRow am row') : row = row' :=
  pos_uniq (r.falls h).1 (r'.falls h).1 fun n => by rw [r.sum h, r'.sum h]
theorem sumN_flat : ∀ (row : List Int) (n : Nat), row.length ≤ n → sumN row n = sumN row row.length
  | [], n, _ => by rw [sumN_nil, sumN_nil]
  | x :: row, 0, h => by simp at h
  | x :: row, n + 1, h => by
    show x + sumN row n = x + sumN row row.length
    rw [sumN_flat row n (by simpa using h)]
theorem sumN_mono {row : List Int} (h : ∀ x ∈ row, 0 ≤ x) : ∀ n, sumN row n ≤ sumN row (n + 1) := by
  intro n
  rw [sumN_app]
  by_cases hn : n < row.length
  · have : 0 ≤ row.getD n 0 := by
      rw [List.getD_eq_getElem?_getD, List.getElem?_eq_getElem hn]
      exact h _ (List.getElem_mem hn)
    omega
  · have : row.getD n 0 = 0 := by rw [List.getD_eq_getElem?_getD, List.getElem?_eq_none (by omega)]; rfl
    omega
theorem sumN_le {row : List Int} (h : ∀ x ∈ row, 0 ≤ x) {m n : Nat} (hmn : m ≤ n) : sumN row m ≤ sumN row n := by
  induction n with
  | zero => have : m = 0 := by omega
            subst this; exact Int.le_refl _
  | succ n ih =>
    by_cases e : m = n + 1
    · subst e; exact Int.le_refl _
    · have := ih (by omega); have := sumN_mono h n; omega
end P20


set_option Elab.async false
set_option linter.all false
set_option maxRecDepth 100000
set_option maxHeartbeats 4000000
namespace Mi
open PySem L2
/-- a comprehension over data made of plain things, that draws nothing -/
theorem ok_lcm {α : Type} {g : MG} {mt : MT} {me : ME} {ρ : Env} {u : PuS} {xs : List α} {f : α → D} (r : α → Env) (t : α → Bool) (e : α → D) {P : List D → PuS → Prop} (h1 : ∀ x ∈ xs, g (f x) ρ = some (r x)) (h2 : ∀ x ∈ xs, Ok (mt (r x)) u fun b u' => b = t x ∧ u' = u)
    (h3 : ∀ x ∈ xs, t x = true → Ok (me (r x)) u fun b u' => b = e x ∧ u' = u) (h : P ((xs.filter t).map e) u) : Ok (lcD g mt me ρ (xs.map f)) u P := by
  have : lcD g mt me ρ (xs.map f) u = some ((xs.filter t).map e, u) := by
    clear h
    induction xs with
    | nil => rfl
    | cons x xs ih =>
      have ih := ih (fun y hy => h1 y (List.mem_cons_of_mem _ hy)) (fun y hy => h2 y (List.mem_cons_of_mem _ hy)) (fun y hy => h3 y (List.mem_cons_of_mem _ hy))
      refine eq_of_ok ?_
      rw [List.map_cons]
      unfold lcD
      rw [ok_bind, ok_lft]
      refine ⟨_, h1 x List.mem_cons_self, ?_⟩
      rw [ok_bind, ok_of (eq_of_ok (h2 x List.mem_cons_self))]
      cases ht : t x with
      | false =>
        rw [if_neg (by decide), ok_of ih]
        simp [ht]
      | true =>
        rw [if_pos rfl, ok_bind, ok_of (eq_of_ok (h3 x List.mem_cons_self ht)), ok_bind, ok_of ih, ok_pure]
        simp [ht]
  exact (ok_of this).mpr h
/-- .. of all items -/
theorem ok_lca {α : Type} {g : MG} {me : ME} {ρ : Env} {u : PuS} {xs : List α} {f : α → D} (r : α → Env) (e : α → D) {P : List D → PuS → Prop} (h1 : ∀ x ∈ xs, g (f x) ρ = some (r x))
    (h3 : ∀ x ∈ xs, Ok (me (r x)) u fun b u' => b = e x ∧ u' = u) (h : P (xs.map e) u) : Ok (lcD g mYes me ρ (xs.map f)) u P :=
  ok_lcm r (fun _ => true) e h1 (fun x hx => by simp) (fun x hx _ => h3 x hx) (by rw [List.filter_eq_self.mpr fun _ _ => rfl]; exact h)
theorem flatDs_strs (ns : List Str) : flatDs (ns.map D.str) = some (ns.map V.str) := by
  induction ns with
  | nil => rfl
  | cons n ns ih =>
    show (match flatD (.str n), flatDs (ns.map D.str) with
      | some a, some as => some (a :: as)
      | _, _ => none) = _
    rw [ih]; rfl
theorem inV_strs (x : Str) (ns : List Str) : inV (.str x) (ns.map V.str) = decide (x ∈ ns) := by
  induction ns with
  | nil => rfl
  | cons n ns ih =>
    show (eqV (.str n) (.str x) || inV (.str x) (ns.map V.str)) = _
    rw [ih]
    have : eqV (.str n) (.str x) = decide (x = n) := by
      show (n == x) = _
      by_cases h : x = n
      · subst h; simp
      · have : ¬ n = x := fun z => h z.symm
        simp [h, this]
    rw [this]
    by_cases h : x = n <;> simp [h]
@[simp] theorem s_inStrs {x : Str} {ns : List Str} : inD (.str x) (.lst (ns.map D.str)) = some (.bl (decide (x ∈ ns))) := by
  show (inB (.str x) (.lst (ns.map D.str))).map D.bl = _
  have : inB (.str x) (.lst (ns.map D.str)) = (flatDs (ns.map D.str)).map fun ws => inV (.str x) ws := rfl
  rw [this, flatDs_strs]
  show some (D.bl (inV (.str x) (ns.map V.str))) = _
  rw [inV_strs]
@[simp] theorem s_inStrsT {x : Str} {ns : List Str} : inD (.str x) (.tup (ns.map D.str)) = some (.bl (decide (x ∈ ns))) := by
  show (inB (.str x) (.tup (ns.map D.str))).map D.bl = _
  have : inB (.str x) (.tup (ns.map D.str)) = (flatDs (ns.map D.str)).map fun ws => inV (.str x) ws := rfl
  rw [this, flatDs_strs]
  show some (D.bl (inV (.str x) (ns.map V.str))) = _
  rw [inV_strs]
end Mi
namespace Sh
open PySem L2 Mi P20
def prD (q : Int × Int) : D := .tup [.int q.1, .int q.2]
def cardD (q : Int × Int) : D := .obj "Card" ["held", "daily"] [.int q.1, .int q.2]
theorem card_init {b l : Int} (hl : 1 ≤ l) (hb : 0 ≤ b) (h24 : b ≤ 24 * l) {u : PuS} {P : List Str × List D → PuS → Prop} (h : P (["held", "daily"], [.int b, .int l]) u) : Ok (mf_Card___init__ [.int b, .int l]) u P := by
  unfold mf_Card___init__ mb_Card___init__
  have h1 : 0 ≤ l := by omega
  have h2 : ¬ l = 0 := by omega
  have h3 : ¬ 24 * l < b := by omega
  simp [startI, hb, h1, h2, h3]
  exact ⟨[], [], ⟨rfl, rfl⟩, by simp, by decide, ⟨by simp, by decide⟩, by decide, h⟩
theorem dmC_log {a b : Int} (h : 0 < b) (h2 : b.natAbs.log2 < 8000) : dmC a b = true := by
  unfold dmC
  have e : Builtin.divisionGoesByPylong a b = false := by
    unfold Builtin.divisionGoesByPylong
    simp only []
    have hb : ¬ ((if (b == 0) = true then 0 else b.natAbs.log2 / 30 + 1) > 300) := by
      split
      · omega
      · omega
    simp only [hb, decide_false, Bool.false_and]
  rw [e, decide_eq_true h]; rfl
end Sh


set_option Elab.async false
set_option linter.all false
set_option maxRecDepth 100000
set_option maxHeartbeats 4000000
namespace S2
open PySem L2 Mi P20 Sh
def Pu (u : PuS) : Prop := ∃ s x : Int, u = .real [s, x] ∧ 0 ≤ s ∧ s < 2147483648
theorem log_big {n : Int} (h : 0 < n ∧ n < 1000000000000000000000000000000000000000000000000000000000000) : n.natAbs.log2 < 200 := by
  refine (Nat.log2_lt (by omega)).mpr ?_
  have : (2 : Nat) ^ 200 = 1606938044258990275541962092341162602522202993782792835301376 := by decide +kernel
  rw [this]
  omega
theorem draw_ok {n : Int} (hn : 0 < n ∧ n < 1000000000000000000000000000000000000000000000000000000000000) {u : PuS} (hu : Pu u) {P : D → PuS → Prop} (h : ∀ r u', 0 ≤ r → r < n → Pu u' → P (.int r) u') : Ok (mf__law_draw [.pur, .int n]) u P := by
  obtain ⟨s, x, rfl, h1, h2⟩ := hu
  unfold mf__law_draw mb__law_draw
  have hd : dmC x n = true := dmC_log hn.1 (by have := log_big hn; omega)
  simp [atI, ixN, hn.1, hd]
  have hh : ∀ k : Int, 0 ≤ k % n ∧ k % n < n := fun k => ⟨Int.emod_nonneg _ (by omega), Int.emod_lt_of_pos _ hn.1⟩
  refine brd (fun hx => ?_) (fun hx => ?_)
  · exact h _ _ (hh _).1 (hh _).2 ⟨_, _, rfl, h1, h2⟩
  · refine ⟨.inl (.inl (by omega)), h _ _ (hh _).1 (hh _).2 ⟨_, _, rfl, ?_, ?_⟩⟩
    all_goals omega
theorem wide_ok {n : Int} (hn : 0 < n ∧ n < 1000000000000000000000000000000000000000000000000000000000000) {u : PuS} (hu : Pu u) {P : D → PuS → Prop} (h : ∀ r u', 0 ≤ r → r < n → Pu u' → P (.int r) u') : Ok (mf__law_wide [.pur, .int n]) u P := by
  unfold mf__law_wide mb__law_wide
  have slow : Ok (loopD (mGn 3) lb__law_wide_1 (rngD 0 6) [.sh .pur, .sh (.int n), .sh (.int 0), .un]) u fun f u1 => match f with
      | .nx ρ1 => ∃ d, vSh ρ1 2 = some d ∧ ∃ z, int1D [d] = some z ∧ ∃ d', vSh ρ1 1 = some d' ∧ ∃ w, modD z d' = some w ∧ P w u1
      | _ => False := by
    refine ok_range 0 6 (fun k ρ u => Pu u ∧ ∃ m t, ρ = [.sh .pur, .sh (.int n), .sh (.int m), t]) ?_ ?_ _ _ ⟨hu, 0, _, rfl⟩
    · rintro k ρ u hk ⟨hu, m, t, rfl⟩
      unfold lb__law_wide_1
      simp
      refine draw_ok (by decide) hu fun r u1 h0 h6 hu1 => ?_
      simp
      exact hu1
    · rintro ρ u ⟨hu, m, t, rfl⟩
      simp [hn.1]
      exact h _ _ (Int.emod_nonneg _ (by omega)) (Int.emod_lt_of_pos _ hn.1) hu
  simp
  refine brd (fun h1 => ?_) (fun h1 => ?_)
  · exact draw_ok hn hu h
  · obtain ⟨s, x, rfl, h3, h4⟩ := id hu
    simp [atI, ixN]
    refine brd (fun h2 => ?_) (fun h2 => ?_)
    · exact draw_ok hn hu h
    · refine slow.mono fun f u1 z => ?_
      cases f with
      | nx ρ1 => simpa using z
      | _ => exact False.elim z
theorem amount_ok {u : PuS} (hu : Pu u) {P : D → PuS → Prop} (h : ∀ r u', 0 ≤ r → r < 1000000000000000000000000000000 → Pu u' → P (.int r) u') : Ok (mf__law_amount [.pur]) u P := by
  unfold mf__law_amount mb__law_amount
  simp
  refine draw_ok (by decide) hu fun r u1 h0 h6 hu1 => ?_
  obtain ⟨n, e, hn⟩ : ∃ n : Int, atI [D.int 4, D.int 10, D.int 100, D.int 1000000, D.int 1000000000000, D.int 1000000000000000000000000000000] r = some (.int n) ∧ 0 < n ∧ n ≤ 1000000000000000000000000000000 := by
    obtain ⟨k, rfl⟩ : ∃ k : Nat, r = (k : Int) := ⟨r.toNat, by omega⟩
    have hk : k < 6 := by omega
    match k, hk with
    | 0, _ => exact ⟨4, rfl, by decide⟩
    | 1, _ => exact ⟨10, rfl, by decide⟩
    | 2, _ => exact ⟨100, rfl, by decide⟩
    | 3, _ => exact ⟨1000000, rfl, by decide⟩
    | 4, _ => exact ⟨1000000000000, rfl, by decide⟩
    | 5, _ => exact ⟨1000000000000000000000000000000, rfl, by decide⟩
  simp [e]
  exact wide_ok (by omega) hu1 fun r u' h1 h2 hu' => h r u' h1 (by omega) hu'
theorem purse_ok {ns : List Int} {k : Nat} (hk : k < 100) {u : PuS} {P : List D → PuS → Prop} (h : ∀ s x : Int, 0 ≤ s → s < 2147483648 → P ([s, x].map D.int) u) : Ok (mfL__law_purse [.scr ns, .int k]) u P := by
  unfold mfL__law_purse mbL__law_purse
  have e1 : cutD (ns.map D.int) none (some 4) = (ns.take 4).map D.int := by rw [show (4 : Int) = ((4 : Nat) : Int) from rfl, cut_to, List.map_take]
  obtain ⟨zs, e2, hz⟩ : ∃ zs : List Int, cutD (ns.map D.int) (some (k : Int)) (some ((k : Int) + 1)) = zs.map D.int ∧ zs.length ≤ 1 := by
    refine ⟨(ns.drop k).take 1, ?_, by simp; omega⟩
    unfold cutD
    rw [show ((k : Int) + 1) = ((k + 1 : Nat) : Int) by omega, HT.sIx_nat, HT.sIx_nat, List.length_map]
    rcases Nat.lt_or_ge k ns.length with h | h
    · rw [Nat.min_eq_left (by omega), Nat.min_eq_left (by omega), show k + 1 - k = 1 by omega, List.map_take, List.map_drop]
    · rw [Nat.min_eq_right (by omega), Nat.min_eq_right (by omega), List.drop_eq_nil_of_le (by simp), List.drop_eq_nil_of_le h]
      simp
  have e3 : addD (.lst ((ns.take 4).map D.int)) (.lst (zs.map D.int)) = some (.lst ((ns.take 4 ++ zs).map D.int)) := by
    rw [s_addL (by simp; omega), List.map_append]
  simp only [ok_fnL, s_start, List.map_cons, List.map_nil, List.length_cons, List.length_nil, ok_seq, ok_set, ok_bin, ok_C, ok_var, s_vSh, ok_for, ok_Iany, ok_sl, ok_On, ok_Os]
  simp
  rw [e1, e2]
  refine ⟨_, e3, _, rfl, ?_⟩
  refine ok_list ((ns.take 4 ++ zs).map D.int) (fun _ ρ u' => u' = u ∧ ∃ (s : Int) (t w : Sd), ρ = [.sh (.scr ns), .sh (.int k), .sh (.int s), t, w] ∧ 0 ≤ s ∧ s < 2147483648) ?_ ?_ _ _ ⟨rfl, _, _, _, rfl, by omega, by omega⟩
  · rintro j d ρ u' e ⟨rfl, s, t, w, rfl, h1, h2⟩
    rw [List.getElem?_map] at e
    cases e2 : (ns.take 4 ++ zs)[j]? with
    | none => rw [e2] at e; cases e
    | some x =>
      rw [e2] at e
      cases e
      simp
      omega
  · rintro ρ u' ⟨rfl, s, t, w, rfl, h1, h2⟩
    have e4 : ∀ n : Int, absD [.int n] = some (.int (if n < 0 then -n else n)) := fun n => rfl
    have fin : ∀ n : Int, Ok (mRetL (mLstO (mCons (mVar 2) (mCons (mIf (mB (mBin geD (mCB absD (mCons (mVar 4) (mNil))) (mBin powD (mC (.int 10)) (mC (.int 18))))) (mCB absD (mCons (mVar 4) (mNil))) (mC (.int 0))) (mNil)))) [.sh (.scr ns), .sh (.int k), .sh (.int s), t, .sh (.int n)]) u' fun f u1 => match f with
      | .rl d => P d u1
      | _ => False := fun n => by
      simp [e4]
      refine brd (fun _ => ?_) (fun _ => ?_)
      · exact h s _ h1 h2
      · exact h s 0 h1 h2
    simp
    refine brd (fun hl => ?_) (fun hl => ?_)
    · have e5 : atI ns (k : Int) = some ns[k] := at_nat (List.getElem?_eq_getElem hl)
      simp [e5]
      simpa using fin ns[k]
    · simpa using fin 0
/-- the law's end: all draws of all purses are right -/
theorem law_all {mfr : List D → M D} {N : Int} (hN : 2 ≤ N ∧ N ≤ 60) (h : ∀ u, Pu u → Ok (mfr [.pur]) u fun d _ => d = .bl true) (ns : List Int) (u : PuS) :
    Ok (mFn 2 (mRet (mCB allD (mCons (mFz (mLcO [1] (mIof rng1 (mCons (mCB maxD (mCons (mC (.int 2)) (mCons (mCB minD (mCons (mCB lenD (mCons (mVar 0) (mNil))) (mCons (mC (.int N)) (mNil)))) (mNil)))) (mNil))) (mGn 1) (mYes) (mWith mfr (mCallL 2 mfL__law_purse (mCons (mVar 0) (mCons (mVar 1) (mNil))))))) (mNil)))) [.scr ns]) u fun d _ => d = .bl true := by
  simp
  obtain ⟨m, hm, hm2⟩ : ∃ m : Nat, (if 2 < (if N < (ns.length : Int) then N else (ns.length : Int)) then (if N < (ns.length : Int) then N else (ns.length : Int)) else 2) = (m : Int) ∧ m ≤ 60 := by
    refine ⟨(if 2 < (if N < (ns.length : Int) then N else (ns.length : Int)) then (if N < (ns.length : Int) then N else (ns.length : Int)) else 2).toNat, ?_, ?_⟩ <;> split <;> split <;> omega
  rw [hm]
  refine ⟨by omega, by rw [rngD_len]; omega, ?_⟩
  refine (ok_lc (fun _ => True) (fun d => d = .bl true) _ _ trivial ?_).mono ?_
  · intro d hd u _
    obtain ⟨i, hi, rfl⟩ : ∃ i : Nat, i < m ∧ d = .int i := by
      obtain ⟨i, hi, e⟩ := List.mem_iff_getElem.mp hd
      rw [rngD_len] at hi
      exact ⟨i, by omega, by rw [← e]; simp [rngD]⟩
    refine ⟨_, rfl, ?_⟩
    simp
    refine ok_with true ?_
    simp
    refine purse_ok (by omega) fun s x h1 h2 => ?_
    exact ⟨[s, x], rfl, h _ ⟨s, x, rfl, h1, h2⟩⟩
  · rintro ys u' ⟨⟨hl, he⟩, -⟩
    have e1 : ys = (List.replicate ys.length true).map D.bl := by
      clear hl
      induction ys with
      | nil => rfl
      | cons a ys ih =>
        have := he a List.mem_cons_self
        subst this
        rw [List.length_cons, List.replicate_succ, List.map_cons, ← ih fun y hy => he y (List.mem_cons_of_mem _ hy)]
    rw [e1]
    show (blsD ((List.replicate ys.length true).map D.bl)).map (fun bs => D.bl (bs.all id)) = _
    rw [blsD_map]
    simp
theorem law_fin {mf : List D → M D} (h : ∀ ns u, Ok (mf [.scr ns]) u fun d _ => d = .bl true) (ns : List Int) (o : HO) (_ : ns.length ≤ 63) : ∃ u', mf [.scr ns] (.idle o) = some (.bl true, u') := by
  obtain ⟨d, u', e, rfl⟩ := h ns (.idle o)
  exact ⟨u', e⟩
end S2


set_option Elab.async false
set_option linter.all false
set_option maxRecDepth 100000
set_option maxHeartbeats 4000000
/-! K2m: what courses ask, plain. -/
namespace P20
/-- an event: a bill, or a card that comes -/
abbrev Ev := Sum Int (Int × Int)
def isB : Ev → Bool
  | .inl _ => true
  | .inr _ => false
def nB (evs : List Ev) : Nat := (evs.filter isB).length
def nC (evs : List Ev) : Nat := (evs.filter fun e => !isB e).length
theorem nB_inl (x : Int) (r : List Ev) : nB (.inl x :: r) = nB r + 1 := rfl
theorem nB_inr (q : Int × Int) (r : List Ev) : nB (.inr q :: r) = nB r := rfl
/-- sets of days with their worth -/
inductive Sel : Int → List Ev → List Int → Int → Prop
  | nil (i : Int) : Sel i [] [] 0
  | card {i b l v : Int} {rest : List Ev} {s : List Int} (h : Sel (i + 1) rest s v) : Sel i (.inr (b, l) :: rest) s (v - wor b l s.length)
  | skip {i x v : Int} {rest : List Ev} {s : List Int} (h : Sel (i + 1) rest s v) : Sel i (.inl x :: rest) s v
  | take {i x v : Int} {rest : List Ev} {s : List Int} (h : Sel (i + 1) rest s v) : Sel i (.inl x :: rest) (i :: s) (x + v)
/-- one step of the table, at an event with this index -/
def askStep (i : Int) (e : Ev) (best : List (Int × List Int)) : List (Int × List Int) := match e with
  | .inr (b, l) => best.map fun q => (q.1 - wor b l q.2.length, q.2)
  | .inl x =>
    let longer := best.map fun q => (q.1 + x, i :: q.2)
    [best.headD (0, [])] ++ ((List.range (best.length - 1)).map fun k => if (longer.getD k (0, [])).1 ≤ (best.getD (k + 1) (0, [])).1 then best.getD (k + 1) (0, []) else longer.getD k (0, [])) ++ [longer.getLastD (0, [])]
def asked (i : Int) : List Ev → List (Int × List Int)
  | [] => [(0, [])]
  | e :: rest => askStep i e (asked (i + 1) rest)
/-- a table as it should be -/
structure Tab (i : Int) (evs : List Ev) (t : List (Int × List Int)) : Prop where
  len : t.length = nB evs + 1
  at_ : ∀ (k : Nat) (a : Int) (ds : List Int), t[k]? = some (a, ds) → ds.length = k ∧ Sel i evs ds a ∧ ∀ s v, Sel i evs s v → s.length = k → v ≤ a
theorem Sel.len {i : Int} {evs : List Ev} {s : List Int} {v : Int} (h : Sel i evs s v) : s.length ≤ nB evs := by
  induction h with
  | nil => exact Nat.le_refl _
  | card h ih => rw [nB_inr]; exact ih
  | skip h ih => rw [nB_inl]; omega
  | take h ih => rw [nB_inl, List.length_cons]; omega
theorem asked_tab : ∀ (evs : List Ev) (i : Int), Tab i evs (asked i evs)
  | [], i => ⟨rfl, fun k a ds e => by
      cases k with
      | zero =>
        simp [asked] at e
        obtain ⟨rfl, rfl⟩ := e
        exact ⟨rfl, .nil i, fun s v h _ => by cases h; exact Int.le_refl _⟩
      | succ k => simp [asked] at e⟩
  | .inr (b, l) :: rest, i => by
    have ih := asked_tab rest (i + 1)
    refine ⟨?_, fun k a ds e => ?_⟩
    · show ((asked (i + 1) rest).map _).length = _
      rw [List.length_map, ih.len, nB_inr]
    · have e' : ((asked (i + 1) rest).map fun q => (q.1 - wor b l q.2.length, q.2))[k]? = some (a, ds) := e
      rw [List.getElem?_map] at e'
      cases e1 : (asked (i + 1) rest)[k]? with
      | none => rw [e1] at e'; cases e'
      | some q =>
        obtain ⟨a', ds'⟩ := q
        rw [e1] at e'
        cases e'
        obtain ⟨h1, h2, h3⟩ := ih.at_ k a' _ e1
        refine ⟨h1, .card h2, fun s v h hs => ?_⟩
        cases h with
        | card h =>
          have := h3 _ _ h hs
          rw [hs, h1]
          omega
  | .inl x :: rest, i => by
    have ih := asked_tab rest (i + 1)
    have hn : nB (.inl x :: rest) = nB rest + 1 := rfl
    have hlen : (asked (i + 1) rest).length = nB rest + 1 := ih.len
    generalize hb : asked (i + 1) rest = best at ih hlen
    have hres : asked i (.inl x :: rest) = askStep i (.inl x) best := by rw [← hb]; rfl
    rw [hres]
    obtain ⟨q0, br, rfl⟩ : ∃ q br, best = q :: br := by
      cases best with
      | nil => simp at hlen
      | cons q br => exact ⟨q, br, rfl⟩
    have hget : ∀ k, k < nB rest + 1 → (q0 :: br)[k]? = some ((q0 :: br).getD k (0, [])) := fun k hk => by
      rw [List.getD_eq_getElem?_getD, List.getElem?_eq_getElem (by omega)]; rfl
    have hgl : ∀ k, k < nB rest + 1 → ((q0 :: br).map fun q => (q.1 + x, i :: q.2)).getD k (0, []) = (((q0 :: br).getD k (0, [])).1 + x, i :: ((q0 :: br).getD k (0, [])).2) := fun k hk => by
      rw [List.getD_eq_getElem?_getD, List.getElem?_map, hget k hk]; rfl
    have hst : ∀ k, k ≤ nB rest + 1 → (askStep i (.inl x) (q0 :: br))[k]? = some (if k = 0 then q0 else if h : k < nB rest + 1 then (if ((q0 :: br).getD (k - 1) (0, [])).1 + x ≤ ((q0 :: br).getD k (0, [])).1 then (q0 :: br).getD k (0, []) else (((q0 :: br).getD (k - 1) (0, [])).1 + x, i :: ((q0 :: br).getD (k - 1) (0, [])).2)) else (((q0 :: br).getD (nB rest) (0, [])).1 + x, i :: ((q0 :: br).getD (nB rest) (0, [])).2)) := fun k hk => by
      unfold askStep
      simp only []
      cases k with
      | zero => simp
      | succ k =>
        rw [if_neg (by omega)]
        show ((([(q0 :: br).headD (0, [])] ++ _) ++ [_])[k + 1]?) = _
        by_cases hk2 : k + 1 < nB rest + 1
        · have hlen' : br.length = nB rest := by rw [List.length_cons] at hlen; omega
          rw [dif_pos hk2, List.getElem?_append_left (by simp; omega)]
          show ((List.range ((q0 :: br).length - 1)).map _)[k]? = _
          rw [List.getElem?_map, List.getElem?_range (by rw [hlen]; omega)]
          simp only [Option.map_some, hgl k (by omega)]
          rfl
        · rw [dif_neg hk2]
          have hke : k = nB rest := by omega
          have hlen' : br.length = nB rest := by rw [List.length_cons] at hlen; omega
          rw [List.getElem?_append_right (by simp; omega)]
          have e0 : k + 1 - ([(q0 :: br).headD (0, [])] ++ ((List.range ((q0 :: br).length - 1)).map fun k => if (((q0 :: br).map fun q => (q.1 + x, i :: q.2)).getD k (0, [])).1 ≤ ((q0 :: br).getD (k + 1) (0, [])).1 then (q0 :: br).getD (k + 1) (0, []) else ((q0 :: br).map fun q => (q.1 + x, i :: q.2)).getD k (0, []))).length = 0 := by simp; omega
          rw [e0]
          simp only [List.getElem?_cons_zero]
          congr 1
          rw [List.getLastD_eq_getLast?, List.getLast?_eq_getElem?]
          have e1 : ((q0 :: br).map fun q => (q.1 + x, i :: q.2)).length - 1 = nB rest := by rw [List.length_map, hlen]; omega
          rw [e1, List.getElem?_map, hget (nB rest) (by omega)]
          rfl
    refine ⟨?_, fun k a ds e => ?_⟩
    · rw [hn]
      unfold askStep
      simp
      simp at hlen
      omega
    · have hk : k ≤ nB rest + 1 := by
        have := (List.getElem?_eq_some_iff.mp e).1
        have h2 : (askStep i (.inl x) (q0 :: br)).length = nB rest + 2 := by
          unfold askStep
          simp
          simp at hlen
          omega
        omega
      rw [hst k hk] at e
      have e := Option.some.inj e
      have tk : ∀ j, j < nB rest + 1 → ∀ q, q = (q0 :: br).getD j (0, []) → q.2.length = j ∧ Sel (i + 1) rest q.2 q.1 ∧ ∀ s v, Sel (i + 1) rest s v → s.length = j → v ≤ q.1 := fun j hj q hq => ih.at_ j q.1 q.2 (by rw [hget j hj, hq])
      have cmp : ∀ (s : List Int) (v : Int), Sel i (.inl x :: rest) s v → (Sel (i + 1) rest s v) ∨ ∃ s' v', s = i :: s' ∧ v = x + v' ∧ Sel (i + 1) rest s' v' := fun s v h => by
        cases h with
        | skip h => exact .inl h
        | take h => exact .inr ⟨_, _, rfl, rfl, h⟩
      by_cases k0 : k = 0
      · subst k0
        rw [if_pos rfl] at e
        obtain ⟨h1, h2, h3⟩ := tk 0 (by omega) q0 rfl
        subst e
        refine ⟨h1, .skip h2, fun s v h hs => ?_⟩
        rcases cmp s v h with h | ⟨s', v', es, ev, h'⟩
        · exact h3 s v h hs
        · rw [es] at hs; simp at hs
      · rw [if_neg k0] at e
        obtain ⟨p1, p2, p3⟩ := tk (k - 1) (by omega) _ rfl
        by_cases hk2 : k < nB rest + 1
        · rw [dif_pos hk2] at e
          obtain ⟨h1, h2, h3⟩ := tk k hk2 _ rfl
          split at e
          · rename_i hc
            rw [e] at h1 h2 h3 hc
            refine ⟨h1, .skip h2, fun s v h hs => ?_⟩
            rcases cmp s v h with h | ⟨s', v', es, ev, h'⟩
            · exact h3 s v h hs
            · have := p3 s' v' h' (by rw [es, List.length_cons] at hs; omega)
              simp only [] at hc
              omega
          · rename_i hc
            obtain ⟨ea, ed⟩ := Prod.mk.inj e
            subst ea ed
            refine ⟨by rw [List.length_cons, p1]; omega, ?_, fun s v h hs => ?_⟩
            · rw [Int.add_comm]; exact .take p2
            · rcases cmp s v h with h | ⟨s', v', es, ev, h'⟩
              · have := h3 s v h hs; omega
              · have := p3 s' v' h' (by rw [es, List.length_cons] at hs; omega); omega
        · rw [dif_neg hk2] at e
          have hke : k - 1 = nB rest := by omega
          rw [← hke] at e
          obtain ⟨ea, ed⟩ := Prod.mk.inj e
          subst ea ed
          refine ⟨by rw [List.length_cons, p1]; omega, ?_, fun s v h hs => ?_⟩
          · rw [Int.add_comm]; exact .take p2
          · rcases cmp s v h with h | ⟨s', v', es, ev, h'⟩
            · have := h.len; omega
            · have := p3 s' v' h' (by rw [es, List.length_cons] at hs; omega); omega
/-- what a course asks of 1, 2, .. days -/
def asks (evs : List Ev) : List Int := ((asked 0 evs).map Prod.fst).drop 1
theorem asked_len (evs : List Ev) (i : Int) : (asked i evs).length = nB evs + 1 := (asked_tab evs i).len
/-! ### sets of days, one by one -/
def spotsI : Int → List Ev → List Int
  | _, [] => []
  | i, .inl _ :: r => i :: spotsI (i + 1) r
  | i, .inr _ :: r => spotsI (i + 1) r
theorem spotsI_ge : ∀ (evs : List Ev) (i d : Int), d ∈ spotsI i evs → i ≤ d
  | [], i, d, h => by cases h
  | .inl x :: r, i, d, h => by
    rcases List.mem_cons.mp h with rfl | h
    · exact Int.le_refl _
    · have := spotsI_ge r (i + 1) d h; omega
  | .inr q :: r, i, d, h => by have := spotsI_ge r (i + 1) d h; omega
def bAt (evs : List Ev) (d : Int) : Int := match evs[d.toNat]? with
  | some (.inl x) => x
  | _ => 0
def cutSum : Int → List Ev → List Int → Int
  | _, [], _ => 0
  | i, .inr q :: r, s => wor q.1 q.2 (s.filter fun d => decide (i < d)).length + cutSum (i + 1) r s
  | i, .inl _ :: r, s => cutSum (i + 1) r s
def lv (i : Int) (evs : List Ev) (s : List Int) : Int := (s.map fun d => bAt evs (d - i)).sum - cutSum i evs s
theorem bAt_cons {e : Ev} {r : List Ev} {i d : Int} (h : i + 1 ≤ d) : bAt (e :: r) (d - i) = bAt r (d - (i + 1)) := by
  unfold bAt
  have : (d - i).toNat = (d - (i + 1)).toNat + 1 := by omega
  rw [this]
  rfl
theorem cutSum_drop : ∀ (evs : List Ev) (i j : Int) (s : List Int), j < i → cutSum i evs (j :: s) = cutSum i evs s
  | [], i, j, s, h => rfl
  | .inr q :: r, i, j, s, h => by
    show wor q.1 q.2 ((j :: s).filter fun d => decide (i < d)).length + cutSum (i + 1) r (j :: s) = _
    rw [cutSum_drop r (i + 1) j s (by omega), List.filter_cons_of_neg (by simp; omega)]
    rfl
  | .inl x :: r, i, j, s, h => cutSum_drop r (i + 1) j s (by omega)
theorem sel_of_sub : ∀ (evs : List Ev) (i : Int) (s : List Int), s.Sublist (spotsI i evs) → Sel i evs s (lv i evs s)
  | [], i, s, h => by
    have : s = [] := List.eq_nil_of_sublist_nil h
    subst this
    exact .nil i
  | .inr (b, l) :: r, i, s, h => by
    have hs : s.Sublist (spotsI (i + 1) r) := h
    have ge : ∀ d ∈ s, i + 1 ≤ d := fun d hd => spotsI_ge r (i + 1) d (hs.subset hd)
    have ih := sel_of_sub r (i + 1) s hs
    have e : lv i (.inr (b, l) :: r) s = lv (i + 1) r s - wor b l s.length := by
      unfold lv
      have e1 : (s.map fun d => bAt (.inr (b, l) :: r) (d - i)) = s.map fun d => bAt r (d - (i + 1)) := List.map_congr_left fun d hd => bAt_cons (ge d hd)
      have e2 : s.filter (fun d => decide (i < d)) = s := List.filter_eq_self.mpr fun d hd => decide_eq_true (by have := ge d hd; omega)
      show _ - (wor b l (s.filter fun d => decide (i < d)).length + cutSum (i + 1) r s) = _
      rw [e1, e2]
      omega
    rw [e]
    exact .card ih
  | .inl x :: r, i, s, h => by
    have hs : s.Sublist (i :: spotsI (i + 1) r) := h
    have key : ∀ s' : List Int, s'.Sublist (spotsI (i + 1) r) → lv i (.inl x :: r) s' = lv (i + 1) r s' := fun s' hs' => by
      have ge : ∀ d ∈ s', i + 1 ≤ d := fun d hd => spotsI_ge r (i + 1) d (hs'.subset hd)
      unfold lv
      have e1 : (s'.map fun d => bAt (.inl x :: r) (d - i)) = s'.map fun d => bAt r (d - (i + 1)) := List.map_congr_left fun d hd => bAt_cons (ge d hd)
      rw [e1]
      rfl
    rcases List.sublist_cons_iff.mp hs with hs' | ⟨s', rfl, hs'⟩
    · rw [key s hs']
      exact .skip (sel_of_sub r (i + 1) s hs')
    · have ge : ∀ d ∈ s', i + 1 ≤ d := fun d hd => spotsI_ge r (i + 1) d (hs'.subset hd)
      have e : lv i (.inl x :: r) (i :: s') = x + lv (i + 1) r s' := by
        rw [← key s' hs']
        unfold lv
        rw [List.map_cons, List.sum_cons]
        have e2 : bAt (.inl x :: r) (i - i) = x := by rw [Int.sub_self]; rfl
        have e3 : cutSum i (.inl x :: r) (i :: s') = cutSum i (.inl x :: r) s' := cutSum_drop r (i + 1) i s' (by omega)
        rw [e2, e3]
        omega
      rw [e]
      exact .take (sel_of_sub r (i + 1) s' hs')
theorem Sel.sub {i : Int} {evs : List Ev} {s : List Int} {v : Int} (h : Sel i evs s v) : s.Sublist (spotsI i evs) := by
  induction h with
  | nil => exact List.Sublist.refl _
  | card h ih => exact ih
  | skip h ih => exact ih.cons _
  | take h ih => exact ih.cons_cons _
theorem Sel.uniq {i : Int} {evs : List Ev} {s : List Int} {v v' : Int} (h : Sel i evs s v) (h' : Sel i evs s v') : v = v' := by
  induction h generalizing v' with
  | nil => cases h'; rfl
  | card h ih =>
    cases h' with
    | card h2 => rw [ih h2]
  | @skip i x v rest s h ih =>
    cases h' with
    | skip h2 => exact ih h2
    | take h2 =>
      have := spotsI_ge _ _ _ (h.sub.subset List.mem_cons_self)
      omega
  | @take i x v rest s h ih =>
    cases h' with
    | take h2 => rw [ih h2]
    | skip h2 =>
      have := spotsI_ge _ _ _ (h2.sub.subset List.mem_cons_self)
      omega
theorem Sel.val {i : Int} {evs : List Ev} {s : List Int} {v : Int} (h : Sel i evs s v) : v = lv i evs s := h.uniq (sel_of_sub evs i s h.sub)
end P20


set_option Elab.async false
set_option linter.all false
set_option maxRecDepth 100000
set_option maxHeartbeats 4000000
namespace Sh
open PySem L2 Mi P20
def evD : Ev → D
  | .inl x => .int x
  | .inr q => cardD q
def courD (evs : List Ev) : D := .obj "Course" ["passed"] [.tup (evs.map evD)]
def evOk : Ev → Prop
  | .inl x => 0 ≤ x
  | .inr q => 1 ≤ q.2 ∧ 0 ≤ q.1 ∧ q.1 ≤ 24 * q.2
structure EvsOk (evs : List Ev) : Prop where
  each : ∀ e ∈ evs, evOk e
  bills : nB evs ≤ 12
  cards : nC evs ≤ 6
theorem nBC : ∀ evs : List Ev, nB evs + nC evs = evs.length
  | [] => rfl
  | .inl x :: r => by have := nBC r; rw [nB_inl]; show nB r + 1 + nC r = r.length + 1; omega
  | .inr q :: r => by have := nBC r; rw [nB_inr]; show nB r + (nC r + 1) = r.length + 1; omega
theorem EvsOk.len {evs : List Ev} (h : EvsOk evs) : evs.length ≤ 18 := by have := nBC evs; have := h.bills; have := h.cards; omega
theorem nB_append (a b : List Ev) : nB (a ++ b) = nB a + nB b := by simp [nB]
theorem nC_append (a b : List Ev) : nC (a ++ b) = nC a + nC b := by simp [nC]
theorem nB_take (evs : List Ev) (k : Nat) : nB (evs.take k) ≤ nB evs := by
  have := nB_append (evs.take k) (evs.drop k)
  rw [List.take_append_drop] at this
  omega
theorem nC_take (evs : List Ev) (k : Nat) : nC (evs.take k) ≤ nC evs := by
  have := nC_append (evs.take k) (evs.drop k)
  rw [List.take_append_drop] at this
  omega
@[simp] theorem bal_ok {q : Int × Int} {u : PuS} {P : D → PuS → Prop} : Ok (mf_Card_balance [.obj "Card" ["held", "daily"] [.int q.1, .int q.2]]) u P ↔ P (.int q.1) u := by
  unfold mf_Card_balance mb_Card_balance
  simp
@[simp] theorem lim_ok {q : Int × Int} {u : PuS} {P : D → PuS → Prop} : Ok (mf_Card_limit [.obj "Card" ["held", "daily"] [.int q.1, .int q.2]]) u P ↔ P (.int q.2) u := by
  unfold mf_Card_limit mb_Card_limit
  simp
theorem wrong_event_ok {evs : List Ev} (h : EvsOk evs) {u : PuS} {P : D → PuS → Prop} (hp : P .non u) : Ok (mf_wrong_event [.tup (evs.map evD)]) u P := by
  unfold mf_wrong_event mb_wrong_event
  simp
  refine ok_list (enumD (evs.map evD)) (fun k ρ u' => u' = u ∧ ∃ a b, ρ = [.sh (.tup (evs.map evD)), .sh (.int (nB (evs.take k))), .sh (.int (nC (evs.take k))), a, b]) ?_ ?_ _ _ ⟨rfl, _, _, rfl⟩
  · rintro k d ρ u' e ⟨rfl, a, b, rfl⟩
    obtain ⟨x, ex, rfl⟩ := enumD_at e
    rw [List.getElem?_map] at ex
    cases e2 : evs[k]? with
    | none => rw [e2] at ex; cases ex
    | some ev =>
      rw [e2] at ex
      cases ex
      have e7 : evs.take (k + 1) = evs.take k ++ [ev] := by rw [List.take_succ, e2]; simp
      have hb := nB_take evs (k + 1)
      have hc := nC_take evs (k + 1)
      have b12 := h.bills
      have c6 := h.cards
      unfold lb_wrong_event_1
      rw [e7] at hb hc ⊢
      rw [nB_append] at hb
      rw [nC_append] at hc
      rw [nB_append, nC_append]
      have hev := h.each ev (List.mem_of_getElem? e2)
      cases ev with
      | inl x =>
        have e3 : isiD [.int x, .cls "Card"] = some (.bl false) := rfl
        have n1 : nB [(Sum.inl x : Ev)] = 1 := rfl
        have n2 : nC [(Sum.inl x : Ev)] = 0 := rfl
        rw [n1] at hb
        rw [n2] at hc
        rw [n1, n2]
        have hx : 0 ≤ x := hev
        have h1 : ¬ (12 : Int) < (nB (evs.take k) : Int) + 1 := by omega
        have h2 : ¬ (6 : Int) < (nC (evs.take k) : Int) := by omega
        have e4 : evD (.inl x) = .int x := rfl
        simp [e3, e4, hx, h1, h2]
      | inr q =>
        have e3 : isiD [evD (.inr q), .cls "Card"] = some (.bl true) := rfl
        have n1 : nB [(Sum.inr q : Ev)] = 0 := rfl
        have n2 : nC [(Sum.inr q : Ev)] = 1 := rfl
        rw [n1] at hb
        rw [n2] at hc
        rw [n1, n2]
        have h1 : ¬ (12 : Int) < (nB (evs.take k) : Int) := by omega
        have h2 : ¬ (6 : Int) < (nC (evs.take k) : Int) + 1 := by omega
        simp [e3, h1, h2]
  · rintro ρ u' ⟨rfl, a, b, rfl⟩
    simpa using hp
theorem cour_init {evs : List Ev} (h : EvsOk evs) {u : PuS} {P : List Str × List D → PuS → Prop} (hp : P (["passed"], [.tup (evs.map evD)]) u) : Ok (mf_Course___init__ [.tup (evs.map evD)]) u P := by
  unfold mf_Course___init__ mb_Course___init__
  have e : isiD [.tup (evs.map evD), .ty "tuple"] = some (.bl true) := rfl
  simp [startI, e]
  refine wrong_event_ok h ?_
  have e2 : isntD .non .non = some (.bl false) := rfl
  simp [e2]
  exact ⟨[], [], ⟨rfl, rfl⟩, by simp, by decide, hp⟩
@[simp] theorem events_ok {evs : List Ev} {u : PuS} {P : D → PuS → Prop} : Ok (mf_Course_events [.obj "Course" ["passed"] [.tup (evs.map evD)]]) u P ↔ P (.tup (evs.map evD)) u := by
  unfold mf_Course_events mb_Course_events
  simp
end Sh


set_option Elab.async false
set_option linter.all false
set_option maxRecDepth 100000
set_option maxHeartbeats 4000000
namespace S2
open PySem L2 Mi P20 Sh
/-- an event in a law's own row -/
def evR : Ev → D
  | .inl x => .int x
  | .inr q => prD q
theorem course_ok {evs : List Ev} (h : EvsOk evs) {u : PuS} {P : D → PuS → Prop} (hp : P (courD evs) u) : Ok (mf__law_course [.lst (evs.map evR)]) u P := by
  unfold mf__law_course mb__law_course
  have hl := h.len
  simp
  refine ⟨by omega, ?_⟩
  refine ok_lca (fun e => [.sh (.lst (evs.map evR)), .sh (evR e)]) evD ?_ ?_ ?_
  · intro e he; rfl
  · intro e he
    unfold ce__law_course_1
    cases e with
    | inl x =>
      have e1 : isiD [evR (.inl x), .ty "tuple"] = some (.bl false) := rfl
      simp [e1]
      rfl
    | inr q =>
      have e1 : isiD [evR (.inr q), .ty "tuple"] = some (.bl true) := rfl
      have e2 : ixD (evR (.inr q)) (.int 0) = some (.int q.1) := rfl
      have e3 : ixD (evR (.inr q)) (.int 1) = some (.int q.2) := rfl
      obtain ⟨h1, h2, h3⟩ := h.each _ he
      simp [e1, e2, e3]
      exact card_init h1 h2 h3 ⟨rfl, rfl⟩
  exact cour_init h hp
/-- found so far: a number or None -/
def opI : Option Int → D := opD D.int
end S2



set_option Elab.async false
set_option linter.all false
set_option maxRecDepth 100000
set_option maxHeartbeats 4000000
namespace S1
open PySem PySem.Spec PyProof.Rows L2 Mi He Sh
@[reducible] def mb__law_draw : MS := mSeq (mPutP 0 (mBin addD (mIxP 0 (mC (.int 2))) (mC (.int 1))) (mC (.int 2))) (mSeq (mIfS (mB (mBin gtD (mIxP 0 (mC (.int 0))) (mC (.int 0)))) (mSeq (mDmP 0 (mC (.int 0)) 2 (mCB dmD (mCons (mIxP 0 (mC (.int 0))) (mCons (mVar 1) (mNil))))) (mRet (mVar 2))) (mNext)) (mSeq (mSet 3 (mBin modD (mCB int1D (mCons (mBin addD (mBin mulD (mIxP 0 (mC (.int 1))) (mC (.int 44017))) (mBin mulD (mC (.int 60013)) (mIxP 0 (mC (.int 2))))) (mNil))) (mC (.int 2147483587)))) (mSeq (mPutP 0 (mBin modD (mCB int1D (mCons (mBin addD (mBin mulD (mVar 3) (mBin addD (mBin modD (mCB int1D (mCons (mVar 3) (mNil))) (mC (.int 20021))) (mC (.int 10007)))) (mBin mulD (mC (.int 977)) (mIxP 0 (mC (.int 2))))) (mNil))) (mC (.int 2147483549))) (mC (.int 1))) (mRet (mBin modD (mCB int1D (mCons (mBin fdivD (mIxP 0 (mC (.int 1))) (mC (.int 64))) (mNil))) (mVar 1))))))
def mf__law_draw : List D → M D := mFn 4 mb__law_draw
@[reducible] def mbL__law_purse : MS := mRetL (mLstO (mCons (mIf (mB (mBin geD (mVar 0) (mBin powD (mC (.int 10)) (mC (.int 18))))) (mVar 0) (mC (.int 0))) (mCons (mBin modD (mCB int1D (mCons (mVar 0) (mNil))) (mC (.int 2147483629))) (mCons (mC (.int 0)) (mNil)))))
def mfL__law_purse : List D → M (List D) := mFnL 1 mbL__law_purse
@[reducible] def lb__law_cell_1 : MS := mSet 2 (mBin modD (mCB int1D (mCons (mBin addD (mBin mulD (mVar 2) (mC (.int 30323))) (mVar 3)) (mNil))) (mC (.int 2147483029)))
@[reducible] def mb__law_cell : MS := mSeq (mIfS (mB (mBin ltD (mVar 1) (mCB lenD (mCons (mVar 0) (mNil))))) (mRet (mBin ixD (mVar 0) (mVar 1))) (mNext)) (mSeq (mSet 2 (mBin modD (mCB int1D (mCons (mBin mulD (mBin mulD (mC (.int 41203)) (mBin addD (mVar 1) (mC (.int 3)))) (mBin addD (mVar 1) (mC (.int 11)))) (mNil))) (mC (.int 2147483029)))) (mSeq (mFor (mIany (mSl (mVar 0) (mOn) (mOs (mC (.int 3))))) (mGn 3) (lb__law_cell_1)) (mRet (mVar 2))))
def mf__law_cell : List D → M D := mFn 4 mb__law_cell
end S1


set_option Elab.async false
set_option linter.all false
set_option maxRecDepth 100000
set_option maxHeartbeats 4000000
namespace S1
open PySem L2 Mi P20 Sh
def Pu (u : PuS) : Prop := ∃ x s c : Int, u = .real [x, s, c] ∧ 0 ≤ s ∧ s < 2147483648
theorem draw_ok {n : Int} (hn : 0 < n ∧ n < 1000000000) {u : PuS} (hu : Pu u) {P : D → PuS → Prop} (h : ∀ r u', 0 ≤ r → r < n → Pu u' → P (.int r) u') : Ok (mf__law_draw [.pur, .int n]) u P := by
  obtain ⟨x, s, c, rfl, h1, h2⟩ := hu
  unfold mf__law_draw mb__law_draw
  simp [atI, ixN, hn]
  have hh : ∀ k : Int, 0 ≤ k % n ∧ k % n < n := fun k => ⟨Int.emod_nonneg _ (by omega), Int.emod_lt_of_pos _ hn.1⟩
  refine brd (fun hx => ?_) (fun hx => ?_)
  · exact h _ _ (hh _).1 (hh _).2 ⟨_, _, _, rfl, h1, h2⟩
  · refine ⟨.inl (.inl (by omega)), h _ _ (hh _).1 (hh _).2 ⟨_, _, _, rfl, ?_, ?_⟩⟩
    all_goals omega
theorem cell_ok {ns : List Int} {k : Nat} (hk : k < 100) {u : PuS} {P : D → PuS → Prop} (h : ∀ n : Int, P (.int n) u) : Ok (mf__law_cell [.scr ns, .int k]) u P := by
  unfold mf__law_cell mb__law_cell
  simp
  by_cases hl : k < ns.length
  · have e1 : atI ns (k : Int) = some ns[k] := at_nat (List.getElem?_eq_getElem hl)
    simp [hl, e1]
    exact h _
  · simp [hl]
    refine ⟨.inl (.inr (by omega)), ?_⟩
    rw [show (3 : Int) = ((3 : Nat) : Int) from rfl, cut_to, ← List.map_take]
    refine ok_list ((ns.take 3).map D.int) (fun _ ρ u' => u' = u ∧ ∃ n t, ρ = [.sh (.scr ns), .sh (.int k), .sh (.int n), t]) ?_ ?_ _ _ ⟨rfl, _, _, rfl⟩
    · rintro j d ρ u' e ⟨rfl, n, t, rfl⟩
      rw [List.getElem?_map] at e
      cases e2 : (ns.take 3)[j]? with
      | none => rw [e2] at e; cases e
      | some x =>
        rw [e2] at e
        cases e
        unfold lb__law_cell_1
        simp
    · rintro ρ u' ⟨rfl, n, t, rfl⟩
      simp
      exact h _
theorem purse_ok {n : Int} {u : PuS} {P : List D → PuS → Prop} (h : ∀ x s c : Int, 0 ≤ s → s < 2147483648 → P ([x, s, c].map D.int) u) : Ok (mfL__law_purse [.int n]) u P := by
  unfold mfL__law_purse mbL__law_purse
  simp
  have h1 : 0 ≤ n % 2147483629 ∧ n % 2147483629 < 2147483648 := by omega
  by_cases hn : 1000000000000000000 ≤ n
  · simp [hn]
    exact h n _ 0 h1.1 h1.2
  · simp [hn]
    exact h 0 _ 0 h1.1 h1.2
/-- the law's end: all draws of all purses are right -/
theorem law_all {mfr : List D → M D} {N : Int} (hN : 2 ≤ N ∧ N ≤ 60) (h : ∀ u, Pu u → Ok (mfr [.pur]) u fun d _ => d = .bl true) (ns : List Int) (u : PuS) :
    Ok (mFn 2 (mRet (mCB allD (mCons (mFz (mLcO [1] (mIof rng1 (mCons (mCB maxD (mCons (mC (.int 2)) (mCons (mCB minD (mCons (mCB lenD (mCons (mVar 0) (mNil))) (mCons (mC (.int N)) (mNil)))) (mNil)))) (mNil))) (mGn 1) (mYes) (mWith mfr (mCallL 1 mfL__law_purse (mCons (mCall 2 mf__law_cell (mCons (mVar 0) (mCons (mVar 1) (mNil)))) (mNil)))))) (mNil)))) [.scr ns]) u fun d _ => d = .bl true := by
  simp
  obtain ⟨m, hm, hm2⟩ : ∃ m : Nat, (if 2 < (if N < (ns.length : Int) then N else (ns.length : Int)) then (if N < (ns.length : Int) then N else (ns.length : Int)) else 2) = (m : Int) ∧ m ≤ 60 := by
    refine ⟨(if 2 < (if N < (ns.length : Int) then N else (ns.length : Int)) then (if N < (ns.length : Int) then N else (ns.length : Int)) else 2).toNat, ?_, ?_⟩ <;> split <;> split <;> omega
  rw [hm]
  refine ⟨by omega, by rw [rngD_len]; omega, ?_⟩
  refine (ok_lc (fun _ => True) (fun d => d = .bl true) _ _ trivial ?_).mono ?_
  · intro d hd u _
    obtain ⟨i, hi, rfl⟩ : ∃ i : Nat, i < m ∧ d = .int i := by
      obtain ⟨i, hi, e⟩ := List.mem_iff_getElem.mp hd
      rw [rngD_len] at hi
      exact ⟨i, by omega, by rw [← e]; simp [rngD]⟩
    refine ⟨_, rfl, ?_⟩
    simp
    refine ok_with true ?_
    simp
    refine cell_ok (by omega) fun n => ?_
    refine purse_ok fun x s c h1 h2 => ?_
    exact ⟨[x, s, c], rfl, h _ ⟨x, s, c, rfl, h1, h2⟩⟩
  · rintro ys u' ⟨⟨hl, he⟩, -⟩
    have e1 : ys = (List.replicate ys.length true).map D.bl := by
      clear hl
      induction ys with
      | nil => rfl
      | cons a ys ih =>
        have := he a List.mem_cons_self
        subst this
        rw [List.length_cons, List.replicate_succ, List.map_cons, ← ih fun y hy => he y (List.mem_cons_of_mem _ hy)]
    rw [e1]
    show (blsD ((List.replicate ys.length true).map D.bl)).map (fun bs => D.bl (bs.all id)) = _
    rw [blsD_map]
    simp
theorem law_fin {mf : List D → M D} (h : ∀ ns u, Ok (mf [.scr ns]) u fun d _ => d = .bl true) (ns : List Int) (o : HO) (_ : ns.length ≤ 63) : ∃ u', mf [.scr ns] (.idle o) = some (.bl true, u') := by
  obtain ⟨d, u', e, rfl⟩ := h ns (.idle o)
  exact ⟨u', e⟩
end S1



set_option Elab.async false
set_option linter.all false
set_option maxRecDepth 100000
set_option maxHeartbeats 4000000
/-! K4m: the least row among falling rows, plain. -/
namespace P20
open Mi L2
theorem sumN_one {row : List Int} {x : Int} (h : Falls (x :: row)) : sumN row 1 ≤ x := by
  cases row with
  | nil => rw [sumN_nil]; have := h.1 x List.mem_cons_self; omega
  | cons y r =>
    have := h.2 0 x y rfl rfl
    show y + sumN r 0 ≤ x
    have : sumN r 0 = 0 := by cases r <;> rfl
    omega
theorem sumN_ccv : ∀ {row : List Int}, Falls row → ∀ n, sumN row (n + 2) - sumN row (n + 1) ≤ sumN row (n + 1) - sumN row n
  | [], _, n => by simp [sumN_nil]
  | x :: row, h, 0 => by
    have h1 := sumN_one h
    have h2 : sumN (x :: row) 2 = x + sumN row 1 := rfl
    have h3 : sumN (x :: row) 1 = x + sumN row 0 := rfl
    have h4 : sumN row 0 = 0 := by cases row <;> rfl
    have h5 : sumN (x :: row) 0 = 0 := rfl
    show sumN (x :: row) 2 - sumN (x :: row) 1 ≤ sumN (x :: row) 1 - sumN (x :: row) 0
    omega
  | x :: row, h, n + 1 => by
    have ih := sumN_ccv h.tail n
    have h1 : sumN (x :: row) (n + 1 + 2) = x + sumN row (n + 2) := rfl
    have h2 : sumN (x :: row) (n + 1 + 1) = x + sumN row (n + 1) := rfl
    have h3 : sumN (x :: row) (n + 1) = x + sumN row n := rfl
    omega
theorem ccv_many {row : List Int} (h : Falls row) (k : Nat) : ∀ i : Nat, sumN row (k + 1 + i) ≤ sumN row (k + 1) + (i : Int) * (sumN row (k + 1) - sumN row k) ∧ sumN row (k + 1 + i + 1) - sumN row (k + 1 + i) ≤ sumN row (k + 1) - sumN row k
  | 0 => ⟨by simp, sumN_ccv h k⟩
  | i + 1 => by
    obtain ⟨h1, h2⟩ := ccv_many h k i
    have h3 := sumN_ccv h (k + 1 + i)
    refine ⟨?_, by
      show sumN row (k + 1 + i + 2) - sumN row (k + 1 + i + 1) ≤ _
      omega⟩
    rw [show ((i + 1 : Nat) : Int) = (i : Int) + 1 by omega, Int.add_mul, Int.one_mul]
    show sumN row (k + 1 + i + 1) ≤ _
    omega
/-- the least row has the least sums -/
theorem Least.least {t : Int} {ss row other : List Int} (h : Least t ss row) (ho : Falls other) (hc : ∀ (n : Nat) (s : Int), ss[n]? = some s → s ≤ t + sumN other (n + 1)) : ∀ n, sumN row n ≤ sumN other n
  | 0 => by
    have h1 : sumN row 0 = 0 := by cases row <;> rfl
    have h2 : sumN other 0 = 0 := by cases other <;> rfl
    omega
  | k + 1 => by
    have ih := h.least ho hc k
    have hm := sumN_mono (row := other) (fun x hx => by have := ho.1 x hx; omega) k
    by_cases hk : k < row.length
    · have ek : row[k]? = some row[k] := List.getElem?_eq_getElem hk
      obtain ⟨i, s, e1, h1⟩ := h.tight k _ ek
      have h2 := hc _ _ e1
      have h3 := (ccv_many ho k i).1
      have es : sumN row (k + 1) = sumN row k + row[k] := by rw [sumN_app, List.getD_eq_getElem?_getD, ek]; rfl
      rcases Int.lt_or_le (sumN other (k + 1)) (sumN row (k + 1)) with z | z
      · have hd : sumN other (k + 1) - sumN other k ≤ row[k] - 1 := by omega
        have h4 : (i : Int) * (sumN other (k + 1) - sumN other k) ≤ (i : Int) * (row[k] - 1) := Int.mul_le_mul_of_nonneg_left hd (by omega)
        rw [Int.add_mul, Int.one_mul] at h1
        rw [show k + i + 1 = k + 1 + i by omega] at h2
        omega
      · exact z
    · have h1 := sumN_flat row (k + 1) (by omega)
      have h2 := sumN_flat row k (by omega)
      omega
/-! the rows still to be gone through -/
end P20


set_option Elab.async false
set_option linter.all false
set_option maxRecDepth 100000
set_option maxHeartbeats 4000000
/-! W3m: sparing payments, plain. -/
namespace P20
open Mi L2
/-- the parts of the cards at a level -/
def pts (am : List (Int × Int)) (k : Nat) : List Int := am.map fun q => wor q.1 q.2 (k + 1) - wor q.1 q.2 k
theorem pts_sum (am : List (Int × Int)) (k : Nat) : (pts am k).sum = FF am (k + 1) - FF am k := by
  induction am with
  | nil => rfl
  | cons q am ih =>
    rw [FF_cons, FF_cons]
    show (wor q.1 q.2 (k + 1) - wor q.1 q.2 k) + (pts am k).sum = _
    omega
/-- the greatest level with parts for this bill -/
def IsLev (am : List (Int × Int)) (x : Int) (L : Nat) : Prop := (pts am (L + 1)).sum < x ∧ ∀ j, j < L → x ≤ (pts am (j + 1)).sum
theorem IsLev.uniq {am : List (Int × Int)} {x : Int} {L L' : Nat} (h : IsLev am x L) (h' : IsLev am x L') : L = L' := by
  rcases Nat.lt_trichotomy L L' with z | z | z
  · have := h'.2 L z; have := h.1; omega
  · exact z
  · have := h.2 L' z; have := h'.1; omega
/-- the level -/
noncomputable def lev (am : List (Int × Int)) (x : Int) : Nat := by classical exact if h : ∃ L, IsLev am x L then Classical.choose h else 0
theorem IsLev.top {am : List (Int × Int)} {x : Int} {L : Nat} (h : IsLev am x L) (hx : x ≤ FF am 1) (ha : Am am) : x ≤ (pts am L).sum := by
  cases L with
  | zero => rw [pts_sum, FF_zero ha]; show x ≤ FF am (0 + 1) - 0; simpa using hx
  | succ L => exact h.2 L (Nat.lt_succ_self _)
noncomputable def lows (am : List (Int × Int)) (x : Int) : List Int := if x = 0 then am.map (fun _ => 0) else pts am (lev am x + 1)
noncomputable def highs (am : List (Int × Int)) (x : Int) : List Int := if x = 0 then am.map (fun _ => 0) else pts am (lev am x)
/-- a sum is spread between bounds -/
def sprd : Int → List (Int × Int) → List Int
  | _, [] => []
  | r, q :: l => (q.1 + min r (q.2 - q.1)) :: sprd (r - min r (q.2 - q.1)) l
noncomputable def pay (am : List (Int × Int)) (x : Int) : List Int := sprd (x - (lows am x).sum) ((lows am x).zip (highs am x))
/-- a row between bounds -/
def Betw : List Int → List Int → List Int → Prop
  | [], [], [] => True
  | a :: as, y :: ys, b :: bs => a ≤ y ∧ y ≤ b ∧ Betw as ys bs
  | _, _, _ => False
theorem Betw.len : ∀ {as ys bs : List Int}, Betw as ys bs → ys.length = as.length ∧ bs.length = as.length
  | [], [], [], _ => ⟨rfl, rfl⟩
  | _ :: _, _ :: _, _ :: _, h => by
    have := Betw.len h.2.2
    simp [this]
  | [], _ :: _, _, h => by simp [Betw] at h
  | [], [], _ :: _, h => by simp [Betw] at h
  | _ :: _, [], _, h => by simp [Betw] at h
  | _ :: _, _ :: _, [], h => by simp [Betw] at h
def Evs0 (evs : List Ev) : Prop := (∀ q, Sum.inr q ∈ evs → 1 ≤ q.2 ∧ 0 ≤ q.1 ∧ q.1 ≤ 24 * q.2) ∧ ∀ x, Sum.inl x ∈ evs → (0 : Int) ≤ x
theorem Evs0.tail {e : Ev} {evs : List Ev} (h : Evs0 (e :: evs)) : Evs0 evs := ⟨fun q hq => h.1 q (List.mem_cons_of_mem _ hq), fun x hx => h.2 x (List.mem_cons_of_mem _ hx)⟩
end P20


set_option Elab.async false
set_option linter.all false
set_option maxRecDepth 100000
set_option maxHeartbeats 4000000
/-! K5m: what is left behind a payment, and the best that can be left, plain. -/
namespace P20
open Mi L2
/-- the most that can be left -/
def best (am : List (Int × Int)) (x : Int) (k : Nat) : Int := min (FF am k) (FF am (k + 1) - x)
end P20



set_option Elab.async false
set_option linter.all false
set_option maxRecDepth 100000
set_option maxHeartbeats 4000000
/-! K7m: few cards with a given row, plain. -/
namespace P20
open Mi L2
/-- what falls are worth: the first at day d -/
def WW (d : Nat) : List Int → Nat → Int
  | [], _ => 0
  | a :: r, k => a * ((min k d : Nat) : Int) + WW (d + 1) r k
/-- few cards -/
def few : Nat → List Int → List (Int × Int)
  | d, a :: b :: r =>
    if a = 0 then few (d + 1) (b :: r)
    else if b = 0 then ((d : Int) * (a + b) + b, a + b) :: few (d + 1) (b :: r)
    else ((d : Int) * (a + b) + b, a + b) :: few (d + 2) r
  | _, _ => []
termination_by _ l => l.length
end P20


set_option Elab.async false
set_option linter.all false
set_option maxRecDepth 100000
set_option maxHeartbeats 4000000
/-! D8m: one course is no harder than another. -/
namespace P20
/-- so many bills of a course, with this value -/
inductive Pk : List Ev → Nat → Int → Prop
  | nil : Pk [] 0 0
  | card {b l v : Int} {rest : List Ev} {k : Nat} (h : Pk rest k v) : Pk (.inr (b, l) :: rest) k (v - wor b l k)
  | skip {x v : Int} {rest : List Ev} {k : Nat} (h : Pk rest k v) : Pk (.inl x :: rest) k v
  | take {x v : Int} {rest : List Ev} {k : Nat} (h : Pk rest k v) : Pk (.inl x :: rest) (k + 1) (x + v)
theorem Pk.of {i : Int} {evs : List Ev} {s : List Int} {v : Int} (h : Sel i evs s v) : Pk evs s.length v := by
  induction h with
  | nil => exact .nil
  | card h ih => exact .card ih
  | skip h ih => exact .skip ih
  | take h ih => exact .take ih
theorem Pk.sel {evs : List Ev} {k : Nat} {v : Int} (h : Pk evs k v) : ∀ i : Int, ∃ s, Sel i evs s v ∧ s.length = k := by
  induction h with
  | nil => intro i; exact ⟨[], .nil i, rfl⟩
  | card h ih =>
    intro i
    obtain ⟨s, h1, h2⟩ := ih (i + 1)
    subst h2
    exact ⟨s, .card h1, rfl⟩
  | skip h ih => intro i; obtain ⟨s, h1, h2⟩ := ih (i + 1); exact ⟨s, .skip h1, h2⟩
  | take h ih => intro i; obtain ⟨s, h1, h2⟩ := ih (i + 1); exact ⟨i :: s, .take h1, by simp [h2]⟩
def Dom (e e' : List Ev) : Prop := ∀ k v, Pk e k v → ∃ k' v', Pk e' k' v' ∧ k' ≤ k ∧ v ≤ v'
theorem Pk.zero {evs : List Ev} (hc : ∀ q, Sum.inr q ∈ evs → (0 : Int) ≤ q.1) {k : Nat} {v : Int} (h : Pk evs k v) : k = 0 → v = 0 := by
  induction h with
  | nil => intro _; rfl
  | @card b l v rest k h ih =>
    intro e
    have h0 : (0 : Int) ≤ b := hc (b, l) List.mem_cons_self
    have := ih (fun q hq => hc q (List.mem_cons_of_mem _ hq)) e
    subst e
    rw [wor_zero h0]
    omega
  | skip h ih => intro e; exact ih (fun q hq => hc q (List.mem_cons_of_mem _ hq)) e
  | take h ih => intro e; cases e
theorem Falls.of_least {t : Int} {ss row : List Int} (h : Least t ss row) : Falls row := ⟨h.pos, h.falls⟩
theorem asks_at {evs : List Ev} {n : Nat} {s : Int} (h : (asks evs)[n]? = some s) : Pk evs (n + 1) s := by
  unfold asks at h
  rw [List.getElem?_drop, List.getElem?_map] at h
  cases e : (asked 0 evs)[1 + n]? with
  | none => rw [e] at h; cases h
  | some q =>
    rw [e] at h
    cases h
    obtain ⟨h1, h2, _⟩ := (asked_tab evs 0).at_ _ _ _ e
    have := Pk.of h2
    rw [h1, Nat.add_comm] at this
    exact this
theorem asks_le {evs : List Ev} {k : Nat} {v : Int} (h : Pk evs (k + 1) v) : ∃ s, (asks evs)[k]? = some s ∧ v ≤ s := by
  obtain ⟨s', h1, h2⟩ := h.sel 0
  have hl := h1.len
  have hk : k + 1 < (asked 0 evs).length := by rw [asked_len]; omega
  have e : (asked 0 evs)[k + 1]? = some (asked 0 evs)[k + 1] := List.getElem?_eq_getElem hk
  obtain ⟨_, _, h3⟩ := (asked_tab evs 0).at_ _ _ _ e
  refine ⟨_, ?_, h3 s' v h1 h2⟩
  unfold asks
  rw [List.getElem?_drop, List.getElem?_map, Nat.add_comm, e]
  rfl
theorem Dom.form {e e' : List Ev} {row row' : List Int} (hc : ∀ q, Sum.inr q ∈ e' → (0 : Int) ≤ q.1) (h : Dom e e') (r : Least 0 (asks e) row) (r' : Least 0 (asks e') row') : ∀ n, sumN row n ≤ sumN row' n := by
  have hn : ∀ x ∈ row', (0 : Int) ≤ x := fun x hx => Int.le_of_lt (r'.pos x hx)
  refine r.least (Falls.of_least r') fun n s hs => ?_
  obtain ⟨k', v', h1, h2, h3⟩ := h _ _ (asks_at hs)
  have h4 : v' ≤ sumN row' k' := by
    cases k' with
    | zero => rw [h1.zero hc rfl]; simp [sumN]
    | succ k =>
      obtain ⟨s', e1, e2⟩ := asks_le h1
      have := r'.cover k s' e1
      omega
  have h5 := sumN_le hn h2
  omega
theorem Dom.refl (e : List Ev) : Dom e e := fun k v h => ⟨k, v, h, Nat.le_refl _, Int.le_refl _⟩
theorem Dom.trans {a b c : List Ev} (h : Dom a b) (h2 : Dom b c) : Dom a c := fun k v hk => by
  obtain ⟨k', v', h1, h3, h4⟩ := h _ _ hk
  obtain ⟨k2, v2, h5, h6, h7⟩ := h2 _ _ h1
  exact ⟨k2, v2, h5, by omega, by omega⟩
/-! ### bills alone -/
def bl_ (bs : List Int) : List Ev := bs.map Sum.inl
def DomB (a b : List Int) : Prop := ∀ t : List Int, t.Sublist a → ∃ t' : List Int, t'.Sublist b ∧ t'.length ≤ t.length ∧ t.sum ≤ t'.sum
theorem DomB.trans {a b c : List Int} (h : DomB a b) (h2 : DomB b c) : DomB a c := fun t ht => by
  obtain ⟨t', h1, h3, h4⟩ := h _ ht
  obtain ⟨t2, h5, h6, h7⟩ := h2 _ h1
  exact ⟨t2, h5, by omega, by omega⟩
theorem DomB.sub {a b : List Int} (h : a.Sublist b) : DomB a b := fun t ht => ⟨t, ht.trans h, Nat.le_refl _, Int.le_refl _⟩
theorem DomB.perm {a b : List Int} (h : a.Perm b) : DomB a b := by
  induction h with
  | nil => exact fun t ht => ⟨t, ht, Nat.le_refl _, Int.le_refl _⟩
  | cons x h ih =>
    intro t ht
    rcases List.sublist_cons_iff.mp ht with h' | ⟨t', rfl, h'⟩
    · obtain ⟨t2, h1, h2, h3⟩ := ih t h'
      exact ⟨t2, .cons _ h1, h2, h3⟩
    · obtain ⟨t2, h1, h2, h3⟩ := ih t' h'
      exact ⟨x :: t2, .cons₂ _ h1, by simp; omega, by simp; omega⟩
  | swap x y l =>
    intro t ht
    rcases List.sublist_cons_iff.mp ht with h' | ⟨t', rfl, h'⟩
    · rcases List.sublist_cons_iff.mp h' with h2 | ⟨t2, rfl, h2⟩
      · exact ⟨t, .cons _ (.cons _ h2), Nat.le_refl _, Int.le_refl _⟩
      · exact ⟨x :: t2, .cons₂ _ (.cons _ h2), Nat.le_refl _, Int.le_refl _⟩
    · rcases List.sublist_cons_iff.mp h' with h2 | ⟨t2, rfl, h2⟩
      · exact ⟨y :: t', .cons _ (.cons₂ _ h2), Nat.le_refl _, Int.le_refl _⟩
      · exact ⟨x :: y :: t2, .cons₂ _ (.cons₂ _ h2), by simp, by simp; omega⟩
  | trans h1 h2 i1 i2 => exact i1.trans i2
/-- a bill 0 put in -/
theorem DomB.zero (a b : List Int) : DomB (a ++ 0 :: b) (a ++ b) := by
  refine (DomB.perm List.perm_middle).trans fun t ht => ?_
  rcases List.sublist_cons_iff.mp ht with h' | ⟨t', rfl, h'⟩
  · exact ⟨t, h', Nat.le_refl _, Int.le_refl _⟩
  · exact ⟨t', h', by simp, by simp⟩
/-- a bill parted in two -/
theorem DomB.part (a b : List Int) {x p : Int} (h0 : 0 ≤ p) (h1 : p ≤ x) : DomB (a ++ p :: b ++ [x - p]) (a ++ x :: b) := by
  have e : (a ++ p :: b ++ [x - p]).Perm (p :: (x - p) :: (a ++ b)) := by
    refine List.perm_append_comm.trans ?_
    refine (List.Perm.cons _ List.perm_middle).trans ?_
    exact .swap _ _ _
  refine (DomB.perm e).trans (DomB.trans ?_ (DomB.perm (List.perm_middle (l₁ := a) (l₂ := b) (a := x)).symm))
  intro t ht
  rcases List.sublist_cons_iff.mp ht with h' | ⟨t', rfl, h'⟩
  · rcases List.sublist_cons_iff.mp h' with h2 | ⟨t2, rfl, h2⟩
    · exact ⟨t, .cons _ h2, Nat.le_refl _, Int.le_refl _⟩
    · exact ⟨x :: t2, .cons₂ _ h2, by simp, by simp; omega⟩
  · rcases List.sublist_cons_iff.mp h' with h2 | ⟨t2, rfl, h2⟩
    · exact ⟨x :: t', .cons₂ _ h2, by simp, by simp; omega⟩
    · exact ⟨x :: t2, .cons₂ _ h2, by simp, by simp; omega⟩
theorem sub_sum {t a : List Int} (h : t.Sublist a) (h0 : ∀ x ∈ a, (0 : Int) ≤ x) : t.sum ≤ a.sum := by
  induction h with
  | slnil => exact Int.le_refl _
  | cons x h ih =>
    have := ih fun y hy => h0 y (List.mem_cons_of_mem _ hy)
    have := h0 x List.mem_cons_self
    simp; omega
  | cons_cons x h ih =>
    have := ih fun y hy => h0 y (List.mem_cons_of_mem _ hy)
    simp; omega
/-- the first ones made one -/
theorem DomB.join (a b : List Int) (h0 : ∀ x ∈ a, (0 : Int) ≤ x) : DomB (a ++ b) ([a.sum] ++ b) := fun t ht => by
  obtain ⟨t1, t2, rfl, h1, h2⟩ := List.sublist_append_iff.mp ht
  cases t1 with
  | nil => exact ⟨t2, .cons _ h2, by simp, by simp⟩
  | cons y t1 =>
    have := sub_sum h1 h0
    refine ⟨a.sum :: t2, .cons₂ _ h2, by simp, ?_⟩
    rw [List.sum_append, List.sum_cons (a := a.sum)]
    omega
/-! ### one card amid the bills -/
end P20








set_option Elab.async false
set_option linter.all false
set_option maxRecDepth 100000
set_option maxHeartbeats 4000000
/-! F1l: drawn rows with their bounds, repr of plain data, the operators of forms. -/
namespace S1
open PySem L2 Mi P20 Sh
end S1
namespace Sh
open PySem L2 Mi P20
/-! ### repr of plain data -/
def Rp (k n : Nat) (d : D) : Prop := ∃ a, toPD d = some a ∧ a.showable = true ∧ a.hasDict = false ∧ a.depth ≤ k ∧ a.shown.length ≤ n
theorem Rp.mono {k n k' n' : Nat} {d : D} (h : Rp k n d) (hk : k ≤ k') (hn : n ≤ n') : Rp k' n' d := by
  obtain ⟨a, h1, h2, h3, h4, h5⟩ := h
  exact ⟨a, h1, h2, h3, by omega, by omega⟩
theorem Rp.bl (b : Bool) : Rp 0 5 (.bl b) := ⟨.bool b, rfl, rfl, rfl, Nat.le_refl _, by cases b <;> decide⟩
theorem log_of {i : Int} {m : Nat} (h : i.natAbs < 2 ^ m) : i.natAbs.log2 < m + 1 := by
  by_cases z : i.natAbs = 0
  · rw [z]; simp
  · have := (Nat.log2_lt z).mpr h
    omega
theorem Rp.int {i : Int} (h : i.natAbs < 10 ^ 60) : Rp 0 61 (.int i) := by
  refine ⟨.int i, rfl, decide_eq_true ?_, rfl, Nat.le_refl _, ?_⟩
  · have h2 : i.natAbs < 2 ^ 200 := Nat.lt_trans h (by decide)
    have := log_of h2
    omega
  · have e := PySem.int_text_length_le10 (k := 60) (by decide) h
    show (Str.ofString (toString i)).length ≤ 61
    rw [ofString_length]
    exact e
theorem rp_all {k n : Nat} : ∀ {ds : List D}, (∀ d ∈ ds, Rp k n d) → ∃ as, toPDs ds = some as ∧ PyData.showableAll as = true ∧ PyData.hasDictAll as = false ∧ PyData.depthAll as ≤ k ∧ ((PyData.shownAll as).map (·.length)).sum ≤ ds.length * n ∧ (PyData.shownAll as).length = ds.length
  | [], _ => ⟨[], rfl, rfl, rfl, Nat.zero_le _, by simp [PyData.shownAll], rfl⟩
  | d :: ds, h => by
    obtain ⟨a, h1, h2, h3, h4, h5⟩ := h d List.mem_cons_self
    obtain ⟨as, g1, g2, g3, g4, g5, g6⟩ := rp_all fun x hx => h x (List.mem_cons_of_mem _ hx)
    refine ⟨a :: as, ?_, ?_, ?_, ?_, ?_, ?_⟩
    · unfold toPDs; rw [h1, g1]
    · unfold PyData.showableAll; rw [h2, g2]; rfl
    · unfold PyData.hasDictAll; rw [h3, g3]; rfl
    · unfold PyData.depthAll; omega
    · unfold PyData.shownAll
      rw [List.map_cons, List.sum_cons, List.length_cons, Nat.add_mul]
      omega
    · unfold PyData.shownAll; simp [g6]
theorem Rp.lst {k n : Nat} {ds : List D} (h : ∀ d ∈ ds, Rp k n d) : Rp (k + 1) (ds.length * n + 2 * ds.length + 3) (.lst ds) := by
  obtain ⟨as, g1, g2, g3, g4, g5, g6⟩ := rp_all h
  refine ⟨.list as, ?_, ?_, ?_, ?_, ?_⟩
  · unfold toPD; rw [g1]; rfl
  · unfold PyData.showable; exact g2
  · unfold PyData.hasDict; exact g3
  · unfold PyData.depth; omega
  · unfold PyData.shown
    have := listText_len_le (PyData.shownAll as)
    omega
theorem Rp.tup {k n : Nat} {ds : List D} (h : ∀ d ∈ ds, Rp k n d) : Rp (k + 1) (ds.length * n + 2 * ds.length + 3) (.tup ds) := by
  obtain ⟨as, g1, g2, g3, g4, g5, g6⟩ := rp_all h
  refine ⟨.tuple as, ?_, ?_, ?_, ?_, ?_⟩
  · unfold toPD; rw [g1]; rfl
  · unfold PyData.showable; exact g2
  · unfold PyData.hasDict; exact g3
  · unfold PyData.depth; omega
  · unfold PyData.shown
    have := tupleText_len_le (PyData.shownAll as)
    omega
theorem Rp.row {row : List Int} (hl : row.length ≤ 26) (h : ∀ x ∈ row, x.natAbs < 10 ^ 60) : Rp 1 1700 (.tup (row.map D.int)) := by
  refine (Rp.tup (k := 0) (n := 61) fun d hd => ?_).mono (Nat.le_refl _) (by rw [List.length_map]; omega)
  obtain ⟨x, hx, rfl⟩ := List.mem_map.mp hd
  exact Rp.int (h x hx)
end Sh


set_option Elab.async false
set_option linter.all false
set_option maxRecDepth 100000
set_option maxHeartbeats 4000000
/-! Txl: the texts of numbers, cards and courses read back. -/
namespace Sh
open PySem L2 Mi P20 TL
def nT (n : Nat) : Str := Str.ofString (toString ((n : Nat) : Int))
theorem tl_nT (n : Nat) : (nT n).cps.toList = numL n := tl_num n
theorem nT_len (n : Nat) : (nT n).length = (numL n).length := by
  rw [← tl_nT]
  exact Array.length_toList.symm
/-- plain signs -/
def As (x : Str) : Prop := ∀ c ∈ x.cps.toList, c < 128
theorem As.ok {x : Str} (h : As x) : PyData.strOk x = true := by
  unfold PyData.strOk
  rw [← Array.all_toList, List.all_eq_true]
  exact fun c hc => decide_eq_true (by have := h c hc; omega)
theorem str_eqD {a b : Str} (ha : As a) (hb : As b) : eqMD (.str a) (.str b) = some (.bl (decide (a = b))) := by
  unfold eqMD eqD
  have e : ∀ z, toPD (.str z) = some (.str z) := fun z => rfl
  rw [e, e]
  have h : ∀ z, As z → SeqAt.shaped (.str z) = true := fun z hz => by
    show (PyData.strOk z && decide (0 ≤ 64)) = true
    rw [hz.ok]
    rfl
  show Option.map _ (if _ then some (PyData.eqv (.str a) (.str b)) else none) = _
  rw [if_pos ⟨h a ha, h b hb⟩]
  have e2 : PyData.eqv (.str a) (.str b) = decide (a = b) := by
    unfold PyData.eqv
    rw [Bool.eq_iff_iff]
    simp
  rw [e2]
  rfl
theorem str_neD {a b : Str} (ha : As a) (hb : As b) : neMD (.str a) (.str b) = some (.bl (!decide (a = b))) := by
  have := str_eqD ha hb
  unfold eqMD at this
  unfold neMD
  cases h : eqD (.str a) (.str b) with
  | none => rw [h] at this; cases this
  | some c =>
    rw [h] at this
    have : c = decide (a = b) := by simpa using this
    rw [this]
    rfl
theorem nT_as (n : Nat) : As (nT n) := fun c hc => by
  rw [tl_nT] at hc
  have := numL_digits n c hc
  omega
theorem as0 : As "0" := by unfold As; decide
theorem asE : As "" := by unfold As; decide
theorem numL_head {n : Nat} (h : 0 < n) : ∃ c r, numL n = c :: r ∧ c ≠ 48 := by
  induction n using Nat.strongRecOn with
  | _ n ih =>
    by_cases h10 : n < 10
    · exact ⟨48 + n, [], numL_lt h10, by omega⟩
    · obtain ⟨c, r, e, hc⟩ := ih (n / 10) (by omega) (by omega)
      exact ⟨c, r ++ [48 + n % 10], by rw [numL_step (by omega), e]; rfl, hc⟩
theorem number_of_ok {n : Nat} (hn : n < 10 ^ 60) {u : PuS} {P : D → PuS → Prop} (h : P (.int n) u) : Ok (mf_number_of [.str (nT n)]) u P := by
  have hl : (numL n).length ≤ 60 := numL_len (by decide) hn
  have hd := numL_digits n
  have ht := tl_nT n
  have hi : PySem.intText? (nT n) = some (n : Int) := int_num (by omega)
  unfold mf_number_of mb_number_of
  rw [ok_fn]
  refine seq_go fun K R hK hR => ?_
  simp [str_eqD (nT_as n) asE]
  have hne : nT n ≠ Str.ofString "" := fun z => by
    have := congrArg (fun x : Str => x.cps.toList) z
    have h2 : numL n = [] := by rw [← ht]; exact this
    exact numL_ne n h2
  rw [decide_eq_false hne]
  simp only [br_f]
  have hit : itD (.str (nT n)) = some ((numL n).map fun c => D.str ⟨#[c]⟩) := by
    show some ((nT n).cps.toList.map fun c => D.str ⟨#[c]⟩) = _
    rw [ht]
  refine ⟨_, hit, by rw [List.length_map]; omega, ?_⟩
  refine ok_lca (fun c : Nat => [.sh (.str (nT n)), .sh (.str ⟨#[c]⟩)]) (fun c => .bl true) (fun c hc => rfl) (fun c hc => ?_) ?_
  · have hcd := hd c hc
    have e : inD (.str ⟨#[c]⟩) (.str "0123456789") = some (.bl true) := by
      show some (D.bl (decide (c ∈ (Str.ofString "0123456789").cps.toList))) = _
      have : c ∈ (Str.ofString "0123456789").cps.toList := by
        have e10 : (Str.ofString "0123456789").cps.toList = [48, 49, 50, 51, 52, 53, 54, 55, 56, 57] := by decide
        rw [e10]
        have h1 := hcd.1
        have h2 := hcd.2
        simp only [List.mem_cons, List.not_mem_nil, or_false]
        omega
      rw [decide_eq_true this]
    unfold ce_number_of_1
    simp [e]
  have ea : ∀ l : List Nat, allD [.lst (l.map fun _ => D.bl true)] = some (.bl true) := fun l => by
    have e2 : l.map (fun _ => D.bl true) = (l.map fun _ => true).map D.bl := by rw [List.map_map]; rfl
    rw [e2]
    show (blsD _).map (fun bs => D.bl (bs.all id)) = _
    rw [blsD_map]
    simp
  rw [ea]
  refine ⟨_, rfl, _, rfl, ?_⟩
  simp only [br_t]
  refine hK _ _ ?_
  clear hK hR K R
  have e3 : intSD [.str (nT n)] = some (.int n) := by
    show (match PySem.intText? (nT n) with | some m => if (nT n).length ≤ 640 then some (D.int m) else none | none => none) = _
    rw [hi]
    show (if (nT n).length ≤ 640 then some (D.int n) else none) = _
    rw [if_pos (by rw [nT_len]; omega)]
  simp [str_eqD (nT_as n) as0, e3]
  refine brd (fun _ => h) (fun h0 => ?_)
  have hn0 : 0 < n := by
    rcases Nat.eq_zero_or_pos n with z | z
    · subst z
      exact absurd rfl h0
    · exact z
  obtain ⟨c, r, e, hc⟩ := numL_head hn0
  have hix : ixD (.str (nT n)) (.int 0) = some (.str ⟨#[c]⟩) := by
    show (if (nT n).length ≤ 10000000 then (atI (nT n).cps.toList 0).map (fun c => D.str ⟨#[c]⟩) else none) = _
    rw [if_pos (by rw [nT_len]; omega), ht, e]
    have : atI (c :: r) 0 = some c := at_nat (k := 0) rfl
    rw [this]
    rfl
  have hca : As ⟨#[c]⟩ := fun d hd' => by
    have : d = c := by simpa using hd'
    have := hd c (by rw [e]; exact List.mem_cons_self)
    omega
  refine ⟨_, hix, _, str_neD hca as0, _, rfl, ?_⟩
  have : (⟨#[c]⟩ : Str) ≠ "0" := fun z => by
    have := congrArg (fun x : Str => x.cps.toList) z
    have h2 : [c] = [48] := this
    injection h2 with h2
    exact hc h2
  rw [decide_eq_false this]
  exact h
theorem len_tl (x : Str) : x.length = x.cps.toList.length := Array.length_toList.symm
theorem cutS_to1 (x : Str) : (cutS x none (some 1)).cps.toList = x.cps.toList.take 1 := by
  unfold cutS
  rw [show (1 : Int) = ((1 : Nat) : Int) from rfl, HT.sIx_nat, HT.sIx_none, len_tl]
  simp only [List.drop_zero, Nat.sub_zero]
  rcases Nat.le_total 1 x.cps.toList.length with h | h
  · rw [Nat.min_eq_left h]
  · rw [Nat.min_eq_right h, List.take_of_length_le (Nat.le_refl _), List.take_of_length_le h]
theorem cutS_from1 (x : Str) : cutS x (some 1) none = ⟨(x.cps.toList.drop 1).toArray⟩ := by
  unfold cutS
  rw [show (1 : Int) = ((1 : Nat) : Int) from rfl, HT.sIx_nat, HT.sIx_none, len_tl]
  congr 2
  rcases Nat.le_total 1 x.cps.toList.length with h | h
  · rw [Nat.min_eq_left h]
    exact List.take_of_length_le (by simp)
  · rw [Nat.min_eq_right h, List.drop_eq_nil_of_le (Nat.le_refl _), List.drop_eq_nil_of_le h]
    simp
/-- the text of a card -/
def cT (b l : Nat) : Str := Txt.join "/" [nT b, nT l]
theorem tl_cT (b l : Nat) : (cT b l).cps.toList = numL b ++ (47 :: numL l) := by
  show tl (Txt.join "/" [nT b, nT l]) = _
  rw [TL.join_eq, tl_join]
  show tl (nT b) ++ ([47] ++ tl (nT l)) = _
  rw [show tl (nT b) = numL b from tl_nT b, show tl (nT l) = numL l from tl_nT l]
  rfl
theorem split_cT (b l : Nat) : Txt.split (cT b l) "/" = [nT b, nT l] :=
  TL.split_join (y := "/") (s := 47) (S := []) rfl (by decide +kernel) (by simp) fun p hp => by
    rcases List.mem_cons.mp hp with rfl | hp
    · rw [show tl (nT b) = numL b from tl_nT b]; exact numL_free (by omega)
    · rw [List.mem_singleton.mp hp, show tl (nT l) = numL l from tl_nT l]; exact numL_free (by omega)
theorem isi_str (x : Str) : isiD [.str x, .ty "str"] = some (.bl true) := rfl
theorem card_of_ok {b l : Nat} (hb : b < 10 ^ 60) (hl : l < 10 ^ 60) (h1 : 1 ≤ l) (h24 : b ≤ 24 * l) {u : PuS} {P : D → PuS → Prop} (h : P (cardD (b, l)) u) : Ok (mf_card_of [.str (cT b l)]) u P := by
  have lb : (numL b).length ≤ 60 := numL_len (by decide) hb
  have ll : (numL l).length ≤ 60 := numL_len (by decide) hl
  have lc : (cT b l).length ≤ 130 := by
    rw [len_tl, tl_cT]
    simp
    omega
  have es : splD (cT b l) (.str "/") = some (.lst ([nT b, nT l].map D.str)) := by
    show (if _ then some (D.lst ((Txt.split (cT b l) "/").map D.str)) else none) = _
    rw [if_pos ⟨by decide, by omega⟩, split_cT]
  unfold mf_card_of mb_card_of
  rw [ok_fn]
  refine seq_go fun K R hK hR => ?_
  simp [isi_str]
  refine hK _ _ ?_
  clear hK hR K R
  refine seq_go fun K R hK hR => ?_
  simp [mBorLs, ok_S1]
  refine ⟨_, es, ?_⟩
  simp [ce_card_of_1]
  rw [show [D.str (nT b), D.str (nT l)] = [b, l].map (fun n => D.str (nT n)) from rfl]
  refine ok_lca (fun n : Nat => [.sh (.str (cT b l)), .un, .un, .un, .sh (.str (nT n))]) (fun n => .int n) (fun n hn => rfl) (fun n hn => ?_) ?_
  · simp
    refine number_of_ok ?_ ⟨rfl, rfl⟩
    simp at hn
    rcases hn with rfl | rfl
    · exact hb
    · exact hl
  refine hK _ _ ?_
  clear hK hR K R
  have e0 : atI [D.int (b : Nat), D.int (l : Nat)] 0 = some (.int b) := at_nat (k := 0) rfl
  have e1 : atI [D.int (b : Nat), D.int (l : Nat)] 1 = some (.int l) := at_nat (k := 1) rfl
  have i0 : ∀ n : Nat, isD (.int (n : Int)) .non = some (.bl false) := fun n => rfl
  refine seq_go fun K R hK hR => ?_
  simp [e0, e1, i0]
  refine hK _ _ ?_
  clear hK hR K R
  refine seq_go fun K R hK hR => ?_
  simp
  refine hK _ _ ?_
  clear hK hR K R
  simp
  refine brd (fun _ => ?_) (fun z => by omega)
  refine brd (fun _ => ?_) (fun z => by omega)
  exact card_init (by omega) (by omega) (by omega) h
/-- the text of an event -/
def eT : Ev → Str
  | .inl x => nT x.toNat
  | .inr q => ⟨(43 :: (numL q.1.toNat ++ (47 :: numL q.2.toNat))).toArray⟩
def evB : Ev → Prop
  | .inl x => 0 ≤ x ∧ x < 10 ^ 60
  | .inr q => 1 ≤ q.2 ∧ 0 ≤ q.1 ∧ q.1 ≤ 24 * q.2 ∧ q.1 < 10 ^ 60 ∧ q.2 < 10 ^ 60
theorem pow60 {x : Int} (h0 : 0 ≤ x) (h : x < 10 ^ 60) : x.toNat < 10 ^ 60 := by
  have e1 : (10 : Int) ^ 60 = 1000000000000000000000000000000000000000000000000000000000000 := by decide
  have e2 : (10 : Nat) ^ 60 = 1000000000000000000000000000000000000000000000000000000000000 := by decide
  rw [e1] at h
  rw [e2]
  omega
theorem as1 : As "+" := by unfold As; decide
theorem event_of_ok {e : Ev} (he : evB e) {u : PuS} {P : D → PuS → Prop} (h : P (evD e) u) : Ok (mf_event_of [.str (eT e)]) u P := by
  unfold mf_event_of mb_event_of
  rw [ok_fn]
  refine seq_go fun K R hK hR => ?_
  cases e with
  | inl x =>
    have hn := pow60 he.1 he.2
    have hl : (numL x.toNat).length ≤ 60 := numL_len (by decide) hn
    have es : slD (.str (eT (.inl x))) none (some 1) = some (.str (cutS (nT x.toNat) none (some 1))) := if_pos (by show (nT x.toNat).length ≤ _; rw [nT_len]; omega)
    have hne : cutS (nT x.toNat) none (some 1) ≠ "+" := fun z => by
      have h1 := congrArg (fun x : Str => x.cps.toList) z
      have h2 : (numL x.toNat).take 1 = [43] := by rw [← tl_nT, ← cutS_to1]; exact h1
      have h3 : 43 ∈ numL x.toNat := List.mem_of_mem_take (i := 1) (by rw [h2]; exact List.mem_cons_self)
      exact numL_free (by omega) h3
    have has : As (cutS (nT x.toNat) none (some 1)) := fun c hc => by
      rw [cutS_to1] at hc
      exact nT_as _ c (List.mem_of_mem_take hc)
    simp [es, str_eqD has as1, hne]
    refine hK _ _ ?_
    simp
    refine number_of_ok hn ?_
    have : ((x.toNat : Nat) : Int) = x := by have := he.1; omega
    rw [this]
    exact h
  | inr q =>
    obtain ⟨q1, q2, q3, q4, q5⟩ := he
    have hb := pow60 q2 q4
    have hl := pow60 (by omega) q5
    have lb : (numL q.1.toNat).length ≤ 60 := numL_len (by decide) hb
    have ll : (numL q.2.toNat).length ≤ 60 := numL_len (by decide) hl
    have htl : (eT (.inr q)).cps.toList = 43 :: (numL q.1.toNat ++ (47 :: numL q.2.toNat)) := rfl
    have hlen : (eT (.inr q)).length ≤ 10000000 := by
      rw [len_tl, htl]
      simp
      omega
    have es : slD (.str (eT (.inr q))) none (some 1) = some (.str "+") := by
      show (if _ then some (D.str (cutS (eT (.inr q)) none (some 1))) else none) = _
      rw [if_pos hlen]
      have : cutS (eT (.inr q)) none (some 1) = "+" := TL.ext_tl (by
        show (cutS (eT (.inr q)) none (some 1)).cps.toList = _
        rw [cutS_to1, htl]
        rfl)
      rw [this]
    have es2 : slD (.str (eT (.inr q))) (some 1) none = some (.str (cT q.1.toNat q.2.toNat)) := by
      show (if _ then some (D.str (cutS (eT (.inr q)) (some 1) none)) else none) = _
      rw [if_pos hlen]
      congr 2
      refine TL.ext_tl ?_
      show (cutS (eT (.inr q)) (some 1) none).cps.toList = (cT q.1.toNat q.2.toNat).cps.toList
      rw [cutS_from1, htl, tl_cT, List.drop_succ_cons, List.drop_zero]
    simp [es, es2, str_eqD as1 as1]
    refine card_of_ok hb hl (by omega) (by omega) (hR _ _ ?_)
    have e1 : ((q.1.toNat : Nat) : Int) = q.1 := by omega
    have e2 : ((q.2.toNat : Nat) : Int) = q.2 := by omega
    rw [e1, e2]
    exact h
theorem eT_free {e : Ev} : 32 ∉ (eT e).cps.toList := by
  cases e with
  | inl x =>
    show 32 ∉ (nT x.toNat).cps.toList
    rw [tl_nT]
    exact numL_free (by omega)
  | inr q =>
    show 32 ∉ 43 :: (numL q.1.toNat ++ (47 :: numL q.2.toNat))
    intro h
    rcases List.mem_cons.mp h with h | h
    · cases h
    · rcases List.mem_append.mp h with h | h
      · exact numL_free (by omega) h
      · rcases List.mem_cons.mp h with h | h
        · cases h
        · exact numL_free (by omega) h
theorem eT_as {e : Ev} : As (eT e) := by
  cases e with
  | inl x => exact nT_as _
  | inr q =>
    intro c hc
    have hc : c ∈ 43 :: (numL q.1.toNat ++ (47 :: numL q.2.toNat)) := hc
    rcases List.mem_cons.mp hc with h | h
    · omega
    · rcases List.mem_append.mp h with h | h
      · have := numL_digits _ c h; omega
      · rcases List.mem_cons.mp h with h | h
        · omega
        · have := numL_digits _ c h; omega
theorem eT_len {e : Ev} (h : evB e) : (eT e).length ≤ 130 := by
  cases e with
  | inl x =>
    show (nT x.toNat).length ≤ 130
    rw [nT_len]
    have := numL_len (k := 60) (by decide) (pow60 h.1 h.2)
    omega
  | inr q =>
    obtain ⟨q1, q2, q3, q4, q5⟩ := h
    have h1 := numL_len (k := 60) (by decide) (pow60 q2 q4)
    have h2 := numL_len (k := 60) (by decide) (pow60 (by omega) q5)
    rw [len_tl]
    show (43 :: (numL q.1.toNat ++ (47 :: numL q.2.toNat))).length ≤ 130
    simp
    omega
theorem eT_ne {e : Ev} : (eT e).cps.toList ≠ [] := by
  cases e with
  | inl x =>
    show (nT x.toNat).cps.toList ≠ []
    rw [tl_nT]
    exact numL_ne _
  | inr q => exact fun z => by cases z
/-- the text of a course -/
def coT (evs : List Ev) : Str := Txt.join " " (evs.map eT)
theorem coT_as (evs : List Ev) : As (coT evs) := by
  intro c hc
  have hc : c ∈ tl (Txt.join " " (evs.map eT)) := hc
  rw [TL.join_eq, tl_join] at hc
  have key : ∀ l : List Ev, c ∈ joinL [32] ((l.map eT).map tl) → c < 128 := by
    intro l
    induction l with
    | nil => intro h; cases h
    | cons a l ih =>
      intro h
      cases l with
      | nil => exact eT_as c h
      | cons b l =>
        have h : c ∈ tl (eT a) ++ ([32] ++ joinL [32] (((b :: l).map eT).map tl)) := h
        rcases List.mem_append.mp h with h | h
        · exact eT_as c h
        · rcases List.mem_append.mp h with h | h
          · have := List.mem_singleton.mp h; omega
          · exact ih h
  exact key evs hc
theorem coT_len {evs : List Ev} (h : ∀ e ∈ evs, evB e) (hl : evs.length ≤ 20) : (coT evs).length ≤ 3000 := by
  have h3 := StrLaws.join_length_le " " (evs.map eT)
  have : (Str.ofString " ").length = 1 := by decide
  rw [this, List.length_map] at h3
  have h4 : ((evs.map eT).map (·.length)).sum ≤ evs.length * 130 := by
    clear h3 hl
    induction evs with
    | nil => simp
    | cons a l ih =>
      have h5 := eT_len (h a List.mem_cons_self)
      have h6 := ih fun e he => h e (List.mem_cons_of_mem _ he)
      simp only [List.map_cons, List.sum_cons, List.length_cons, Nat.add_mul]
      omega
  have e : coT evs = Str.join " " (evs.map eT) := TL.join_eq _ _
  rw [e]
  omega
theorem coT_ne {evs : List Ev} : coT evs = "" ↔ evs = [] := by
  constructor
  · intro z
    cases evs with
    | nil => rfl
    | cons a l =>
      exfalso
      have h1 : tl (Txt.join " " ((a :: l).map eT)) = [] := by
        have := congrArg tl z
        exact this
      rw [TL.join_eq, tl_join] at h1
      cases l with
      | nil => exact eT_ne h1
      | cons b l =>
        have h1 : tl (eT a) ++ ([32] ++ joinL [32] (((b :: l).map eT).map tl)) = [] := h1
        simp at h1
  · rintro rfl; rfl
theorem course_of_ok {evs : List Ev} (he : ∀ e ∈ evs, evB e) (hk : EvsOk evs) {u : PuS} {P : D → PuS → Prop} (h : P (courD evs) u) : Ok (mf_course_of [.str (coT evs)]) u P := by
  have hl := hk.len
  have hlen := coT_len he (by omega)
  unfold mf_course_of mb_course_of
  rw [ok_fn]
  refine seq_go fun K R hK hR => ?_
  simp [isi_str]
  refine hK _ _ ?_
  clear hK hR K R
  refine seq_cut (fun ρ u' => u' = u ∧ ρ = [.sh (.str (coT evs)), .sh (.tup (evs.map evD)), .un]) ?_ ?_
  · simp [str_neD (coT_as evs) asE, ok_S1]
    cases evs with
    | nil =>
      have : coT [] = Str.ofString "" := rfl
      simp [this]
    | cons a l =>
      have hne : coT (a :: l) ≠ Str.ofString "" := fun z => by cases coT_ne.mp z
      have es : splD (coT (a :: l)) (.str " ") = some (.lst (((a :: l).map eT).map D.str)) := by
        show (if _ then some (D.lst ((Txt.split (coT (a :: l)) " ").map D.str)) else none) = _
        rw [if_pos ⟨by decide, by omega⟩]
        congr 3
        exact TL.split_join (y := " ") (s := 32) (S := []) rfl (by decide +kernel) (by simp) fun p hp => by
          obtain ⟨e, _, rfl⟩ := List.mem_map.mp hp
          exact eT_free
      generalize a :: l = evs at *
      simp [hne]
      refine ⟨_, es, _, rfl, ?_⟩
      refine ⟨by simp; omega, ?_⟩
      rw [List.map_map]
      refine ok_lca (f := D.str ∘ eT) (fun e : Ev => [.sh (.str (coT evs)), .un, .sh (.str (eT e))]) (fun e => evD e) (fun e hx => rfl) (fun e hx => ?_) ⟨rfl, rfl⟩
      unfold ce_course_of_1
      simp
      exact event_of_ok (he e hx) ⟨rfl, rfl⟩
  rintro ρ u' ⟨rfl, rfl⟩
  simp
  refine wrong_event_ok hk ?_
  have e0 : isD .non .non = some (.bl true) := rfl
  refine ⟨_, e0, _, rfl, ?_⟩
  simp only [br_t]
  exact cour_init hk h
theorem cread_ok {evs : List Ev} (he : ∀ e ∈ evs, evB e) (hk : EvsOk evs) {u : PuS} {P : D → PuS → Prop} (h : P (courD evs) u) : Ok (mf_Course_read [.cls "Course", .str (coT evs)]) u P := by
  unfold mf_Course_read mb_Course_read
  rw [ok_fn]
  refine seq_go fun K R hK hR => ?_
  simp
  refine course_of_ok he hk (hK _ _ ?_)
  clear hK hR K R
  have e0 : isD (courD evs) .non = some (.bl false) := rfl
  refine seq_go fun K R hK hR => ?_
  simp [e0]
  refine hK _ _ ?_
  simp
  exact h
theorem cardstr_ok {b l : Nat} (hb : b < 10 ^ 60) (hl : l < 10 ^ 60) {u : PuS} {P : D → PuS → Prop} (h : P (.str (cT b l)) u) : Ok (mf_Card___str__ [cardD (b, l)]) u P := by
  unfold mf_Card___str__ mb_Card___str__ cardD
  have lb : (numL b).length ≤ 60 := numL_len (by decide) hb
  have ll : (numL l).length ≤ 60 := numL_len (by decide) hl
  have lg : ∀ n : Nat, n < 10 ^ 60 → ((n : Nat) : Int).natAbs.log2 < 1920 := fun n hn => by
    have h2 : ((n : Nat) : Int).natAbs < 2 ^ 200 := by
      rw [Int.natAbs_natCast]
      exact Nat.lt_trans hn (by decide)
    have := log_of h2
    omega
  have f1 : fmtD (.int (b : Nat)) = some (.str (nT b)) := if_pos (lg b hb)
  have f2 : fmtD (.int (l : Nat)) = some (.str (nT l)) := if_pos (lg l hl)
  have e1 : Str.empty ++ nT b ++ Str.ofString "/" ++ nT l = cT b l := TL.ext_tl (by
    show tl _ = (cT b l).cps.toList
    rw [tl_append, tl_append, tl_append, tl_cT, show tl (nT b) = numL b from tl_nT b, show tl (nT l) = numL l from tl_nT l]
    have : tl (Str.ofString "/") = [47] := by decide
    have h0 : tl Str.empty = [] := rfl
    rw [this, h0]
    simp)
  have n1 := nT_len b
  have n2 := nT_len l
  have s1 : (Str.ofString "/").length = 1 := by decide
  have s0 : Str.empty.length = 0 := rfl
  simp
  refine ⟨_, f1, _, rfl, by rw [Str.length_append]; omega, by rw [Str.length_append, Str.length_append]; omega, _, f2, _, rfl, by rw [Str.length_append, Str.length_append, Str.length_append]; omega, ?_⟩
  rw [e1]
  exact h
theorem plus_cT (b l : Nat) : Str.empty ++ Str.ofString "+" ++ cT b l = ⟨(43 :: (numL b ++ (47 :: numL l))).toArray⟩ := TL.ext_tl (by
  show tl _ = 43 :: (numL b ++ (47 :: numL l))
  rw [tl_append, tl_append, show tl (cT b l) = _ from tl_cT b l]
  have : tl (Str.ofString "+") = [43] := by decide
  have h0 : tl Str.empty = [] := rfl
  rw [this, h0]
  rfl)
theorem cstr_ok {evs : List Ev} (he : ∀ e ∈ evs, evB e) (hl : evs.length ≤ 20) {u : PuS} {P : D → PuS → Prop} (h : P (.str (coT evs)) u) : Ok (mf_Course___str__ [courD evs]) u P := by
  unfold mf_Course___str__ mb_Course___str__ courD
  simp [ok_join]
  refine ⟨by omega, ?_⟩
  refine ok_lca (fun e : Ev => [.sh (.obj "Course" ["passed"] [.tup (evs.map evD)]), .sh (evD e)]) (fun e => .str (eT e)) (fun e hx => rfl) (fun e hx => ?_) ?_
  · have hb := he e hx
    unfold ce_Course___str___1
    cases e with
    | inl x =>
      have e1 : isiD [evD (.inl x), .cls "Card"] = some (.bl false) := rfl
      have hn := pow60 hb.1 hb.2
      have e2 : strID [evD (.inl x)] = some (.str (eT (.inl x))) := by
        show (if x.natAbs.log2 < 1920 then some (D.str (Str.ofString (toString x))) else none) = _
        have ex : ((x.toNat : Nat) : Int) = x := by have := hb.1; omega
        have h2 : x.natAbs < 2 ^ 200 := by
          have e : x.natAbs = x.toNat := by have := hb.1; omega
          rw [e]
          exact Nat.lt_trans hn (by decide)
        have := log_of h2
        rw [if_pos (by omega)]
        show some (D.str (Str.ofString (toString x))) = some (D.str (Str.ofString (toString ((x.toNat : Nat) : Int))))
        rw [ex]
      simp [e1, e2]
    | inr q =>
      obtain ⟨q1, q2, q3, q4, q5⟩ := hb
      have hb := pow60 q2 q4
      have hl2 := pow60 (by omega) q5
      have e1 : isiD [evD (.inr q), .cls "Card"] = some (.bl true) := rfl
      have ec : evD (.inr q) = cardD ((q.1.toNat : Nat), (q.2.toNat : Nat)) := by
        have e1 : ((q.1.toNat : Nat) : Int) = q.1 := by omega
        have e2 : ((q.2.toNat : Nat) : Int) = q.2 := by omega
        rw [e1, e2]
        rfl
      have lb : (numL q.1.toNat).length ≤ 60 := numL_len (by decide) hb
      have ll : (numL q.2.toNat).length ≤ 60 := numL_len (by decide) hl2
      have lc : (cT q.1.toNat q.2.toNat).length ≤ 130 := by
        rw [len_tl, tl_cT]
        simp
        omega
      have s1 : (Str.ofString "+").length = 1 := by decide
      have s0 : Str.empty.length = 0 := rfl
      simp [e1, ok_strO]
      refine ⟨by rw [Str.length_append]; omega, ?_⟩
      rw [ec]
      show Ok (if (Str.ofString "Card" : Str) = Str.ofString "Card" then mTxt mf_Card___str__ [cardD ((q.1.toNat : Nat), (q.2.toNat : Nat))] else lft none) u _
      rw [if_pos rfl, ok_txt]
      refine cardstr_ok hb hl2 ⟨_, rfl, _, rfl, by rw [Str.length_append, Str.length_append]; omega, ?_, rfl⟩
      exact plus_cT _ _
  have e3 : evs.map (fun e => D.str (eT e)) = (evs.map eT).map D.str := by rw [List.map_map]; rfl
  rw [e3]
  have h4 : ((evs.map eT).map (·.length)).sum ≤ evs.length * 130 := by
    clear e3 h hl
    induction evs with
    | nil => simp
    | cons a l ih =>
      have h5 := eT_len (he a List.mem_cons_self)
      have h6 := ih fun e hx => he e (List.mem_cons_of_mem _ hx)
      simp only [List.map_cons, List.sum_cons, List.length_cons, Nat.add_mul]
      omega
  refine ⟨.str (coT evs), ?_, h⟩
  show (strsD ((evs.map eT).map D.str)).bind _ = _
  rw [strsD_map]
  simp only [Option.bind_some]
  refine if_pos ?_
  have : (Str.ofString " ").length = 1 := by decide
  rw [this, List.length_map]
  omega
end Sh






set_option Elab.async false
set_option linter.all false
set_option maxRecDepth 100000
set_option maxHeartbeats 4000000
namespace Sh
open PySem L2 Mi P20
theorem cour_deep (evs : List Ev) : deepB cardB (.tup (evs.map evD)) = true := by
  show (evs.map evD).all (seqB cardB) = true
  rw [List.all_eq_true]
  intro d hd
  obtain ⟨e, _, rfl⟩ := List.mem_map.mp hd
  cases e <;> rfl
theorem cour_eq_ok {evs : List Ev} {u : PuS} {P : D → PuS → Prop} (h : P (.bl true) u) : Ok (mf_Course___eq__ [courD evs, courD evs]) u P := by
  unfold mf_Course___eq__ mb_Course___eq__ courD
  have e1 : isiD [.obj "Course" ["passed"] [.tup (evs.map evD)], .cls "Course"] = some (.bl true) := rfl
  simp [e1, eqTD_same (cour_deep evs)]
  exact h
end Sh
namespace S2
open PySem L2 Mi P20 Sh
end S2


set_option Elab.async false
set_option linter.all false
set_option maxRecDepth 100000
set_option maxHeartbeats 4000000
namespace G27
open PySem L2 Mi P20 Sh S2 TL
theorem e60 : (10 : Int) ^ 60 = 1000000000000000000000000000000000000000000000000000000000000 := by decide
theorem events_ok {u : PuS} (hu : Pu u) {P : D → PuS → Prop} (h : ∀ evs u', (∀ e ∈ evs, evB e) → nB evs ≤ 12 → nC evs ≤ 6 → Pu u' → P (.lst (evs.map evR)) u') : Ok (mf__law_events_here [.pur]) u P := by
  unfold mf__law_events_here mb__law_events_here
  rw [ok_fn]
  refine seq_go fun K R hK hR => ?_
  simp
  refine draw_ok (by decide) hu fun b u1 b0 b7 hu1 => ?_
  refine draw_ok (by decide) hu1 fun c u2 c0 c4 hu2 => ?_
  refine hK _ _ ?_
  clear hK hR K R
  refine seq_go fun K R hK hR => ?_
  simp
  refine ok_while (fun n ρ u => Pu u ∧ ∃ (evs : List Ev) (b c : Int) (s : Sd), (∀ e ∈ evs, evB e) ∧ 0 ≤ b ∧ 0 ≤ c ∧ (nB evs : Int) + b ≤ 12 ∧ (nC evs : Int) + c ≤ 6 ∧ (n : Int) = b + c ∧ ρ = [.sh .pur, .sh (.int b), .sh (.int c), .ow (evs.map evR), s]) ?_ (b + c).toNat 100000 _ _ (by omega) ⟨hu2, [], b, c, .un, (fun e he => by cases he), b0, c0, by simp [nB]; omega, by simp [nC]; omega, by omega, rfl⟩
  rintro n ρ u ⟨hu, evs, b, c, s, he, hb0, hc0, hb6, hc3, hn, rfl⟩
  simp only [ok_B, ok_bin, ok_var, ok_C, s_vSh, List.getElem?_cons_succ, List.getElem?_cons_zero, Option.some.injEq, exists_eq_left', s_add, s_gt, onB_bl]
  refine brd (fun z => ?_) (fun z => ?_)
  · obtain ⟨m, rfl⟩ : ∃ m, n = m + 1 := ⟨n - 1, by omega⟩
    refine ⟨m, rfl, ?_⟩
    refine st_go fun R0 hR0 => ?_
    have hlen : evs.length < 100000 := by have := nBC evs; omega
    have nxb : ∀ (x : Int) (u' : PuS) (s : Sd), 0 < b → 0 ≤ x → x < 1000000000000000000000000000000 → Pu u' → R0 (.nx [.sh .pur, .sh (.int (b - 1)), .sh (.int c), .ow (evs.map evR ++ [D.int x]), s]) u' := fun x u' s hb hx hxb hu' =>
      hR0 _ _ ⟨hu', evs ++ [.inl x], b - 1, c, s, fun e h' => by
        rcases List.mem_append.mp h' with h' | h'
        · exact he e h'
        · rw [List.mem_singleton.mp h']; exact ⟨hx, by rw [e60]; omega⟩, by omega, hc0, by
          rw [nB_append]
          have : nB [(Sum.inl x : Ev)] = 1 := rfl
          omega, by
          rw [nC_append]
          have : nC [(Sum.inl x : Ev)] = 0 := rfl
          omega, by omega, by simp [evR]⟩
    have nxc : ∀ (x l : Int) (u' : PuS) (s : Sd), 0 < c → 0 ≤ x → x < 1000000000000000000000000000000 → 0 ≤ l → l < 1000000000000000000000000000000 → x ≤ 24 * (1 + l) → Pu u' → R0 (.nx [.sh .pur, .sh (.int b), .sh (.int (c - 1)), .ow (evs.map evR ++ [D.tup [D.int x, D.int (1 + l)]]), s]) u' := fun x l u' s hc hx hxb hl hlb hxl hu' =>
      hR0 _ _ ⟨hu', evs ++ [.inr (x, 1 + l)], b, c - 1, s, fun e h' => by
        rcases List.mem_append.mp h' with h' | h'
        · exact he e h'
        · rw [List.mem_singleton.mp h']; exact ⟨by show 1 ≤ 1 + l; omega, hx, hxl, by show x < _; rw [e60]; omega, by show 1 + l < _; rw [e60]; omega⟩, hb0, by omega, by
          rw [nB_append]
          have : nB [(Sum.inr (x, 1 + l) : Ev)] = 0 := rfl
          omega, by
          rw [nC_append]
          have : nC [(Sum.inr (x, 1 + l) : Ev)] = 1 := rfl
          omega, by omega, by simp [evR, prD]⟩
    unfold lb__law_events_here_1
    simp
    refine draw_ok (by omega) hu fun y u2 y0 y1 hu2 => ?_
    simp
    refine brd (fun hy => ?_) (fun hy => ?_)
    · refine amount_ok hu2 fun x u' x0 x1 hu' => ?_
      exact ⟨hlen, nxb x u' _ (by omega) x0 x1 hu'⟩
    · refine amount_ok hu2 fun l u' l0 l1 hu' => ?_
      simp
      refine amount_ok hu' fun x u3 x0 x1 hu3 => ?_
      simp
      refine ⟨hlen, nxc _ l u3 _ (by omega) ?_ ?_ l0 l1 ?_ hu3⟩
      · split <;> omega
      · split <;> omega
      · split <;> omega
  · refine hK _ _ ?_
    simp
    exact h evs u he (by omega) (by omega) hu
theorem strI {x : Int} (h0 : 0 ≤ x) (h : x < 10 ^ 60) : strID [.int x] = some (.str (nT x.toNat)) := by
  show (if x.natAbs.log2 < 1920 then some (D.str (Str.ofString (toString x))) else none) = _
  have ex : ((x.toNat : Nat) : Int) = x := by omega
  have h2 : x.natAbs < 2 ^ 200 := by
    have e : x.natAbs = x.toNat := by omega
    rw [e]
    exact Nat.lt_trans (pow60 h0 h) (by decide)
  have := log_of h2
  rw [if_pos (by omega)]
  show some (D.str (Str.ofString (toString x))) = some (D.str (Str.ofString (toString ((x.toNat : Nat) : Int))))
  rw [ex]
theorem text_ok {evs : List Ev} (he : ∀ e ∈ evs, evB e) (hl : evs.length ≤ 20) {u : PuS} {P : D → PuS → Prop} (h : P (.str (coT evs)) u) : Ok (mf__law_text [.lst (evs.map evR)]) u P := by
  unfold mf__law_text mb__law_text
  rw [ok_fn]
  refine seq_go fun K R hK hR => ?_
  simp
  refine hK _ _ ?_
  clear hK hR K R
  refine seq_cut (fun ρ u' => u' = u ∧ ∃ a : Sd, ρ = [.sh (.lst (evs.map evR)), .ow ((evs.map eT).map D.str), a]) ?_ ?_
  · simp
    refine ok_list (evs.map evR) (fun k ρ u' => u' = u ∧ ∃ a : Sd, ρ = [.sh (.lst (evs.map evR)), .ow (((evs.take k).map eT).map D.str), a]) ?_ ?_ _ _ ⟨rfl, .un, rfl⟩
    · rintro k d ρ u' e ⟨rfl, a, rfl⟩
      rw [List.getElem?_map] at e
      cases e2 : evs[k]? with
      | none => rw [e2] at e; cases e
      | some ev =>
        rw [e2] at e
        cases e
        have hk : k < evs.length := (List.getElem?_eq_some_iff.mp e2).1
        have hb := he ev (List.mem_of_getElem? e2)
        refine ⟨_, rfl, ?_⟩
        refine st_go fun R0 hR0 => ?_
        have nxt : ∀ a : Sd, R0 (.nx [.sh (.lst (evs.map evR)), .ow (((evs.take k).map eT).map D.str ++ [D.str (eT ev)]), a]) u' := fun a => hR0 _ _ ⟨rfl, a, by
          have et : evs.take (k + 1) = evs.take k ++ [ev] := by
            rw [List.take_succ_eq_append_getElem hk]
            rw [List.getElem?_eq_getElem hk] at e2
            cases e2
            rfl
          rw [et]
          simp⟩
        have hlk : ((evs.take k).map eT).length < 100000 := by simp; omega
        unfold lb__law_text_1
        cases ev with
        | inl x =>
          have e1 : isiD [evR (.inl x), .ty "tuple"] = some (.bl false) := rfl
          have e3 : strID [evR (.inl x)] = some (.str (eT (.inl x))) := strI hb.1 hb.2
          simp [e1, e3, -List.map_map]
          refine ⟨by omega, ?_⟩
          have := nxt (.sh (evR (.inl x)))
          simpa using this
        | inr q =>
          obtain ⟨q1, q2, q3, q4, q5⟩ := hb
          have e1 : isiD [evR (.inr q), .ty "tuple"] = some (.bl true) := rfl
          have i0 : ixD (evR (.inr q)) (.int 0) = some (.int q.1) := at_nat (l := [D.int q.1, D.int q.2]) (k := 0) rfl
          have i1 : ixD (evR (.inr q)) (.int 1) = some (.int q.2) := at_nat (l := [D.int q.1, D.int q.2]) (k := 1) rfl
          have s0 := strI q2 q4
          have s1 := strI (show 0 ≤ q.2 by omega) q5
          simp [e1, i0, i1, s0, s1, -List.map_map]
          have lb : (numL q.1.toNat).length ≤ 60 := TL.numL_len (by decide) (pow60 q2 q4)
          have ll : (numL q.2.toNat).length ≤ 60 := TL.numL_len (by decide) (pow60 (by omega) q5)
          have n1 := nT_len q.1.toNat
          have n2 := nT_len q.2.toNat
          have p1 : (Str.ofString "+").length = 1 := by decide
          have p2 : (Str.ofString "/").length = 1 := by decide
          have ee : Str.ofString "+" ++ nT q.1.toNat ++ Str.ofString "/" ++ nT q.2.toNat = eT (.inr q) := TL.ext_tl (by
            show TL.tl _ = 43 :: (numL q.1.toNat ++ (47 :: numL q.2.toNat))
            rw [TL.tl_append, TL.tl_append, TL.tl_append, show TL.tl (nT q.1.toNat) = numL q.1.toNat from tl_nT _, show TL.tl (nT q.2.toNat) = numL q.2.toNat from tl_nT _]
            have h1 : TL.tl (Str.ofString "/") = [47] := by decide
            have h0 : TL.tl (Str.ofString "+") = [43] := by decide
            rw [h1, h0]
            simp)
          have a1 : addD (D.str (Str.ofString "+")) (D.str (nT q.1.toNat)) = some (.str (Str.ofString "+" ++ nT q.1.toNat)) := if_pos (by omega)
          have a2 : addD (D.str (Str.ofString "+" ++ nT q.1.toNat)) (D.str (Str.ofString "/")) = some (.str (Str.ofString "+" ++ nT q.1.toNat ++ Str.ofString "/")) := if_pos (by rw [Str.length_append]; omega)
          have a3 : addD (D.str (Str.ofString "+" ++ nT q.1.toNat ++ Str.ofString "/")) (D.str (nT q.2.toNat)) = some (.str (Str.ofString "+" ++ nT q.1.toNat ++ Str.ofString "/" ++ nT q.2.toNat)) := if_pos (by rw [Str.length_append, Str.length_append]; omega)
          refine ⟨_, a1, _, a2, _, a3, by omega, ?_⟩
          rw [ee]
          have := nxt (.sh (evR (.inr q)))
          simpa using this
    · rintro ρ u' ⟨rfl, a, rfl⟩
      refine ⟨rfl, a, ?_⟩
      simp
  rintro ρ u' ⟨rfl, a, rfl⟩
  simp [ok_join, -List.map_map]
  have h4 : ((evs.map eT).map (·.length)).sum ≤ evs.length * 130 := by
    clear h hl
    induction evs with
    | nil => simp
    | cons a l ih =>
      have h5 := eT_len (he a List.mem_cons_self)
      have h6 := ih fun e hx => he e (List.mem_cons_of_mem _ hx)
      simp only [List.map_cons, List.sum_cons, List.length_cons, Nat.add_mul]
      omega
  refine ⟨.str (coT evs), ?_, h⟩
  show (strsD ((evs.map eT).map D.str)).bind _ = _
  rw [strsD_map]
  simp only [Option.bind_some]
  refine if_pos ?_
  have : (Str.ofString " ").length = 1 := by decide
  rw [this, List.length_map]
  omega
theorem right_ok {u : PuS} (hu : Pu u) {P : D → PuS → Prop} (hp : ∀ u', P (.bl true) u') : Ok (mf__law_right [.pur]) u P := by
  unfold mf__law_right mb__law_right
  rw [ok_fn]
  refine seq_go fun K R hK hR => ?_
  simp
  refine events_ok hu fun evs u1 he hb hc hu1 => hK _ _ ?_
  clear hK hR K R
  have hk : EvsOk evs := ⟨fun e hx => by
    have := he e hx
    cases e with
    | inl x => exact this.1
    | inr q => exact ⟨this.1, this.2.1, this.2.2.1⟩, hb, hc⟩
  have hl := hk.len
  have hcl := coT_len he (by omega)
  refine seq_go fun K R hK hR => ?_
  simp
  refine course_ok hk ?_
  refine text_ok he (by omega) (hK _ _ ?_)
  clear hK hR K R
  refine seq_go fun K R hK hR => ?_
  simp
  refine cread_ok he hk (hK _ _ ?_)
  clear hK hR K R
  have i1 : isiD [courD evs, .cls "Course"] = some (.bl true) := rfl
  have evo : ∀ {P : D → PuS → Prop} {u : PuS}, P (.tup (evs.map evD)) u → Ok (mf_Course_events [courD evs]) u P := fun {P u} h => by
    unfold mf_Course_events mb_Course_events courD
    simp
    exact h
  have exc : (∃ ks ds, courD evs = .obj "Course" ks ds) ↔ True := ⟨fun _ => trivial, fun _ => ⟨_, _, rfl⟩⟩
  refine seq_go fun K R hK hR => ?_
  simp [i1, exc]
  refine cour_eq_ok ?_
  refine ⟨_, rfl, ?_⟩
  simp
  refine ⟨_, _, rfl, evo ?_⟩
  simp
  refine hK _ _ ?_
  clear hK hR K R
  refine seq_cut (fun ρ u' => u' = u1 ∧ ∃ a b : Sd, ρ = [.sh .pur, .sh (.lst (evs.map evR)), .sh (courD evs), .sh (.str (coT evs)), .sh (courD evs), a, b, .un]) ?_ ?_
  · simp
    refine ⟨by omega, ?_⟩
    refine ok_range 0 evs.length (fun k ρ u' => u' = u1 ∧ ∃ a b : Sd, ρ = [.sh .pur, .sh (.lst (evs.map evR)), .sh (courD evs), .sh (.str (coT evs)), .sh (courD evs), a, b, .un]) ?_ ?_ _ _ ⟨rfl, .un, .un, rfl⟩
    · rintro k ρ v hk' ⟨rfl, a, b, rfl⟩
      refine ⟨_, rfl, ?_⟩
      refine st_go fun R0 hR0 => ?_
      have x1 : atI (evs.map evD) (k : Int) = some (evD evs[k]) := at_nat (by rw [List.getElem?_map, List.getElem?_eq_getElem hk']; rfl)
      have x2 : ixD (.lst (evs.map evR)) (.int (k : Int)) = some (evR evs[k]) := at_nat (by rw [List.getElem?_map, List.getElem?_eq_getElem hk']; rfl)
      unfold lb__law_right_1
      refine seq_go fun K R hK hR => ?_
      simp
      refine ⟨_, _, rfl, evo ?_⟩
      refine ⟨_, x1, hK _ _ ?_⟩
      clear hK hR K R
      cases hev : evs[k] with
      | inl x =>
        rw [hev] at x2
        have j1 : isiD [evR (.inl x), .ty "tuple"] = some (.bl false) := rfl
        have j2 : isiD [evD (.inl x), .ty "bool"] = some (.bl false) := rfl
        have j3 : isiD [evD (.inl x), .ty "int"] = some (.bl true) := rfl
        have j4 : neMD (evD (.inl x)) (evR (.inl x)) = some (.bl false) := by
          show neMD (.int x) (.int x) = _
          simp
        simp [x2, j1, j2, j3, j4]
        exact hR0 _ _ ⟨rfl, _, _, rfl⟩
      | inr q =>
        rw [hev] at x2
        have j1 : isiD [evR (.inr q), .ty "tuple"] = some (.bl true) := rfl
        have j2 : isiD [evD (.inr q), .cls "Card"] = some (.bl true) := rfl
        simp [x2, j1, j2]
        have j3 : neMD (.tup [.int q.1, .int q.2]) (evR (.inr q)) = some (.bl false) := by
          have := s_neT (xs := [q.1, q.2]) (ys := [q.1, q.2])
          simp at this
          exact this
        have cb : ∀ {P : D → PuS → Prop} {u : PuS}, P (.int q.1) u → Ok (mf_Card_balance [evD (.inr q)]) u P := fun {P u} h => by
          unfold mf_Card_balance mb_Card_balance evD cardD
          simp
          exact h
        have cl : ∀ {P : D → PuS → Prop} {u : PuS}, P (.int q.2) u → Ok (mf_Card_limit [evD (.inr q)]) u P := fun {P u} h => by
          unfold mf_Card_limit mb_Card_limit evD cardD
          simp
          exact h
        refine ⟨_, _, rfl, cb ?_⟩
        refine ⟨_, _, rfl, cl ?_⟩
        refine ⟨_, j3, _, rfl, ?_⟩
        exact hR0 _ _ ⟨rfl, _, _, rfl⟩
    · rintro ρ v ⟨rfl, a, b, rfl⟩
      exact ⟨rfl, _, _, rfl⟩
  rintro ρ v ⟨rfl, a, b, rfl⟩
  have eg : gI [0, 1] [D.cls "Course"] [D.str (coT evs)] = [D.cls "Course", D.str (coT evs)] := rfl
  have eg2 : gI [0] [] [D.tup (evs.map evD)] = [D.tup (evs.map evD)] := rfl
  refine seq_go fun K R hK hR => ?_
  simp [eg]
  refine cread_ok he hk ?_
  refine ⟨_, _, rfl, evo ?_⟩
  simp [eg2]
  refine cour_init hk ?_
  refine hK _ _ ?_
  clear hK hR K R
  have eC : D.obj "Course" ["passed"] [.tup (evs.map evD)] = courD evs := rfl
  have e0 : ∀ x y : D, atI [x, y] 0 = some x := fun x y => at_nat (k := 0) rfl
  have e1 : ∀ x y : D, atI [x, y] 1 = some y := fun x y => at_nat (k := 1) rfl
  refine seq_go fun K R hK hR => ?_
  have st : ∀ {P : D → PuS → Prop} {u : PuS}, P (.str (coT evs)) u → Ok ((match courD evs with
      | D.obj c ks ds => if c = Str.ofString "Course" then mTxt mf_Course___str__ [D.obj c ks ds] else lft none
      | _ => lft none : M D)) u P := fun {P u} h => by
    show Ok (if (Str.ofString "Course" : Str) = Str.ofString "Course" then mTxt mf_Course___str__ [courD evs] else lft none) u P
    rw [if_pos rfl, ok_txt]
    exact cstr_ok he (by omega) ⟨_, rfl, h⟩
  simp [e0, e1, eC, exc, ok_strO]
  refine cour_eq_ok ?_
  refine ⟨_, rfl, ?_⟩
  refine cour_eq_ok ?_
  refine ⟨_, rfl, ?_⟩
  refine st ?_
  simp
  refine hK _ _ ?_
  clear hK hR K R
  simp [ok_strO]
  refine st ?_
  simp
  refine st ?_
  simp
  refine st ?_
  refine cread_ok he hk ?_
  refine st ?_
  simp
  exact hp _
theorem hlaw (ns : List Int) (o : HO) (hl : ns.length ≤ 63) : ∃ u', mf_law [.scr ns] (.idle o) = some (.bl true, u') :=
  law_fin (fun ns u => law_all (by decide) (fun u hu => right_ok hu fun _ => rfl) ns u) ns o hl
end G27


set_option Elab.async false
set_option linter.all false
set_option maxRecDepth 100000
set_option maxHeartbeats 4000000
namespace G27
open PySem PySem.Spec PyProof.Rows L2 Mi He Sh S2
def top (i : Nat) : Stmt := PySem.Challenge.pw_sparepay_k27_course_texts_read_back.main.body.getD i (.Pass ⟨0, 0, 0, 0⟩)
def sub (s : Stmt) (j : Nat) : Stmt := match s with
  | .ClassDef _ _ _ b _ _ _ _ _ _ _ => b.getD j (.Pass ⟨0, 0, 0, 0⟩)
  | _ => .Pass ⟨0, 0, 0, 0⟩

@[reducible] def cs : List Str := ["Card", "Course"]
theorem hc_Card : ("Card" : Str) ∈ cs := by decide
theorem hc_Course : ("Course" : Str) ∈ cs := by decide
abbrev st__law_draw : Stmt := (top 26)
def d__law_draw : DefP := ⟨.glob "_law_draw", "_law_draw", "_law_draw", defArgs st__law_draw, defBody st__law_draw, defScope st__law_draw⟩
theorem sc__law_draw : FnScope ["_law_purse_here", "_law_many", "_law_digit", "_law_seed"] ["_law_purse_here", "_law_many"] (defScope st__law_draw) := ⟨rfl, rfl, rfl, by decide +kernel, rfl, by decide +kernel, by decide +kernel⟩
abbrev st__law_wide : Stmt := (top 27)
def d__law_wide : DefP := ⟨.glob "_law_wide", "_law_wide", "_law_wide", defArgs st__law_wide, defBody st__law_wide, defScope st__law_wide⟩
theorem sc__law_wide : FnScope ["_law_purse_here", "_law_size", "_law_value", "_law_turn"] ["_law_purse_here", "_law_size"] (defScope st__law_wide) := ⟨rfl, rfl, rfl, by decide +kernel, rfl, by decide +kernel, by decide +kernel⟩
abbrev st__law_amount : Stmt := (top 28)
def d__law_amount : DefP := ⟨.glob "_law_amount", "_law_amount", "_law_amount", defArgs st__law_amount, defBody st__law_amount, defScope st__law_amount⟩
theorem sc__law_amount : FnScope ["_law_purse_here"] ["_law_purse_here"] (defScope st__law_amount) := ⟨rfl, rfl, rfl, by decide +kernel, rfl, by decide +kernel, by decide +kernel⟩
abbrev st__law_events_here : Stmt := (top 30)
def d__law_events_here : DefP := ⟨.glob "_law_events_here", "_law_events_here", "_law_events_here", defArgs st__law_events_here, defBody st__law_events_here, defScope st__law_events_here⟩
theorem sc__law_events_here : FnScope ["_law_purse_here", "_law_bills", "_law_coming", "_law_found", "_law_limit"] ["_law_purse_here"] (defScope st__law_events_here) := ⟨rfl, rfl, rfl, by decide +kernel, rfl, by decide +kernel, by decide +kernel⟩
abbrev st__law_text : Stmt := (top 31)
def d__law_text : DefP := ⟨.glob "_law_text", "_law_text", "_law_text", defArgs st__law_text, defBody st__law_text, defScope st__law_text⟩
theorem sc__law_text : FnScope ["_law_some", "_law_words", "_law_event"] ["_law_some"] (defScope st__law_text) := ⟨rfl, rfl, rfl, by decide +kernel, rfl, by decide +kernel, by decide +kernel⟩
abbrev st_is_integer : Stmt := (top 12)
def d_is_integer : DefP := ⟨.glob "is_integer", "is_integer", "is_integer", defArgs st_is_integer, defBody st_is_integer, defScope st_is_integer⟩
theorem sc_is_integer : FnScope ["value"] ["value"] (defScope st_is_integer) := ⟨rfl, rfl, rfl, by decide +kernel, rfl, by decide +kernel, by decide +kernel⟩
abbrev st_is_natural : Stmt := (top 13)
def d_is_natural : DefP := ⟨.glob "is_natural", "is_natural", "is_natural", defArgs st_is_natural, defBody st_is_natural, defScope st_is_natural⟩
theorem sc_is_natural : FnScope ["value"] ["value"] (defScope st_is_natural) := ⟨rfl, rfl, rfl, by decide +kernel, rfl, by decide +kernel, by decide +kernel⟩
abbrev st_wrong_event : Stmt := (top 19)
def d_wrong_event : DefP := ⟨.glob "wrong_event", "wrong_event", "wrong_event", defArgs st_wrong_event, defBody st_wrong_event, defScope st_wrong_event⟩
theorem sc_wrong_event : FnScope ["events", "bills", "coming", "index", "event"] ["events"] (defScope st_wrong_event) := ⟨rfl, rfl, rfl, by decide +kernel, rfl, by decide +kernel, by decide +kernel⟩
abbrev st_Course___init__ : Stmt := (sub (top 21) 0)
def d_Course___init__ : DefP := ⟨.meth "Course" "__init__", "__init__", "Course.__init__", defArgs st_Course___init__, defBody st_Course___init__, defScope st_Course___init__⟩
theorem sc_Course___init__ : FnScope ["self", "events", "wrong"] ["self", "events"] (defScope st_Course___init__) := ⟨rfl, rfl, rfl, by decide +kernel, rfl, by decide +kernel, by decide +kernel⟩
abbrev st_Card___init__ : Stmt := (sub (top 16) 0)
def d_Card___init__ : DefP := ⟨.meth "Card" "__init__", "__init__", "Card.__init__", defArgs st_Card___init__, defBody st_Card___init__, defScope st_Card___init__⟩
theorem sc_Card___init__ : FnScope ["self", "balance", "limit"] ["self", "balance", "limit"] (defScope st_Card___init__) := ⟨rfl, rfl, rfl, by decide +kernel, rfl, by decide +kernel, by decide +kernel⟩
abbrev st__law_course : Stmt := (top 29)
def d__law_course : DefP := ⟨.glob "_law_course", "_law_course", "_law_course", defArgs st__law_course, defBody st__law_course, defScope st__law_course⟩
theorem sc__law_course : FnScope ["_law_rows", "_law_row"] ["_law_rows"] (defScope st__law_course) := ⟨rfl, rfl, rfl, by decide +kernel, rfl, by decide +kernel, by decide +kernel⟩
abbrev st_number_of : Stmt := (top 14)
def d_number_of : DefP := ⟨.glob "number_of", "number_of", "number_of", defArgs st_number_of, defBody st_number_of, defScope st_number_of⟩
theorem sc_number_of : FnScope ["text", "sign"] ["text"] (defScope st_number_of) := ⟨rfl, rfl, rfl, by decide +kernel, rfl, by decide +kernel, by decide +kernel⟩
abbrev st_card_of : Stmt := (top 17)
def d_card_of : DefP := ⟨.glob "card_of", "card_of", "card_of", defArgs st_card_of, defBody st_card_of, defScope st_card_of⟩
theorem sc_card_of : FnScope ["text", "numbers", "balance", "limit", "word"] ["text"] (defScope st_card_of) := ⟨rfl, rfl, rfl, by decide +kernel, rfl, by decide +kernel, by decide +kernel⟩
abbrev st_event_of : Stmt := (top 20)
def d_event_of : DefP := ⟨.glob "event_of", "event_of", "event_of", defArgs st_event_of, defBody st_event_of, defScope st_event_of⟩
theorem sc_event_of : FnScope ["word"] ["word"] (defScope st_event_of) := ⟨rfl, rfl, rfl, by decide +kernel, rfl, by decide +kernel, by decide +kernel⟩
abbrev st_course_of : Stmt := (top 22)
def d_course_of : DefP := ⟨.glob "course_of", "course_of", "course_of", defArgs st_course_of, defBody st_course_of, defScope st_course_of⟩
theorem sc_course_of : FnScope ["text", "events", "word"] ["text"] (defScope st_course_of) := ⟨rfl, rfl, rfl, by decide +kernel, rfl, by decide +kernel, by decide +kernel⟩
abbrev st_Course_read : Stmt := (sub (top 21) 2)
def d_Course_read : DefP := ⟨.clsm "Course" "read", "read", "Course.read", defArgs st_Course_read, defBody st_Course_read, defScope st_Course_read⟩
theorem sc_Course_read : FnScope ["cls", "text", "found"] ["cls", "text"] (defScope st_Course_read) := ⟨rfl, rfl, rfl, by decide +kernel, rfl, by decide +kernel, by decide +kernel⟩
abbrev st_Card___eq__ : Stmt := (sub (top 16) 8)
def d_Card___eq__ : DefP := ⟨.meth "Card" "__eq__", "__eq__", "Card.__eq__", defArgs st_Card___eq__, defBody st_Card___eq__, defScope st_Card___eq__⟩
theorem sc_Card___eq__ : FnScope ["self", "other"] ["self", "other"] (defScope st_Card___eq__) := ⟨rfl, rfl, rfl, by decide +kernel, rfl, by decide +kernel, by decide +kernel⟩
abbrev st_Course___eq__ : Stmt := (sub (top 21) 9)
def d_Course___eq__ : DefP := ⟨.meth "Course" "__eq__", "__eq__", "Course.__eq__", defArgs st_Course___eq__, defBody st_Course___eq__, defScope st_Course___eq__⟩
theorem sc_Course___eq__ : FnScope ["self", "other"] ["self", "other"] (defScope st_Course___eq__) := ⟨rfl, rfl, rfl, by decide +kernel, rfl, by decide +kernel, by decide +kernel⟩
abbrev st_Course_events : Stmt := (sub (top 21) 3)
def d_Course_events : DefP := ⟨.prop "Course" "events", "events", "Course.events", defArgs st_Course_events, defBody st_Course_events, defScope st_Course_events⟩
theorem sc_Course_events : FnScope ["self"] ["self"] (defScope st_Course_events) := ⟨rfl, rfl, rfl, by decide +kernel, rfl, by decide +kernel, by decide +kernel⟩
abbrev st_Card_limit : Stmt := (sub (top 16) 3)
def d_Card_limit : DefP := ⟨.prop "Card" "limit", "limit", "Card.limit", defArgs st_Card_limit, defBody st_Card_limit, defScope st_Card_limit⟩
theorem sc_Card_limit : FnScope ["self"] ["self"] (defScope st_Card_limit) := ⟨rfl, rfl, rfl, by decide +kernel, rfl, by decide +kernel, by decide +kernel⟩
abbrev st_Card_balance : Stmt := (sub (top 16) 2)
def d_Card_balance : DefP := ⟨.prop "Card" "balance", "balance", "Card.balance", defArgs st_Card_balance, defBody st_Card_balance, defScope st_Card_balance⟩
theorem sc_Card_balance : FnScope ["self"] ["self"] (defScope st_Card_balance) := ⟨rfl, rfl, rfl, by decide +kernel, rfl, by decide +kernel, by decide +kernel⟩
abbrev st_Card___str__ : Stmt := (sub (top 16) 9)
def d_Card___str__ : DefP := ⟨.meth "Card" "__str__", "__str__", "Card.__str__", defArgs st_Card___str__, defBody st_Card___str__, defScope st_Card___str__⟩
theorem sc_Card___str__ : FnScope ["self"] ["self"] (defScope st_Card___str__) := ⟨rfl, rfl, rfl, by decide +kernel, rfl, by decide +kernel, by decide +kernel⟩
abbrev st_Course___str__ : Stmt := (sub (top 21) 10)
def d_Course___str__ : DefP := ⟨.meth "Course" "__str__", "__str__", "Course.__str__", defArgs st_Course___str__, defBody st_Course___str__, defScope st_Course___str__⟩
theorem sc_Course___str__ : FnScope ["self", "event"] ["self"] (defScope st_Course___str__) := ⟨rfl, rfl, rfl, by decide +kernel, rfl, by decide +kernel, by decide +kernel⟩
abbrev st__law_right : Stmt := (top 32)
def d__law_right : DefP := ⟨.glob "_law_right", "_law_right", "_law_right", defArgs st__law_right, defBody st__law_right, defScope st__law_right⟩
theorem sc__law_right : FnScope ["_law_purse_here", "_law_some", "_law_mine", "_law_text_here", "_law_read", "_law_k", "_law_told", "_law_again"] ["_law_purse_here"] (defScope st__law_right) := ⟨rfl, rfl, rfl, by decide +kernel, rfl, by decide +kernel, by decide +kernel⟩
abbrev st__law_purse : Stmt := (top 25)
def d__law_purse : DefP := ⟨.glob "_law_purse", "_law_purse", "_law_purse", defArgs st__law_purse, defBody st__law_purse, defScope st__law_purse⟩
theorem sc__law_purse : FnScope ["_law_script", "_law_spot", "_law_seed", "_law_cell", "_law_own"] ["_law_script", "_law_spot"] (defScope st__law_purse) := ⟨rfl, rfl, rfl, by decide +kernel, rfl, by decide +kernel, by decide +kernel⟩
abbrev st_law : Stmt := (top 33)
def d_law : DefP := ⟨.glob "law", "law", "law", defArgs st_law, defBody st_law, defScope st_law⟩
theorem sc_law : FnScope ["_law_script", "_law_spot"] ["_law_script"] (defScope st_law) := ⟨rfl, rfl, rfl, by decide +kernel, rfl, by decide +kernel, by decide +kernel⟩
def fa : List Ft := [
  .isi cs,
  .b (.free "len"),
  .b (.free "min"),
  .b (.free "max"),
  .b (.free "range"),
  .b (.free "divmod"),
  .b (.free "int"),
  .b (.glo "_law_draw"),
  .b (.glo "_law_wide"),
  .b (.glo "_law_amount"),
  .b (.glo "_law_events_here"),
  .b (.free "tuple"),
  .b (.free "isinstance"),
  .b (.free "str"),
  .b (.glo "_law_text"),
  .b (.free "enumerate"),
  .b (.glo "Card"),
  .b (.free "bool"),
  .b (.glo "is_integer"),
  .b (.glo "is_natural"),
  .b (.int "MOST_BILLS" 12),
  .b (.int "MOST_COMING" 6),
  .b (.glo "wrong_event"),
  .b (.noat "Course" "passed"),
  .b (.cls "Course"),
  .b (.mkr "Course"),
  .b (.int "MOST_DAYS" 24),
  .b (.noat "Card" "held"),
  .b (.cls "Card"),
  .b (.noat "Card" "daily"),
  .b (.mkr "Card"),
  .b (.glo "Course"),
  .b (.glo "_law_course"),
  .b (.str "DIGITS" "0123456789"),
  .b (.free "all"),
  .b (.glo "number_of"),
  .b (.glo "card_of"),
  .b (.glo "event_of"),
  .b (.glo "course_of"),
  .clsm "Course" "read",
  .eqc "Card",
  .eqc "Course",
  .prop "Course" "events",
  .prop "Card" "limit",
  .prop "Card" "balance",
  .raw (ownFmB "Card"),
  .raw (ownB "Course" "__str__"),
  .b (.free "abs"),
  .b (.glo "_law_purse"),
  .b (.glo "_law_right"),
  .b (.glo "law"),
  .raw noListsB]
def fn : List DefP := [d__law_draw, d__law_wide, d__law_amount, d__law_events_here, d__law_text, d_is_integer, d_is_natural, d_wrong_event, d_Course___init__, d_Card___init__, d__law_course, d_number_of, d_card_of, d_event_of, d_course_of, d_Course_read, d_Card___eq__, d_Course___eq__, d_Course_events, d_Card_limit, d_Card_balance, d_Card___str__, d_Course___str__, d__law_right, d__law_purse, d_law]
section
variable {P : Program} {w : World} {K : PySem.W.Frag} {mg : Str → Option Value} {base : Heap}

theorem kb_Course___init___1_events (C : HF fa fn K mg) : KBn K (fdOf K (Pl.ad K (.meth "Course" "__init__"))) ["self", "events"] 1 ["events"] (gI [0, 1]) (gI [0, 1]) := (C.fun_ 8 (d := d_Course___init__) rfl).kb0 1 ["events"] [0, 1] fun _ _ _ _ _ _ us ws h1 h2 => match us, ws, h1, h2 with | [_], [_], _, _ => rfl
theorem kb_Course_read_1_text (C : HF fa fn K mg) : KBn K (fdOf K (Pl.ad K (.clsm "Course" "read"))) ["cls", "text"] 1 ["text"] (gI [0, 1]) (gI [0, 1]) := (C.fun_ 15 (d := d_Course_read) rfl).kb0 1 ["text"] [0, 1] fun _ _ _ _ _ _ us ws h1 h2 => match us, ws, h1, h2 with | [_], [_], _, _ => rfl
theorem bi__law_draw {K : PySem.W.Frag} {mg : Str → Option Value} (C : HF fa fn K mg) : Binds K (fdOf K (Pl.ad K (.glob "_law_draw"))) ["_law_purse_here", "_law_many"] [] := (C.fun_ 0 (d := d__law_draw) rfl).bindsN fun _ _ _ _ _ _ us hl => match us, hl with | [_, _], _ => rfl
theorem ok__law_draw (C : HF fa fn K mg) : FO cs P w K mg base 1 (.glob "_law_draw") ["_law_purse_here", "_law_many"] 2 mf__law_draw := by
  have f_divmod := C.free 5 rfl
  have f_int := C.free 6 rfl
  have sc := sc__law_draw
  refine fn_mir (C.fun_ 0 (d := d__law_draw) rfl) sc__law_draw fun cdv A outer s H E p F0 hr => ?_
  exact dBcons (dIfS (dTcmp op_gt m_gt (dIxP 0 (dInt)) (dInt) (nomark _)) (dBcons (dDmP 0 2 rfl (dCallB m_dm call_divmodW rfl f_divmod bb_divmod (dCons (dIxP 0 (dInt)) (dCons (dVar 1) (dNil)))) (dInt) sc.nd rfl (by first | exact Or.inl rfl | exact Or.inr rfl)) (dBone (dRet (dVar 2)))) (dBnil)) (dBcons (dSet (i := 3) sc.nd rfl (by first | exact Or.inl rfl | exact Or.inr rfl) (dCallT m_int1 call_int1 rfl f_int bb_int (dCons (dIxP 0 (dInt)) (dNil)))) (dBcons (dPutP 0 (dBin op_mod m_mod (dCallT m_int1 call_int1 rfl f_int bb_int (dCons (dBin op_addA m_add (dBin op_mulA m_mul (dVar 3) (dBin op_addA m_add (dBin op_mod m_mod (dCallT m_int1 call_int1 rfl f_int bb_int (dCons (dVar 3) (dNil))) (dInt)) (dInt))) (dInt)) (dNil))) (dInt)) (dInt)) (dBone (dRet (dBin op_mod m_mod (dCallT m_int1 call_int1 rfl f_int bb_int (dCons (dBin op_fdivW m_fdiv (dIxP 0 (dInt)) (dInt)) (dNil))) (dVar 1))))))
theorem bi__law_wide {K : PySem.W.Frag} {mg : Str → Option Value} (C : HF fa fn K mg) : Binds K (fdOf K (Pl.ad K (.glob "_law_wide"))) ["_law_purse_here", "_law_size"] [] := (C.fun_ 1 (d := d__law_wide) rfl).bindsN fun _ _ _ _ _ _ us hl => match us, hl with | [_, _], _ => rfl
theorem ok__law_wide (C : HF fa fn K mg) : FO cs P w K mg base 2 (.glob "_law_wide") ["_law_purse_here", "_law_size"] 2 mf__law_wide := by
  have G__law_draw := ok__law_draw (P := P) (w := w) (base := base) C
  have F__law_draw := C.fun_ 0 (d := d__law_draw) rfl
  have B__law_draw := bi__law_draw C
  have g__law_draw := C.glo 7 rfl
  have f_range := C.free 4 rfl
  have f_int := C.free 6 rfl
  have sc := sc__law_wide
  refine fn_mir (C.fun_ 1 (d := d__law_wide) rfl) sc__law_wide fun cdv A outer s H E p F0 hr => ?_
  exact dBcons (dIfS (PW.pt (dOrT (dTcmp op_lt m_lt (dVar 1) (dInt) (nomark _)) (dOr1 (dTcmp op_gt m_gt (dIxP 0 (dInt)) (dInt) (nomark _))))) (dBone (dRet (dCall G__law_draw (hr.mono (by decide)) rfl g__law_draw F__law_draw.kp B__law_draw (dCons (dVar 0) (dCons (dVar 1) (dNil)))))) (dBnil)) (dBcons (dSet (i := 2) sc.nd rfl (by first | exact Or.inl rfl | exact Or.inr rfl) (dInt)) (dBcons (dFor PassesOwn.never rfl (dIrng1 rfl f_range (dCons (dInt) (dNil))) (dGn (i := 3) sc.nd rfl (by first | exact Or.inl rfl | exact Or.inr rfl)) (dBone (dSet (i := 2) sc.nd rfl (by first | exact Or.inl rfl | exact Or.inr rfl) (dBin op_addA m_add (dBin op_mulA m_mul (dVar 2) (dInt)) (dCall G__law_draw (hr.mono (by decide)) rfl g__law_draw F__law_draw.kp B__law_draw (dCons (dVar 0) (dCons (dInt) (dNil)))))))) (dBone (dRet (dBin op_mod m_mod (dCallT m_int1 call_int1 rfl f_int bb_int (dCons (dVar 2) (dNil))) (dVar 1))))))
theorem bi__law_amount {K : PySem.W.Frag} {mg : Str → Option Value} (C : HF fa fn K mg) : Binds K (fdOf K (Pl.ad K (.glob "_law_amount"))) ["_law_purse_here"] [] := (C.fun_ 2 (d := d__law_amount) rfl).bindsN fun _ _ _ _ _ _ us hl => match us, hl with | [_], _ => rfl
theorem ok__law_amount (C : HF fa fn K mg) : FO cs P w K mg base 3 (.glob "_law_amount") ["_law_purse_here"] 1 mf__law_amount := by
  have G__law_wide := ok__law_wide (P := P) (w := w) (base := base) C
  have F__law_wide := C.fun_ 1 (d := d__law_wide) rfl
  have B__law_wide := bi__law_wide C
  have G__law_draw := ok__law_draw (P := P) (w := w) (base := base) C
  have F__law_draw := C.fun_ 0 (d := d__law_draw) rfl
  have B__law_draw := bi__law_draw C
  have g__law_draw := C.glo 7 rfl
  have g__law_wide := C.glo 8 rfl
  have sc := sc__law_amount
  refine fn_mir (C.fun_ 2 (d := d__law_amount) rfl) sc__law_amount fun cdv A outer s H E p F0 hr => ?_
  exact dBone (dRet (dCall G__law_wide (hr.mono (by decide)) rfl g__law_wide F__law_wide.kp B__law_wide (dCons (dVar 0) (dCons (dIx ix_seq m_ix (dFz (dLstO (dCons (dInt) (dCons (dInt) (dCons (dInt) (dCons (dBin op_pow m_pow (dInt) (dInt)) (dCons (dBin op_pow m_pow (dInt) (dInt)) (dCons (dBin op_pow m_pow (dInt) (dInt)) (dNil))))))))) (dCall G__law_draw (hr.mono (by decide)) rfl g__law_draw F__law_draw.kp B__law_draw (dCons (dVar 0) (dCons (dInt) (dNil))))) (dNil)))))
theorem bi__law_events_here {K : PySem.W.Frag} {mg : Str → Option Value} (C : HF fa fn K mg) : Binds K (fdOf K (Pl.ad K (.glob "_law_events_here"))) ["_law_purse_here"] [] := (C.fun_ 3 (d := d__law_events_here) rfl).bindsN fun _ _ _ _ _ _ us hl => match us, hl with | [_], _ => rfl
theorem ok__law_events_here (C : HF fa fn K mg) : FO cs P w K mg base 4 (.glob "_law_events_here") ["_law_purse_here"] 1 mf__law_events_here := by
  have G__law_draw := ok__law_draw (P := P) (w := w) (base := base) C
  have F__law_draw := C.fun_ 0 (d := d__law_draw) rfl
  have B__law_draw := bi__law_draw C
  have g__law_draw := C.glo 7 rfl
  have G__law_amount := ok__law_amount (P := P) (w := w) (base := base) C
  have F__law_amount := C.fun_ 2 (d := d__law_amount) rfl
  have B__law_amount := bi__law_amount C
  have g__law_amount := C.glo 9 rfl
  have f_min := C.free 2 rfl
  have sc := sc__law_events_here
  refine fn_mir (C.fun_ 3 (d := d__law_events_here) rfl) sc__law_events_here fun cdv A outer s H E p F0 hr => ?_
  exact dBcons (dPar3 (i := 1) (j := 2) (l := 3) rfl sc.nd rfl rfl rfl (by decide) (by decide) (by decide) rfl rfl rfl (dMsh (dCall G__law_draw (hr.mono (by decide)) rfl g__law_draw F__law_draw.kp B__law_draw (dCons (dVar 0) (dCons (dInt) (dNil)))) (dMsh (dCall G__law_draw (hr.mono (by decide)) rfl g__law_draw F__law_draw.kp B__law_draw (dCons (dVar 0) (dCons (dInt) (dNil)))) (dMow (dLstO (dNil)) (dMnil))))) (dBcons (dWhile 100000 PassesOwn.never (dTcmp op_gt m_gt (dBin op_addA m_add (dVar 1) (dVar 2)) (dInt) (nomark _)) (dBone (dIfS (dTcmp op_lt m_lt (dCall G__law_draw (hr.mono (by decide)) rfl g__law_draw F__law_draw.kp B__law_draw (dCons (dVar 0) (dCons (dBin op_addA m_add (dVar 1) (dVar 2)) (dNil)))) (dVar 1) (nomark _)) (dBcons (dSet (i := 1) sc.nd rfl (by first | exact Or.inl rfl | exact Or.inr rfl) (dBin op_sub m_sub (dVar 1) (dInt))) (dBone (dApp 3 (dCall G__law_amount (hr.mono (by decide)) rfl g__law_amount F__law_amount.kp B__law_amount (dCons (dVar 0) (dNil)))))) (dBcons (dSet (i := 2) sc.nd rfl (by first | exact Or.inl rfl | exact Or.inr rfl) (dBin op_sub m_sub (dVar 2) (dInt))) (dBcons (dSet (i := 4) sc.nd rfl (by first | exact Or.inl rfl | exact Or.inr rfl) (dBin op_addA m_add (dInt) (dCall G__law_amount (hr.mono (by decide)) rfl g__law_amount F__law_amount.kp B__law_amount (dCons (dVar 0) (dNil))))) (dBone (dApp 3 (dTup (dCons (dCallB m_min (cr_minA rfl) rfl f_min bb_min (dCons (dCall G__law_amount (hr.mono (by decide)) rfl g__law_amount F__law_amount.kp B__law_amount (dCons (dVar 0) (dNil))) (dCons (dBin op_mulA m_mul (dInt) (dVar 4)) (dNil)))) (dCons (dVar 4) (dNil))))))))))) (dBone (dFrzS 3 (dRet (dVar 3)))))
theorem bi__law_text {K : PySem.W.Frag} {mg : Str → Option Value} (C : HF fa fn K mg) : Binds K (fdOf K (Pl.ad K (.glob "_law_text"))) ["_law_some"] [] := (C.fun_ 4 (d := d__law_text) rfl).bindsN fun _ _ _ _ _ _ us hl => match us, hl with | [_], _ => rfl
theorem ok__law_text (C : HF fa fn K mg) : FO cs P w K mg base 1 (.glob "_law_text") ["_law_some"] 1 mf__law_text := by
  have isi := isi_ok (C.fact 0 rfl)
  have f_tuple := C.free 11 rfl
  have f_isinstance := C.free 12 rfl
  have f_str := C.free 13 rfl
  have sc := sc__law_text
  refine fn_mir (C.fun_ 4 (d := d__law_text) rfl) sc__law_text fun cdv A outer s H E p F0 hr => ?_
  exact dBcons (dSetO (i := 1) sc.nd rfl (by first | exact Or.inl rfl | exact Or.inr rfl) (dLstO (dNil))) (dBcons (dFor PassesOwn.never rfl (dIany (dVar 0)) (dGn (i := 2) sc.nd rfl (by first | exact Or.inl rfl | exact Or.inr rfl)) (dBone (dIfS (dTst (dCallB (m_isi isi) call_isi rfl f_isinstance bb_isinstance (dCons (dVar 2) (dCons (dTy rfl f_tuple bb_tuple) (dNil))))) (dBone (dApp 1 (dBin op_addA m_add (dBin op_addA m_add (dBin op_addA m_add (dStr) (dCallT m_strI call_str_int rfl f_str bb_str (dCons (dIx ix_seq m_ix (dVar 2) (dInt)) (dNil)))) (dStr)) (dCallT m_strI call_str_int rfl f_str bb_str (dCons (dIx ix_seq m_ix (dVar 2) (dInt)) (dNil)))))) (dBone (dApp 1 (dCallT m_strI call_str_int rfl f_str bb_str (dCons (dVar 2) (dNil)))))))) (dBone (dFrzS 1 (dRet (dJoin (dStr) (dVar 1))))))
theorem bi_is_integer {K : PySem.W.Frag} {mg : Str → Option Value} (C : HF fa fn K mg) : Binds K (fdOf K (Pl.ad K (.glob "is_integer"))) ["value"] [] := (C.fun_ 5 (d := d_is_integer) rfl).bindsN fun _ _ _ _ _ _ us hl => match us, hl with | [_], _ => rfl
theorem ok_is_integer (C : HF fa fn K mg) : FO cs P w K mg base 1 (.glob "is_integer") ["value"] 1 mf_is_integer := by
  have isi := isi_ok (C.fact 0 rfl)
  have f_int := C.free 6 rfl
  have f_isinstance := C.free 12 rfl
  have f_bool := C.free 17 rfl
  have sc := sc_is_integer
  refine fn_mir (C.fun_ 5 (d := d_is_integer) rfl) sc_is_integer fun cdv A outer s H E p F0 hr => ?_
  exact dBone (dRet (dAndV (dCallB (m_isi isi) call_isi rfl f_isinstance bb_isinstance (dCons (dVar 0) (dCons (dTy rfl f_int bb_int) (dNil)))) (dOneV (dNotV (dCallB (m_isi isi) call_isi rfl f_isinstance bb_isinstance (dCons (dVar 0) (dCons (dTy rfl f_bool bb_bool) (dNil))))))))
theorem bi_is_natural {K : PySem.W.Frag} {mg : Str → Option Value} (C : HF fa fn K mg) : Binds K (fdOf K (Pl.ad K (.glob "is_natural"))) ["value"] [] := (C.fun_ 6 (d := d_is_natural) rfl).bindsN fun _ _ _ _ _ _ us hl => match us, hl with | [_], _ => rfl
theorem ok_is_natural (C : HF fa fn K mg) : FO cs P w K mg base 2 (.glob "is_natural") ["value"] 1 mf_is_natural := by
  have G_is_integer := ok_is_integer (P := P) (w := w) (base := base) C
  have F_is_integer := C.fun_ 5 (d := d_is_integer) rfl
  have B_is_integer := bi_is_integer C
  have g_is_integer := C.glo 18 rfl
  have sc := sc_is_natural
  refine fn_mir (C.fun_ 6 (d := d_is_natural) rfl) sc_is_natural fun cdv A outer s H E p F0 hr => ?_
  exact dBone (dRet (dAndV (dCall G_is_integer (hr.mono (by decide)) rfl g_is_integer F_is_integer.kp B_is_integer (dCons (dVar 0) (dNil))) (dOneV (dCmp op_ge m_ge (dVar 0) (dInt) (nomark _)))))
theorem bi_wrong_event {K : PySem.W.Frag} {mg : Str → Option Value} (C : HF fa fn K mg) : Binds K (fdOf K (Pl.ad K (.glob "wrong_event"))) ["events"] [] := (C.fun_ 7 (d := d_wrong_event) rfl).bindsN fun _ _ _ _ _ _ us hl => match us, hl with | [_], _ => rfl
theorem ok_wrong_event (C : HF fa fn K mg) : FO cs P w K mg base 3 (.glob "wrong_event") ["events"] 1 mf_wrong_event := by
  have f_enumerate := C.free 15 rfl
  have isi := isi_ok (C.fact 0 rfl)
  have g_Card := C.glo 16 rfl
  have f_isinstance := C.free 12 rfl
  have G_is_natural := ok_is_natural (P := P) (w := w) (base := base) C
  have F_is_natural := C.fun_ 6 (d := d_is_natural) rfl
  have B_is_natural := bi_is_natural C
  have g_is_natural := C.glo 19 rfl
  obtain ⟨_, k_MOST_BILLS⟩ := C.int 20 rfl
  obtain ⟨_, k_MOST_COMING⟩ := C.int 21 rfl
  have sc := sc_wrong_event
  refine fn_mir (C.fun_ 7 (d := d_wrong_event) rfl) sc_wrong_event fun cdv A outer s H E p F0 hr => ?_
  exact dBcons (dSet (i := 1) sc.nd rfl (by first | exact Or.inl rfl | exact Or.inr rfl) (dInt)) (dBcons (dSet (i := 2) sc.nd rfl (by first | exact Or.inl rfl | exact Or.inr rfl) (dInt)) (dBcons (dFor PassesOwn.never rfl (dIenumA rfl f_enumerate (dCons (dVar 0) (dNil))) (dGt (n := 2) rfl (dGcons (dGn (i := 3) sc.nd rfl (by first | exact Or.inl rfl | exact Or.inr rfl)) (dGcons (dGn (i := 4) sc.nd rfl (by first | exact Or.inl rfl | exact Or.inr rfl)) (dGnil)))) (dBcons (dIfS (dTst (dCallB (m_isi isi) call_isi rfl f_isinstance bb_isinstance (dCons (dVar 4) (dCons (dGC (k := "Card") hc_Card rfl g_Card) (dNil))))) (dBone (dAug (i := 2) m_addI ip_add sc.nd rfl (by first | exact Or.inl rfl | exact Or.inr rfl) (dInt))) (dBone (dIfS (dTst (dCall G_is_natural (hr.mono (by decide)) rfl g_is_natural F_is_natural.kp B_is_natural (dCons (dVar 4) (dNil)))) (dBone (dAug (i := 1) m_addI ip_add sc.nd rfl (by first | exact Or.inl rfl | exact Or.inr rfl) (dInt))) (dBone (dRet (dVar 3)))))) (dBone (dIfS (PW.pt (dOrT (dTcmp op_gt m_gt (dVar 1) (dGI rfl k_MOST_BILLS) (nomark _)) (dOr1 (dTcmp op_gt m_gt (dVar 2) (dGI rfl k_MOST_COMING) (nomark _))))) (dBone (dRet (dVar 3))) (dBnil))))) (dBone (dRet (dNon)))))
theorem bi_Course___init__ {K : PySem.W.Frag} {mg : Str → Option Value} (C : HF fa fn K mg) : Binds K (fdOf K (Pl.ad K (.meth "Course" "__init__"))) ["self", "events"] [] := (C.fun_ 8 (d := d_Course___init__) rfl).bindsN fun _ _ _ _ _ _ us hl => match us, hl with | [_, _], _ => rfl
theorem ok_Course___init__ (C : HF fa fn K mg) : FnOk P w K mg base CX0 4 (Pl.ad K (.meth "Course" "__init__")) (fdOf K (Pl.ad K (.meth "Course" "__init__"))) ["self", "events"] (spI (WW cs K) "Course" 1 mf_Course___init__) := by
  have isi := isi_ok (C.fact 0 rfl)
  have f_tuple := C.free 11 rfl
  have f_isinstance := C.free 12 rfl
  have G_wrong_event := ok_wrong_event (P := P) (w := w) (base := base) C
  have F_wrong_event := C.fun_ 7 (d := d_wrong_event) rfl
  have B_wrong_event := bi_wrong_event C
  have g_wrong_event := C.glo 22 rfl
  have n_Course_passed := C.noat 23 rfl
  have c_Course := C.cls 24 rfl
  have sc := sc_Course___init__
  refine fn_init (ck := "Course") (nm := "self") (N := ["events", "wrong"]) (n := 1) (C.fun_ 8 (d := d_Course___init__) rfl) sc_Course___init__ rfl fun cdv A outer s H E p F0 H0 sf hr => ?_
  exact dBcons (dIfS (dNotT (dTst (dCallB (m_isi isi) call_isi rfl f_isinstance bb_isinstance (dCons (dVar 1) (dCons (dTy rfl f_tuple bb_tuple) (dNil)))))) (dBone (dNever)) (dBnil)) (dBcons (dSet (i := 2) sc.nd rfl (by first | exact Or.inl rfl | exact Or.inr rfl) (dCall G_wrong_event (hr.mono (by decide)) rfl g_wrong_event F_wrong_event.kp B_wrong_event (dCons (dVar 1) (dNil)))) (dBcons (dIfS (dTcmp op_isntA m_isnt (dVar 2) (dNon) (nomark _)) (dBone (dNever)) (dBnil)) (dBone (dSelfSet (ck := "Course") 0 c_Course n_Course_passed (dVar 1)))))
theorem bi_Card___init__ {K : PySem.W.Frag} {mg : Str → Option Value} (C : HF fa fn K mg) : Binds K (fdOf K (Pl.ad K (.meth "Card" "__init__"))) ["self", "balance", "limit"] [] := (C.fun_ 9 (d := d_Card___init__) rfl).bindsN fun _ _ _ _ _ _ us hl => match us, hl with | [_, _, _], _ => rfl
theorem ok_Card___init__ (C : HF fa fn K mg) : FnOk P w K mg base CX0 3 (Pl.ad K (.meth "Card" "__init__")) (fdOf K (Pl.ad K (.meth "Card" "__init__"))) ["self", "balance", "limit"] (spI (WW cs K) "Card" 2 mf_Card___init__) := by
  have G_is_natural := ok_is_natural (P := P) (w := w) (base := base) C
  have F_is_natural := C.fun_ 6 (d := d_is_natural) rfl
  have B_is_natural := bi_is_natural C
  have g_is_natural := C.glo 19 rfl
  obtain ⟨_, k_MOST_DAYS⟩ := C.int 26 rfl
  have n_Card_held := C.noat 27 rfl
  have c_Card := C.cls 28 rfl
  have n_Card_daily := C.noat 29 rfl
  have sc := sc_Card___init__
  refine fn_init (ck := "Card") (nm := "self") (N := ["balance", "limit"]) (n := 2) (C.fun_ 9 (d := d_Card___init__) rfl) sc_Card___init__ rfl fun cdv A outer s H E p F0 H0 sf hr => ?_
  exact dBcons (dIfS (dNotT (dTst (dCall G_is_natural (hr.mono (by decide)) rfl g_is_natural F_is_natural.kp B_is_natural (dCons (dVar 1) (dNil))))) (dBone (dNever)) (dBnil)) (dBcons (dIfS (PW.pt (dOrT (dNotT (dTst (dCall G_is_natural (hr.mono (by decide)) rfl g_is_natural F_is_natural.kp B_is_natural (dCons (dVar 2) (dNil))))) (dOr1 (dTcmp (op_eqD hr.units) m_eq (dVar 2) (dInt) (nomark _))))) (dBone (dNever)) (dBnil)) (dBcons (dIfS (dTcmp op_gt m_gt (dVar 1) (dBin op_mulA m_mul (dGI rfl k_MOST_DAYS) (dVar 2)) (nomark _)) (dBone (dNever)) (dBnil)) (dBcons (dSelfSet (ck := "Card") 0 c_Card n_Card_held (dVar 1)) (dBone (dSelfSet (ck := "Card") 0 c_Card n_Card_daily (dVar 2))))))
theorem bi__law_course {K : PySem.W.Frag} {mg : Str → Option Value} (C : HF fa fn K mg) : Binds K (fdOf K (Pl.ad K (.glob "_law_course"))) ["_law_rows"] [] := (C.fun_ 10 (d := d__law_course) rfl).bindsN fun _ _ _ _ _ _ us hl => match us, hl with | [_], _ => rfl
theorem ok__law_course (C : HF fa fn K mg) : FO cs P w K mg base 6 (.glob "_law_course") ["_law_rows"] 1 mf__law_course := by
  have G_Course___init__ := ok_Course___init__ (P := P) (w := w) (base := base) C
  have F_Course___init__ := C.fun_ 8 (d := d_Course___init__) rfl
  have B_Course___init__ := bi_Course___init__ C
  have m_Course := C.mkr 25 rfl
  have isi := isi_ok (C.fact 0 rfl)
  have f_tuple := C.free 11 rfl
  have f_isinstance := C.free 12 rfl
  have G_Card___init__ := ok_Card___init__ (P := P) (w := w) (base := base) C
  have F_Card___init__ := C.fun_ 9 (d := d_Card___init__) rfl
  have B_Card___init__ := bi_Card___init__ C
  have m_Card := C.mkr 30 rfl
  have g_Card := C.glo 16 rfl
  have g_Course := C.glo 31 rfl
  have sc := sc__law_course
  refine fn_mir (C.fun_ 10 (d := d__law_course) rfl) sc__law_course fun cdv A outer s H E p F0 hr => ?_
  exact dBone (dRet (dMake (ck := "Course") hc_Course m_Course G_Course___init__ (hr.mono (by decide)) rfl g_Course B_Course___init__ (dCons (dCallT m_tup call_tuple_of rfl f_tuple bb_tuple (dCons (dFz (dLcO (own := [("_law_row", 1)]) rfl sc.nd (dIany (dVar 0)) (blkOk_by (by kernel_rfl)) (fun _ _ _ _ _ => dGn (i := 1) sc.nd rfl (by first | exact Or.inl rfl | exact Or.inr rfl)) (fun _ _ _ _ _ => dYes) (fun _ _ _ _ _ => dIf (dTst (dCallB (m_isi isi) call_isi rfl f_isinstance bb_isinstance (dCons (dVar 1) (dCons (dTy rfl f_tuple bb_tuple) (dNil))))) (dMake (ck := "Card") hc_Card m_Card G_Card___init__ (hr.mono (by decide)) rfl g_Card B_Card___init__ (dCons (dIx ix_seq m_ix (dVar 1) (dInt)) (dCons (dIx ix_seq m_ix (dVar 1) (dInt)) (dNil)))) (dVar 1)))) (dNil))) (dNil))))
theorem bi_number_of {K : PySem.W.Frag} {mg : Str → Option Value} (C : HF fa fn K mg) : Binds K (fdOf K (Pl.ad K (.glob "number_of"))) ["text"] [] := (C.fun_ 11 (d := d_number_of) rfl).bindsN fun _ _ _ _ _ _ us hl => match us, hl with | [_], _ => rfl
theorem ok_number_of (C : HF fa fn K mg) : FO cs P w K mg base 1 (.glob "number_of") ["text"] 1 mf_number_of := by
  obtain ⟨_, k_DIGITS⟩ := C.str 33 rfl
  have f_all := C.free 34 rfl
  have f_int := C.free 6 rfl
  have sc := sc_number_of
  refine fn_mir (C.fun_ 11 (d := d_number_of) rfl) sc_number_of fun cdv A outer s H E p F0 hr => ?_
  exact dBcons (dIfS (PW.pt (dOrT (dTcmp (op_eqD hr.units) m_eq (dVar 0) (dStr) (nomark _)) (dOr1 (dNotT (dTst (dCallB m_all (cr_all rfl) rfl f_all bb_all (dCons (dFz (dLcO (own := [("sign", 1)]) rfl sc.nd (dIany (dVar 0)) (blkOk_by (by kernel_rfl)) (fun _ _ _ _ _ => dGn (i := 1) sc.nd rfl (by first | exact Or.inl rfl | exact Or.inr rfl)) (fun _ _ _ _ _ => dYes) (fun _ _ _ _ _ => dCmp op_inA m_in (dVar 1) (dGS rfl k_DIGITS) rfl))) (dNil)))))))) (dBone (dRet (dNon))) (dBnil)) (dBone (dRet (dIf (PW.pt (dOrT (dTcmp (op_eqD hr.units) m_eq (dVar 0) (dStr) (nomark _)) (dOr1 (dTcmp (op_neD hr.units) m_ne (dIx ix_seq m_ix (dVar 0) (dInt)) (dStr) (nomark _))))) (dCallT m_intS call_int_str rfl f_int bb_int (dCons (dVar 0) (dNil))) (dNon))))
theorem bi_card_of {K : PySem.W.Frag} {mg : Str → Option Value} (C : HF fa fn K mg) : Binds K (fdOf K (Pl.ad K (.glob "card_of"))) ["text"] [] := (C.fun_ 12 (d := d_card_of) rfl).bindsN fun _ _ _ _ _ _ us hl => match us, hl with | [_], _ => rfl
theorem ok_card_of (C : HF fa fn K mg) : FO cs P w K mg base 5 (.glob "card_of") ["text"] 1 mf_card_of := by
  have isi := isi_ok (C.fact 0 rfl)
  have f_str := C.free 13 rfl
  have f_isinstance := C.free 12 rfl
  have G_number_of := ok_number_of (P := P) (w := w) (base := base) C
  have F_number_of := C.fun_ 11 (d := d_number_of) rfl
  have B_number_of := bi_number_of C
  have g_number_of := C.glo 35 rfl
  have f_len := C.free 1 rfl
  obtain ⟨_, k_MOST_DAYS⟩ := C.int 26 rfl
  have G_Card___init__ := ok_Card___init__ (P := P) (w := w) (base := base) C
  have F_Card___init__ := C.fun_ 9 (d := d_Card___init__) rfl
  have B_Card___init__ := bi_Card___init__ C
  have m_Card := C.mkr 30 rfl
  have g_Card := C.glo 16 rfl
  have sc := sc_card_of
  refine fn_mir (C.fun_ 12 (d := d_card_of) rfl) sc_card_of fun cdv A outer s H E p F0 hr => ?_
  exact dBcons (dIfS (dNotT (dTst (dCallB (m_isi isi) call_isi rfl f_isinstance bb_isinstance (dCons (dVar 0) (dCons (dTy rfl f_str bb_str) (dNil)))))) (dBone (dRet (dNon))) (dBnil)) (dBcons (dLcSet 1 [] (own := [("word", 4)]) rfl sc.nd rfl rfl (sw_true rfl rfl rfl (by kernel_rfl)) (dIany (dSplit (dVar 0) (dStr))) (blkOk_by (by kernel_rfl)) (fun _ _ _ _ _ => dGn (i := 4) sc.nd rfl (by first | exact Or.inl rfl | exact Or.inr rfl)) (fun _ _ _ _ _ => dYes) (fun _ _ _ _ _ => dCall G_number_of (hr.mono (by decide)) rfl g_number_of F_number_of.kp B_number_of (dCons (dVar 4) (dNil)))) (dBcons (dIfS (PW.pt (dOrT (dTcmp (op_neD hr.units) m_ne (dCallB m_len call_lenA rfl f_len bb_len (dCons (dVar 1) (dNil))) (dInt) (nomark _)) (dOrT (dTcmp op_isA m_is (dIx ix_seq m_ix (dVar 1) (dInt)) (dNon) (nomark _)) (dOr1 (dTcmp op_isA m_is (dIx ix_seq m_ix (dVar 1) (dInt)) (dNon) (nomark _)))))) (dBone (dRet (dNon))) (dBnil)) (dBcons (dAsg (dVar 1) (dGl (n := 2) rfl (dGcons (dGn (i := 2) sc.nd rfl (by first | exact Or.inl rfl | exact Or.inr rfl)) (dGcons (dGn (i := 3) sc.nd rfl (by first | exact Or.inl rfl | exact Or.inr rfl)) (dGnil))))) (dBone (dRet (dIf (PW.pt (dAndT (dTcmp op_gt m_gt (dVar 3) (dInt) (nomark _)) (dAnd1 (dTcmp op_le m_le (dVar 2) (dBin op_mulA m_mul (dGI rfl k_MOST_DAYS) (dVar 3)) (nomark _))))) (dMake (ck := "Card") hc_Card m_Card G_Card___init__ (hr.mono (by decide)) rfl g_Card B_Card___init__ (dCons (dVar 2) (dCons (dVar 3) (dNil)))) (dNon)))))))
theorem bi_event_of {K : PySem.W.Frag} {mg : Str → Option Value} (C : HF fa fn K mg) : Binds K (fdOf K (Pl.ad K (.glob "event_of"))) ["word"] [] := (C.fun_ 13 (d := d_event_of) rfl).bindsN fun _ _ _ _ _ _ us hl => match us, hl with | [_], _ => rfl
theorem ok_event_of (C : HF fa fn K mg) : FO cs P w K mg base 6 (.glob "event_of") ["word"] 1 mf_event_of := by
  have G_card_of := ok_card_of (P := P) (w := w) (base := base) C
  have F_card_of := C.fun_ 12 (d := d_card_of) rfl
  have B_card_of := bi_card_of C
  have g_card_of := C.glo 36 rfl
  have G_number_of := ok_number_of (P := P) (w := w) (base := base) C
  have F_number_of := C.fun_ 11 (d := d_number_of) rfl
  have B_number_of := bi_number_of C
  have g_number_of := C.glo 35 rfl
  have sc := sc_event_of
  refine fn_mir (C.fun_ 13 (d := d_event_of) rfl) sc_event_of fun cdv A outer s H E p F0 hr => ?_
  exact dBcons (dIfS (dTcmp (op_eqD hr.units) m_eq (dSl (dVar 0) (dOn) (dOs (dInt))) (dStr) (nomark _)) (dBone (dRet (dCall G_card_of (hr.mono (by decide)) rfl g_card_of F_card_of.kp B_card_of (dCons (dSl (dVar 0) (dOs (dInt)) (dOn)) (dNil))))) (dBnil)) (dBone (dRet (dCall G_number_of (hr.mono (by decide)) rfl g_number_of F_number_of.kp B_number_of (dCons (dVar 0) (dNil)))))
theorem bi_course_of {K : PySem.W.Frag} {mg : Str → Option Value} (C : HF fa fn K mg) : Binds K (fdOf K (Pl.ad K (.glob "course_of"))) ["text"] [] := (C.fun_ 14 (d := d_course_of) rfl).bindsN fun _ _ _ _ _ _ us hl => match us, hl with | [_], _ => rfl
theorem ok_course_of (C : HF fa fn K mg) : FO cs P w K mg base 7 (.glob "course_of") ["text"] 1 mf_course_of := by
  have isi := isi_ok (C.fact 0 rfl)
  have f_str := C.free 13 rfl
  have f_isinstance := C.free 12 rfl
  have G_event_of := ok_event_of (P := P) (w := w) (base := base) C
  have F_event_of := C.fun_ 13 (d := d_event_of) rfl
  have B_event_of := bi_event_of C
  have g_event_of := C.glo 37 rfl
  have f_tuple := C.free 11 rfl
  have G_wrong_event := ok_wrong_event (P := P) (w := w) (base := base) C
  have F_wrong_event := C.fun_ 7 (d := d_wrong_event) rfl
  have B_wrong_event := bi_wrong_event C
  have g_wrong_event := C.glo 22 rfl
  have G_Course___init__ := ok_Course___init__ (P := P) (w := w) (base := base) C
  have F_Course___init__ := C.fun_ 8 (d := d_Course___init__) rfl
  have B_Course___init__ := bi_Course___init__ C
  have m_Course := C.mkr 25 rfl
  have g_Course := C.glo 31 rfl
  have sc := sc_course_of
  refine fn_mir (C.fun_ 14 (d := d_course_of) rfl) sc_course_of fun cdv A outer s H E p F0 hr => ?_
  exact dBcons (dIfS (dNotT (dTst (dCallB (m_isi isi) call_isi rfl f_isinstance bb_isinstance (dCons (dVar 0) (dCons (dTy rfl f_str bb_str) (dNil)))))) (dBone (dRet (dNon))) (dBnil)) (dBcons (dSet (i := 1) sc.nd rfl (by first | exact Or.inl rfl | exact Or.inr rfl) (dIf (dTcmp (op_neD hr.units) m_ne (dVar 0) (dStr) (nomark _)) (dCallT m_tup call_tuple_of rfl f_tuple bb_tuple (dCons (dFz (dLcO (own := [("word", 2)]) rfl sc.nd (dIany (dSplit (dVar 0) (dStr))) (blkOk_by (by kernel_rfl)) (fun _ _ _ _ _ => dGn (i := 2) sc.nd rfl (by first | exact Or.inl rfl | exact Or.inr rfl)) (fun _ _ _ _ _ => dYes) (fun _ _ _ _ _ => dCall G_event_of (hr.mono (by decide)) rfl g_event_of F_event_of.kp B_event_of (dCons (dVar 2) (dNil))))) (dNil))) (dTup (dNil)))) (dBone (dRet (dIf (dTcmp op_isA m_is (dCall G_wrong_event (hr.mono (by decide)) rfl g_wrong_event F_wrong_event.kp B_wrong_event (dCons (dVar 1) (dNil))) (dNon) (nomark _)) (dMake (ck := "Course") hc_Course m_Course G_Course___init__ (hr.mono (by decide)) rfl g_Course B_Course___init__ (dCons (dVar 1) (dNil))) (dNon)))))
theorem bi_Course_read {K : PySem.W.Frag} {mg : Str → Option Value} (C : HF fa fn K mg) : Binds K (fdOf K (Pl.ad K (.clsm "Course" "read"))) ["cls", "text"] [] := (C.fun_ 15 (d := d_Course_read) rfl).bindsN fun _ _ _ _ _ _ us hl => match us, hl with | [_, _], _ => rfl
theorem ok_Course_read (C : HF fa fn K mg) : FO cs P w K mg base 8 (.clsm "Course" "read") ["cls", "text"] 2 mf_Course_read := by
  have G_course_of := ok_course_of (P := P) (w := w) (base := base) C
  have F_course_of := C.fun_ 14 (d := d_course_of) rfl
  have B_course_of := bi_course_of C
  have g_course_of := C.glo 38 rfl
  have sc := sc_Course_read
  refine fn_mir (C.fun_ 15 (d := d_Course_read) rfl) sc_Course_read fun cdv A outer s H E p F0 hr => ?_
  exact dBcons (dSet (i := 2) sc.nd rfl (by first | exact Or.inl rfl | exact Or.inr rfl) (dCall G_course_of (hr.mono (by decide)) rfl g_course_of F_course_of.kp B_course_of (dCons (dVar 1) (dNil)))) (dBcons (dIfS (dTcmp op_isA m_is (dVar 2) (dNon) (nomark _)) (dBone (dNever)) (dBnil)) (dBone (dRet (dVar 2))))
theorem bi_Card___eq__ {K : PySem.W.Frag} {mg : Str → Option Value} (C : HF fa fn K mg) : Binds K (fdOf K (Pl.ad K (.meth "Card" "__eq__"))) ["self", "other"] [] := (C.fun_ 16 (d := d_Card___eq__) rfl).bindsN fun _ _ _ _ _ _ us hl => match us, hl with | [_, _], _ => rfl
theorem ok_Card___eq__ (C : HF fa fn K mg) : FO cs P w K mg base 1 (.meth "Card" "__eq__") ["self", "other"] 2 mf_Card___eq__ := by
  have isi := isi_ok (C.fact 0 rfl)
  have g_Card := C.glo 16 rfl
  have f_isinstance := C.free 12 rfl
  have n_Card_held := C.noat 27 rfl
  have c_Card := C.cls 28 rfl
  have n_Card_daily := C.noat 29 rfl
  have sc := sc_Card___eq__
  refine fn_mir (C.fun_ 16 (d := d_Card___eq__) rfl) sc_Card___eq__ fun cdv A outer s H E p F0 hr => ?_
  exact dBone (dRet (dAndV (dCallB (m_isi isi) call_isi rfl f_isinstance bb_isinstance (dCons (dVar 1) (dCons (dGC (k := "Card") hc_Card rfl g_Card) (dNil)))) (dAndV (dCmp (op_eqD hr.units) m_eq (dFld (ck := "Card") (ks := ["held", "daily"]) 0 rfl (by decide) c_Card n_Card_held (dVar 0)) (dFld (ck := "Card") (ks := ["held", "daily"]) 0 rfl (by decide) c_Card n_Card_held (dVar 1)) (nomark _)) (dOneV (dCmp (op_eqD hr.units) m_eq (dFld (ck := "Card") (ks := ["held", "daily"]) 1 rfl (by decide) c_Card n_Card_daily (dVar 0)) (dFld (ck := "Card") (ks := ["held", "daily"]) 1 rfl (by decide) c_Card n_Card_daily (dVar 1)) (nomark _))))))
theorem bi_Course___eq__ {K : PySem.W.Frag} {mg : Str → Option Value} (C : HF fa fn K mg) : Binds K (fdOf K (Pl.ad K (.meth "Course" "__eq__"))) ["self", "other"] [] := (C.fun_ 17 (d := d_Course___eq__) rfl).bindsN fun _ _ _ _ _ _ us hl => match us, hl with | [_, _], _ => rfl
theorem ok_Course___eq__ (C : HF fa fn K mg) : FO cs P w K mg base 4 (.meth "Course" "__eq__") ["self", "other"] 2 mf_Course___eq__ := by
  have isi := isi_ok (C.fact 0 rfl)
  have g_Course := C.glo 31 rfl
  have f_isinstance := C.free 12 rfl
  have n_Course_passed := C.noat 23 rfl
  have c_Course := C.cls 24 rfl
  have G_Card___eq__ := ok_Card___eq__ (P := P) (w := w) (base := base) C
  have F_Card___eq__ := C.fun_ 16 (d := d_Card___eq__) rfl
  have B_Card___eq__ := bi_Card___eq__ C
  have e_Card := eqc_ok (C.fact 40 rfl)
  have sc := sc_Course___eq__
  refine fn_mir (C.fun_ 17 (d := d_Course___eq__) rfl) sc_Course___eq__ fun cdv A outer s H E p F0 hr => ?_
  exact dBone (dRet (dAndV (dCallB (m_isi isi) call_isi rfl f_isinstance bb_isinstance (dCons (dVar 1) (dCons (dGC (k := "Course") hc_Course rfl g_Course) (dNil)))) (dOneV (dCmp (op_eqT (C := (WW cs K).cl "Card") (W := WW cs K) G_Card___eq__ card_eq e_Card B_Card___eq__ rfl (hr.mono (by decide))) (m_eqT cardB_obj) (dFld (ck := "Course") (ks := ["passed"]) 0 rfl (by decide) c_Course n_Course_passed (dVar 0)) (dFld (ck := "Course") (ks := ["passed"]) 0 rfl (by decide) c_Course n_Course_passed (dVar 1)) (nomark _)))))
theorem bi_Course_events {K : PySem.W.Frag} {mg : Str → Option Value} (C : HF fa fn K mg) : Binds K (fdOf K (Pl.ad K (.prop "Course" "events"))) ["self"] [] := (C.fun_ 18 (d := d_Course_events) rfl).bindsN fun _ _ _ _ _ _ us hl => match us, hl with | [_], _ => rfl
theorem ok_Course_events (C : HF fa fn K mg) : FO cs P w K mg base 1 (.prop "Course" "events") ["self"] 1 mf_Course_events := by
  have n_Course_passed := C.noat 23 rfl
  have c_Course := C.cls 24 rfl
  have sc := sc_Course_events
  refine fn_mir (C.fun_ 18 (d := d_Course_events) rfl) sc_Course_events fun cdv A outer s H E p F0 hr => ?_
  exact dBone (dRet (dFld (ck := "Course") (ks := ["passed"]) 0 rfl (by decide) c_Course n_Course_passed (dVar 0)))
theorem bi_Card_limit {K : PySem.W.Frag} {mg : Str → Option Value} (C : HF fa fn K mg) : Binds K (fdOf K (Pl.ad K (.prop "Card" "limit"))) ["self"] [] := (C.fun_ 19 (d := d_Card_limit) rfl).bindsN fun _ _ _ _ _ _ us hl => match us, hl with | [_], _ => rfl
theorem ok_Card_limit (C : HF fa fn K mg) : FO cs P w K mg base 1 (.prop "Card" "limit") ["self"] 1 mf_Card_limit := by
  have n_Card_daily := C.noat 29 rfl
  have c_Card := C.cls 28 rfl
  have sc := sc_Card_limit
  refine fn_mir (C.fun_ 19 (d := d_Card_limit) rfl) sc_Card_limit fun cdv A outer s H E p F0 hr => ?_
  exact dBone (dRet (dFld (ck := "Card") (ks := ["held", "daily"]) 1 rfl (by decide) c_Card n_Card_daily (dVar 0)))
theorem bi_Card_balance {K : PySem.W.Frag} {mg : Str → Option Value} (C : HF fa fn K mg) : Binds K (fdOf K (Pl.ad K (.prop "Card" "balance"))) ["self"] [] := (C.fun_ 20 (d := d_Card_balance) rfl).bindsN fun _ _ _ _ _ _ us hl => match us, hl with | [_], _ => rfl
theorem ok_Card_balance (C : HF fa fn K mg) : FO cs P w K mg base 1 (.prop "Card" "balance") ["self"] 1 mf_Card_balance := by
  have n_Card_held := C.noat 27 rfl
  have c_Card := C.cls 28 rfl
  have sc := sc_Card_balance
  refine fn_mir (C.fun_ 20 (d := d_Card_balance) rfl) sc_Card_balance fun cdv A outer s H E p F0 hr => ?_
  exact dBone (dRet (dFld (ck := "Card") (ks := ["held", "daily"]) 0 rfl (by decide) c_Card n_Card_held (dVar 0)))
theorem bi_Card___str__ {K : PySem.W.Frag} {mg : Str → Option Value} (C : HF fa fn K mg) : Binds K (fdOf K (Pl.ad K (.meth "Card" "__str__"))) ["self"] [] := (C.fun_ 21 (d := d_Card___str__) rfl).bindsN fun _ _ _ _ _ _ us hl => match us, hl with | [_], _ => rfl
theorem ok_Card___str__ (C : HF fa fn K mg) : FO cs P w K mg base 1 (.meth "Card" "__str__") ["self"] 1 mf_Card___str__ := by
  have n_Card_held := C.noat 27 rfl
  have c_Card := C.cls 28 rfl
  have n_Card_daily := C.noat 29 rfl
  have sc := sc_Card___str__
  refine fn_mir (C.fun_ 21 (d := d_Card___str__) rfl) sc_Card___str__ fun cdv A outer s H E p F0 hr => ?_
  exact dBone (dRet (dFs (DJ.cons (dFmt (dFld (ck := "Card") (ks := ["held", "daily"]) 0 rfl (by decide) c_Card n_Card_held (dVar 0))) (DJ.cons (dStr) (DJ.cons (dFmt (dFld (ck := "Card") (ks := ["held", "daily"]) 1 rfl (by decide) c_Card n_Card_daily (dVar 0))) (DJ.nil))))))
theorem bi_Course___str__ {K : PySem.W.Frag} {mg : Str → Option Value} (C : HF fa fn K mg) : Binds K (fdOf K (Pl.ad K (.meth "Course" "__str__"))) ["self"] [] := (C.fun_ 22 (d := d_Course___str__) rfl).bindsN fun _ _ _ _ _ _ us hl => match us, hl with | [_], _ => rfl
theorem ok_Course___str__ (C : HF fa fn K mg) : FO cs P w K mg base 3 (.meth "Course" "__str__") ["self"] 1 mf_Course___str__ := by
  have n_Course_passed := C.noat 23 rfl
  have c_Course := C.cls 24 rfl
  have isi := isi_ok (C.fact 0 rfl)
  have g_Card := C.glo 16 rfl
  have f_isinstance := C.free 12 rfl
  have G_Card___str__ := ok_Card___str__ (P := P) (w := w) (base := base) C
  have F_Card___str__ := C.fun_ 21 (d := d_Card___str__) rfl
  have B_Card___str__ := bi_Card___str__ C
  have oF_Card___str__ := ownFm_ok (C.fact 45 rfl)
  have f_str := C.free 13 rfl
  have sc := sc_Course___str__
  refine fn_mir (C.fun_ 22 (d := d_Course___str__) rfl) sc_Course___str__ fun cdv A outer s H E p F0 hr => ?_
  exact dBone (dRet (dJoin (dStr) (dFz (dLcO (own := [("event", 1)]) rfl sc.nd (dIany (dFld (ck := "Course") (ks := ["passed"]) 0 rfl (by decide) c_Course n_Course_passed (dVar 0))) (blkOk_by (by kernel_rfl)) (fun _ _ _ _ _ => dGn (i := 1) sc.nd rfl (by first | exact Or.inl rfl | exact Or.inr rfl)) (fun _ _ _ _ _ => dYes) (fun _ _ _ _ _ => dIf (dTst (dCallB (m_isi isi) call_isi rfl f_isinstance bb_isinstance (dCons (dVar 1) (dCons (dGC (k := "Card") hc_Card rfl g_Card) (dNil))))) (dFs (DJ.cons (dStr) (DJ.cons (dFmtO (ck := "Card") G_Card___str__ (hr.mono (by decide)) B_Card___str__ oF_Card___str__ (dVar 1)) (DJ.nil)))) (dCallT m_strI call_str_int rfl f_str bb_str (dCons (dVar 1) (dNil))))))))
theorem bi__law_right {K : PySem.W.Frag} {mg : Str → Option Value} (C : HF fa fn K mg) : Binds K (fdOf K (Pl.ad K (.glob "_law_right"))) ["_law_purse_here"] [] := (C.fun_ 23 (d := d__law_right) rfl).bindsN fun _ _ _ _ _ _ us hl => match us, hl with | [_], _ => rfl
theorem ok__law_right (C : HF fa fn K mg) : FO cs P w K mg base 9 (.glob "_law_right") ["_law_purse_here"] 1 mf__law_right := by
  have G__law_events_here := ok__law_events_here (P := P) (w := w) (base := base) C
  have F__law_events_here := C.fun_ 3 (d := d__law_events_here) rfl
  have B__law_events_here := bi__law_events_here C
  have g__law_events_here := C.glo 10 rfl
  have G__law_text := ok__law_text (P := P) (w := w) (base := base) C
  have F__law_text := C.fun_ 4 (d := d__law_text) rfl
  have B__law_text := bi__law_text C
  have g__law_text := C.glo 14 rfl
  have G__law_course := ok__law_course (P := P) (w := w) (base := base) C
  have F__law_course := C.fun_ 10 (d := d__law_course) rfl
  have B__law_course := bi__law_course C
  have g__law_course := C.glo 32 rfl
  have G_Course_read := ok_Course_read (P := P) (w := w) (base := base) C
  have F_Course_read := C.fun_ 15 (d := d_Course_read) rfl
  have B_Course_read := bi_Course_read C
  have cm_Course_read := clsm_ok (C.fact 39 rfl)
  have g_Course := C.glo 31 rfl
  have isi := isi_ok (C.fact 0 rfl)
  have f_isinstance := C.free 12 rfl
  have G_Course___eq__ := ok_Course___eq__ (P := P) (w := w) (base := base) C
  have F_Course___eq__ := C.fun_ 17 (d := d_Course___eq__) rfl
  have B_Course___eq__ := bi_Course___eq__ C
  have e_Course := eqc_ok (C.fact 41 rfl)
  have G_Course_events := ok_Course_events (P := P) (w := w) (base := base) C
  have F_Course_events := C.fun_ 18 (d := d_Course_events) rfl
  have B_Course_events := bi_Course_events C
  have p_Course_events := prop_ok (C.fact 42 rfl)
  have c_Course := C.cls 24 rfl
  have f_len := C.free 1 rfl
  have f_range := C.free 4 rfl
  have f_tuple := C.free 11 rfl
  have g_Card := C.glo 16 rfl
  have G_Card_limit := ok_Card_limit (P := P) (w := w) (base := base) C
  have F_Card_limit := C.fun_ 19 (d := d_Card_limit) rfl
  have B_Card_limit := bi_Card_limit C
  have p_Card_limit := prop_ok (C.fact 43 rfl)
  have c_Card := C.cls 28 rfl
  have G_Card_balance := ok_Card_balance (P := P) (w := w) (base := base) C
  have F_Card_balance := C.fun_ 20 (d := d_Card_balance) rfl
  have B_Card_balance := bi_Card_balance C
  have p_Card_balance := prop_ok (C.fact 44 rfl)
  have f_bool := C.free 17 rfl
  have f_int := C.free 6 rfl
  have G_Course___init__ := ok_Course___init__ (P := P) (w := w) (base := base) C
  have F_Course___init__ := C.fun_ 8 (d := d_Course___init__) rfl
  have B_Course___init__ := bi_Course___init__ C
  have m_Course := C.mkr 25 rfl
  have K_kb_Course___init___1_events := kb_Course___init___1_events C
  have K_kb_Course_read_1_text := kb_Course_read_1_text C
  have G_Course___str__ := ok_Course___str__ (P := P) (w := w) (base := base) C
  have F_Course___str__ := C.fun_ 22 (d := d_Course___str__) rfl
  have B_Course___str__ := bi_Course___str__ C
  have oS_Course___str__ := own_ok (C.fact 46 rfl)
  have f_str := C.free 13 rfl
  have sc := sc__law_right
  refine fn_mir (C.fun_ 23 (d := d__law_right) rfl) sc__law_right fun cdv A outer s H E p F0 hr => ?_
  exact dBcons (dSet (i := 1) sc.nd rfl (by first | exact Or.inl rfl | exact Or.inr rfl) (dCall G__law_events_here (hr.mono (by decide)) rfl g__law_events_here F__law_events_here.kp B__law_events_here (dCons (dVar 0) (dNil)))) (dBcons (dPar (i := 2) (j := 3) rfl sc.nd rfl rfl (by decide) rfl rfl (dMsh (dCall G__law_course (hr.mono (by decide)) rfl g__law_course F__law_course.kp B__law_course (dCons (dVar 1) (dNil))) (dMsh (dCall G__law_text (hr.mono (by decide)) rfl g__law_text F__law_text.kp B__law_text (dCons (dVar 1) (dNil))) (dMnil)))) (dBcons (dSet (i := 4) sc.nd rfl (by first | exact Or.inl rfl | exact Or.inr rfl) (dCMet1 (ck := "Course") hc_Course (dGC (k := "Course") hc_Course rfl g_Course) cm_Course_read G_Course_read (hr.mono (by decide)) B_Course_read (dCons (dVar 3) (dNil)))) (dBcons (dIfS (PW.pt (dOrT (dNotT (dTst (dCallB (m_isi isi) call_isi rfl f_isinstance bb_isinstance (dCons (dVar 4) (dCons (dGC (k := "Course") hc_Course rfl g_Course) (dNil)))))) (dOrT (dNotT (dTeqO (ck := "Course") G_Course___eq__ (hr.mono (by decide)) B_Course___eq__ e_Course (dVar 4) (dVar 2))) (dOr1 (dTcmp (op_neD hr.units) m_ne (dCallB m_len call_lenA rfl f_len bb_len (dCons (dProp (ck := "Course") (dVar 4) c_Course p_Course_events G_Course_events (hr.mono (by decide)) B_Course_events) (dNil))) (dCallB m_len call_lenA rfl f_len bb_len (dCons (dVar 1) (dNil))) (nomark _)))))) (dBone (dRet (dBl))) (dBnil)) (dBcons (dFor PassesOwn.never rfl (dIrng1 rfl f_range (dCons (dCallB m_len call_lenA rfl f_len bb_len (dCons (dVar 1) (dNil))) (dNil))) (dGn (i := 5) sc.nd rfl (by first | exact Or.inl rfl | exact Or.inr rfl)) (dBcons (dSet (i := 6) sc.nd rfl (by first | exact Or.inl rfl | exact Or.inr rfl) (dIx ix_seq m_ix (dProp (ck := "Course") (dVar 4) c_Course p_Course_events G_Course_events (hr.mono (by decide)) B_Course_events) (dVar 5))) (dBone (dIfS (dTst (dCallB (m_isi isi) call_isi rfl f_isinstance bb_isinstance (dCons (dIx ix_seq m_ix (dVar 1) (dVar 5)) (dCons (dTy rfl f_tuple bb_tuple) (dNil))))) (dBone (dIfS (PW.pt (dOrT (dNotT (dTst (dCallB (m_isi isi) call_isi rfl f_isinstance bb_isinstance (dCons (dVar 6) (dCons (dGC (k := "Card") hc_Card rfl g_Card) (dNil)))))) (dOr1 (dTcmp (op_neD hr.units) m_ne (dTup (dCons (dProp (ck := "Card") (dVar 6) c_Card p_Card_balance G_Card_balance (hr.mono (by decide)) B_Card_balance) (dCons (dProp (ck := "Card") (dVar 6) c_Card p_Card_limit G_Card_limit (hr.mono (by decide)) B_Card_limit) (dNil)))) (dIx ix_seq m_ix (dVar 1) (dVar 5)) (nomark _))))) (dBone (dRet (dBl))) (dBnil))) (dBone (dIfS (PW.pt (dOrT (dTst (dCallB (m_isi isi) call_isi rfl f_isinstance bb_isinstance (dCons (dVar 6) (dCons (dTy rfl f_bool bb_bool) (dNil))))) (dOrT (dNotT (dTst (dCallB (m_isi isi) call_isi rfl f_isinstance bb_isinstance (dCons (dVar 6) (dCons (dTy rfl f_int bb_int) (dNil)))))) (dOr1 (dTcmp (op_neD hr.units) m_ne (dVar 6) (dIx ix_seq m_ix (dVar 1) (dVar 5)) (nomark _)))))) (dBone (dRet (dBl))) (dBnil))))))) (dBcons (dSet (i := 7) sc.nd rfl (by first | exact Or.inl rfl | exact Or.inr rfl) (dFz (dLstO (dCons (dCMetK (ks := ["text"]) (ck := "Course") hc_Course (dGC (k := "Course") hc_Course rfl g_Course) cm_Course_read G_Course_read (hr.mono (by decide)) K_kb_Course_read_1_text (dKcons (dVar 3) (dKnil))) (dCons (dMakeK (ks := ["events"]) (ck := "Course") (perm' := [0]) hc_Course m_Course G_Course___init__ (hr.mono (by decide)) rfl g_Course K_kb_Course___init___1_events (dKcons (dProp (ck := "Course") (dVar 2) c_Course p_Course_events G_Course_events (hr.mono (by decide)) B_Course_events) (dKnil)) (fun _ _ => rfl)) (dNil)))))) (dBcons (dIfS (PW.pt (dOrT (dNotT (dTeqO (ck := "Course") G_Course___eq__ (hr.mono (by decide)) B_Course___eq__ e_Course (dIx ix_seq m_ix (dVar 7) (dInt)) (dVar 2))) (dOrT (dNotT (dTeqO (ck := "Course") G_Course___eq__ (hr.mono (by decide)) B_Course___eq__ e_Course (dIx ix_seq m_ix (dVar 7) (dInt)) (dVar 2))) (dOr1 (dTcmp op_ne m_neS (dStrO (ck := "Course") G_Course___str__ (hr.mono (by decide)) B_Course___str__ oS_Course___str__ rfl f_str (dIx ix_seq m_ix (dVar 7) (dInt))) (dVar 3) (nomark _)))))) (dBone (dRet (dBl))) (dBnil)) (dBone (dRet (dAndV (dCmp op_eq m_eqS (dStrO (ck := "Course") G_Course___str__ (hr.mono (by decide)) B_Course___str__ oS_Course___str__ rfl f_str (dVar 4)) (dVar 3) (nomark _)) (dAndV (dCmp op_eq m_eqS (dStrO (ck := "Course") G_Course___str__ (hr.mono (by decide)) B_Course___str__ oS_Course___str__ rfl f_str (dVar 2)) (dVar 3) (nomark _)) (dOneV (dCmp op_eq m_eqS (dStrO (ck := "Course") G_Course___str__ (hr.mono (by decide)) B_Course___str__ oS_Course___str__ rfl f_str (dCMet1 (ck := "Course") hc_Course (dGC (k := "Course") hc_Course rfl g_Course) cm_Course_read G_Course_read (hr.mono (by decide)) B_Course_read (dCons (dStrO (ck := "Course") G_Course___str__ (hr.mono (by decide)) B_Course___str__ oS_Course___str__ rfl f_str (dVar 4)) (dNil)))) (dVar 3) (nomark _)))))))))))))
theorem bi__law_purse {K : PySem.W.Frag} {mg : Str → Option Value} (C : HF fa fn K mg) : Binds K (fdOf K (Pl.ad K (.glob "_law_purse"))) ["_law_script", "_law_spot"] [] := (C.fun_ 24 (d := d__law_purse) rfl).bindsN fun _ _ _ _ _ _ us hl => match us, hl with | [_, _], _ => rfl
theorem okL__law_purse (C : HF fa fn K mg) : FnOk P w K mg base CX0 1 (Pl.ad K (.glob "_law_purse")) (fdOf K (Pl.ad K (.glob "_law_purse"))) ["_law_script", "_law_spot"] (spL (WW cs K) 2 mfL__law_purse) := by
  have f_int := C.free 6 rfl
  have f_len := C.free 1 rfl
  have f_abs := C.free 47 rfl
  have sc := sc__law_purse
  refine fn_mirL (C.fun_ 24 (d := d__law_purse) rfl) sc__law_purse fun cdv A outer s H E p F0 hr => ?_
  exact dBcons (dSet (i := 2) sc.nd rfl (by first | exact Or.inl rfl | exact Or.inr rfl) (dBin op_addA m_add (dBin op_mulA m_mul (dInt) (dBin op_addA m_add (dVar 1) (dInt))) (dInt))) (dBcons (dFor PassesOwn.never rfl (dIany (dBin op_addA m_add (dSl (dVar 0) (dOn) (dOs (dInt))) (dSl (dVar 0) (dOs (dVar 1)) (dOs (dBin op_addA m_add (dVar 1) (dInt)))))) (dGn (i := 3) sc.nd rfl (by first | exact Or.inl rfl | exact Or.inr rfl)) (dBone (dSet (i := 2) sc.nd rfl (by first | exact Or.inl rfl | exact Or.inr rfl) (dBin op_mod m_mod (dCallT m_int1 call_int1 rfl f_int bb_int (dCons (dBin op_mulA m_mul (dBin op_addA m_add (dBin op_addA m_add (dBin op_mulA m_mul (dVar 2) (dInt)) (dVar 3)) (dInt)) (dInt)) (dNil))) (dInt))))) (dBcons (dSet (i := 4) sc.nd rfl (by first | exact Or.inl rfl | exact Or.inr rfl) (dIf (dTcmp op_lt m_lt (dVar 1) (dCallB m_len call_lenA rfl f_len bb_len (dCons (dVar 0) (dNil))) (nomark _)) (dIx ix_seq m_ix (dVar 0) (dVar 1)) (dInt))) (dBone (dRetL (dLstO (dCons (dVar 2) (dCons (dIf (dTcmp op_ge m_ge (dCallB m_abs call_abs rfl f_abs bb_abs (dCons (dVar 4) (dNil))) (dBin op_pow m_pow (dInt) (dInt)) (nomark _)) (dCallB m_abs call_abs rfl f_abs bb_abs (dCons (dVar 4) (dNil))) (dInt)) (dNil))))))))
theorem bi_law {K : PySem.W.Frag} {mg : Str → Option Value} (C : HF fa fn K mg) : Binds K (fdOf K (Pl.ad K (.glob "law"))) ["_law_script"] [] := (C.fun_ 25 (d := d_law) rfl).bindsN fun _ _ _ _ _ _ us hl => match us, hl with | [_], _ => rfl
theorem ok_law (C : HF fa fn K mg) : FO cs P w K mg base 10 (.glob "law") ["_law_script"] 1 mf_law := by
  have f_len := C.free 1 rfl
  have f_min := C.free 2 rfl
  have f_max := C.free 3 rfl
  have f_range := C.free 4 rfl
  have G__law_right := ok__law_right (P := P) (w := w) (base := base) C
  have F__law_right := C.fun_ 23 (d := d__law_right) rfl
  have B__law_right := bi__law_right C
  have GL__law_purse := okL__law_purse (P := P) (w := w) (base := base) C
  have F__law_purse := C.fun_ 24 (d := d__law_purse) rfl
  have B__law_purse := bi__law_purse C
  have g__law_purse := C.glo 48 rfl
  have g__law_right := C.glo 49 rfl
  have f_all := C.free 34 rfl
  have sc := sc_law
  refine fn_mir (C.fun_ 25 (d := d_law) rfl) sc_law fun cdv A outer s H E p F0 hr => ?_
  exact dBone (dRet (dCallB m_all (cr_all rfl) rfl f_all bb_all (dCons (dFz (dLcO (own := [("_law_spot", 1)]) rfl sc.nd (dIrng1 rfl f_range (dCons (dCallB m_max (cr_maxA rfl) rfl f_max bb_max (dCons (dInt) (dCons (dCallB m_min (cr_minA rfl) rfl f_min bb_min (dCons (dCallB m_len call_lenA rfl f_len bb_len (dCons (dVar 0) (dNil))) (dCons (dInt) (dNil)))) (dNil)))) (dNil))) (blkOk_by (by kernel_rfl)) (fun _ _ _ _ _ => dGn (i := 1) sc.nd rfl (by first | exact Or.inl rfl | exact Or.inr rfl)) (fun _ _ _ _ _ => dYes) (fun _ _ _ _ _ => dWith G__law_right (hr.mono (by decide)) rfl g__law_right F__law_right.kp B__law_right (dCallL GL__law_purse (hr.mono (by decide)) rfl g__law_purse F__law_purse.kp B__law_purse (dCons (dVar 0) (dCons (dVar 1) (dNil))))))) (dNil))))
theorem glaw (C : HF fa fn K mg) : mg "law" = some (.ref (ga K "law")) := C.glo 50 rfl
theorem flaw (C : HF fa fn K mg) : FunP K d_law := C.fun_ 25 rfl
end
end G27

set_option maxHeartbeats 0
namespace G27
open PySem PySem.Spec PyProof.Rows L2 Mi He
abbrev RR : PySem.W.OpenRow := PySem.W.OpenLaw.row PySem.Challenge.rw_sparepay_k27_course_texts_read_back
def loose : List Str := [("_wall" : Str), ("WrongValue" : Str), ("InvalidText" : Str), ("InvalidAmount" : Str), ("NotACourse" : Str), ("InvalidEvents" : Str), ("MOST_DAYS" : Str), ("MOST_BILLS" : Str), ("MOST_COMING" : Str), ("DIGITS" : Str), ("is_integer" : Str), ("is_natural" : Str), ("number_of" : Str), ("Card" : Str), ("card_of" : Str), ("wrong_event" : Str), ("event_of" : Str), ("Course" : Str), ("course_of" : Str), ("check_course" : Str), ("_law_purse" : Str), ("_law_draw" : Str), ("_law_wide" : Str), ("_law_amount" : Str), ("_law_course" : Str), ("_law_events_here" : Str), ("_law_text" : Str), ("_law_right" : Str)]
abbrev hk : PySem.W.Hook := hookP 5 fa fn
def ob (s : PySem.W.SharedT) : AlP := obsPG 5 fa fn (HandSHeadRun.getT s)
theorem ob_eq (s : PySem.W.SharedT) : ob s = hk.obs s.abs := obsPG_eq (HandSHeadRun.getT_eq s)
theorem run (w : World) : HandSHeadRun.RunEq RR (PySem.W.view RR.prog [33]) hk ob 20000 loose w := fun os => Hop.map_ok (by kernel_rfl)
end G27

open PySem PySem.W PySem.Calls PyProof.Rows in
theorem G27.fin (hlaw : ∀ (ns : List Int) (o : L2.HO), ns.length ≤ 63 → ∃ u', G27.mf_law [.scr ns] (.idle o) = some (.bl true, u')) : PySem.Challenge.rw_sparepay_k27_course_texts_read_back.Holds := by
  w_on; o_law
  refine HandSHeadRun.head_any (r := OpenLaw.row PySem.Challenge.rw_sparepay_k27_course_texts_read_back) (q := view (OpenLaw.row PySem.Challenge.rw_sparepay_k27_course_texts_read_back).prog [33]) (H := G27.hk) (ob := G27.ob) (M := 20000) (loose := G27.loose) (d := HandSHeadRun.topDef (OpenLaw.row PySem.Challenge.rw_sparepay_k27_course_texts_read_back).prog 33) (kwd := []) G27.ob_eq
    (by kernel_rfl) (fun s => by kernel_rfl) G27.run (by kernel_rfl) (by kernel_rfl) (by kernel_rfl) (by rfl) (by first | assumption | decide +kernel) (by decide +kernel) ⟨rfl, rfl, rfl, rfl, rfl, by decide +kernel⟩ ?hw ?hc
  case hw => w_witness2
  case hc =>
    refine L2.walk_ofE (l := PySem.Challenge.rw_sparepay_k27_course_texts_read_back) (n := 63) (k := 10) (x := "_law_script") (CX := L2.CX0) rfl (by decide) (by kernel_rfl) ⟨rfl, by decide, by decide⟩ ?F (fun _ _ _ _ z => z)
    intro w mg fa h Y G hmg0
    obtain ⟨K, KX, c⟩ := Y
    have hmg : mg ("law" : PySem.Str) = some (.ref fa) := by
      have e : (HandSHeadRun.topDef (OpenLaw.row PySem.Challenge.rw_sparepay_k27_course_texts_read_back).prog 33).name = ("law" : PySem.Str) := by kernel_rfl
      rw [← e]
      exact hmg0
    have C : Mi.HF G27.fa G27.fn K mg := ⟨c, h, KX, G⟩
    have eg := G27.glaw C
    rw [hmg] at eg
    cases eg
    have b := L2.FunD.bindsA (ps := ["_law_script"]) (G27.flaw C) fun _ _ _ _ _ _ us hl => match us, hl with | [_], _ => rfl
    refine ⟨K, _, Mi.spM (Mi.WW G27.cs K) 1 G27.mf_law, KX, fun s v => b s [v] rfl, fun H a ns hl _ hS => Mi.law_sp (C.fact 51 rfl) 63 hlaw H a ns hl hS, fun base _ _ => G27.ok_law C⟩

theorem PySem.Challenge.cw_sparepay_k27_course_texts_read_back_holds : PySem.Challenge.rw_sparepay_k27_course_texts_read_back.Holds := by
  exact G27.fin G27.hlaw
